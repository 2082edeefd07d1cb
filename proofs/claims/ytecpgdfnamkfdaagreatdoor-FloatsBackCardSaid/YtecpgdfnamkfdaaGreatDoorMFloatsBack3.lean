/- The law FloatsBack: the walks through its functions and its plain law (part 3). Own texts and the kit's printed words for this seat, without what the law does not use: put together by merge.py (of this work). -/
import Derived.Test.YtecpgdfnamkfdaaGreatDoorMFloatsBack2
section
namespace Go.Proofs.YtecpgdfnamkfdaaGreatDoor.Fn
open Go.RowKit Go.Proofs.YtecpgdfnamkfdaaGreatDoorW.PrintWords Go.Proofs.YtecpgdfnamkfdaaGreatDoorW.PrintLast Go.Proofs.YtecpgdfnamkfdaaGreatDoorW.PrintMore
attribute [local go_sem] fnW_0 fnW_1 fnW_2 fnW_3 fnW_4 fnW_5 fnW_guard fnW_eql zaK zaL zaQ zaR
set_option linter.unusedVariables false
set_option linter.unusedSimpArgs false
mutual
def zai.j0:Nat→ByteArray→Int→Int→Int→Int→Int→Int→Int→Bool→Int→Option (ByteArray)
 |0,_,_,_,_,_,_,_,_,_,_=>none
 |k+1,x3,x4,x5,B,D,E,I,A,J,K=>if A<0 then((za9.f x4).bind fun M=>((zbm.f M (⟨#[48]⟩:ByteArray)).bind fun O=>(zai.j4 k x3 x5 O B D E I A J K))) else(if A≥16 then((za9.f x4).bind fun U=>((za7.f U A).bind fun X=>(zai.j4 k x3 x5 X B D E I A J K))) else(if 0≤(IntKind.u64.wrap (64-(IntKind.u64.wrap (wrap64 (64-(wrap64 (4*A))))))) then(if(IntKind.u64.wrap (wrap64 (64-(wrap64 (4*A)))))=64 then(zai.j1 k x3 x4 x5 (⟨#[]⟩:ByteArray) (IntKind.u64.wrap (wrap64 (64-(wrap64 (4*A))))) x4 B D E I A J K) else(zai.j1 k x3 x4 x5 (⟨#[]⟩:ByteArray) (IntKind.u64.wrap (wrap64 (64-(wrap64 (4*A))))) (shl .u64 x4 (IntKind.u64.wrap (64-(IntKind.u64.wrap (wrap64 (64-(wrap64 (4*A)))))))) B D E I A J K)) else(none)))
def zai.j4:Nat→ByteArray→Int→ByteArray→Int→Int→Int→Int→Int→Bool→Int→Option (ByteArray)
 |0,_,_,_,_,_,_,_,_,_,_=>none
 |k+1,x3,x5,x7,B,D,E,I,J,K,A=>(zaJ.f B D E I J K A x3 x7).bind fun O=>((zbq.f (⟨#[112]⟩:ByteArray) x5 2).bind fun U=>((zaC.f (([(⟨#[48,120]⟩:ByteArray),O,U]:List ByteArray))).bind fun M=>(if A=88 then((zbz.f M).bind fun X=>(some X)) else(some M))))
def zai.j1:Nat→ByteArray→Int→Int→ByteArray→Int→Int→Int→Int→Int→Int→Int→Bool→Int→Option (ByteArray)
 |0,_,_,_,_,_,_,_,_,_,_,_,_,_=>none
 |k+1,x3,x4,x5,x7,x8,x9,B,D,E,I,A,J,K=>if 0≤x8 then(if(Int.tmod (shr .u64 x4 x8) 2)=1 then(zai.j2 k x3 x5 x7 x8 x9 (shr .u64 x4 x8) true B D E I A J K) else(if A=0 then(zai.j2 k x3 x5 x7 x8 x9 (shr .u64 x4 x8) (x3.toList==([49]:List UInt8)) B D E I A J K) else(zai.j2 k x3 x5 x7 x8 x9 (shr .u64 x4 x8) false B D E I A J K))) else(none)
def zai.j2:Nat→ByteArray→Int→ByteArray→Int→Int→Int→Bool→Int→Int→Int→Int→Int→Bool→Int→Option (ByteArray)
 |0,_,_,_,_,_,_,_,_,_,_,_,_,_,_=>none
 |k+1,x3,x5,x7,x8,x9,M,O,A,B,D,E,I,J,K=>if x9>9223372036854775808 then(zai.j3 k x3 x5 x7 x8 M true A B D E I J K) else(if x9=9223372036854775808 then(zai.j3 k x3 x5 x7 x8 M O A B D E I J K) else(zai.j3 k x3 x5 x7 x8 M false A B D E I J K))
def zai.j3:Nat→ByteArray→Int→ByteArray→Int→Int→Bool→Int→Int→Int→Int→Int→Bool→Int→Option (ByteArray)
 |0,_,_,_,_,_,_,_,_,_,_,_,_,_=>none
 |k+1,x3,x5,x7,x8,X,Y,B,D,E,I,A,J,K=>if Y=true then(if 0≤(IntKind.u64.wrap (64-x8)) then(if(shr .u64 (IntKind.u64.wrap (X+1)) (IntKind.u64.wrap (64-x8)))>0 then(if A>0 then(if 0≤x8 then((za9.f (shl .u64 0 x8)).bind fun M=>(if 0≤A then(if A≤(M.size:Int) then(zai.j4 k x3 (wrap64 (x5+1)) (M.extract 0 (A:Int).toNat) B D E I A J K) else(none)) else(none))) else(none)) else(zai.j4 k x3 (wrap64 (x5+1)) x7 B D E I A J K)) else(if A>0 then(if 0≤x8 then((za9.f (shl .u64 (IntKind.u64.wrap (X+1)) x8)).bind fun O=>(if 0≤A then(if A≤(O.size:Int) then(zai.j4 k x3 x5 (O.extract 0 (A:Int).toNat) B D E I A J K) else(none)) else(none))) else(none)) else(zai.j4 k x3 x5 x7 B D E I A J K))) else(none)) else(if A>0 then(if 0≤x8 then((za9.f (shl .u64 X x8)).bind fun U=>(if 0≤A then(if A≤(U.size:Int) then(zai.j4 k x3 x5 (U.extract 0 (A:Int).toNat) B D E I A J K) else(none)) else(none))) else(none)) else(zai.j4 k x3 x5 x7 B D E I A J K))
end
def zai.f(k:Nat)(E:Int)(I:Int)(A:Int)(B:Int)(J:Int)(K:Bool)(M:Int):Option (ByteArray):=if A>0 then((bits_Len64.f A).bind fun D=>(if 0≤(wrap64 (64-D)) then(zai.j0 k (⟨#[49]⟩:ByteArray) (IntKind.u64.wrap ((shl .u64 A (wrap64 (64-D)))*2)) (wrap64 ((wrap64 (B+D))-1)) E I A B J K M) else(none))) else(zai.j0 k (⟨#[48]⟩:ByteArray) 0 0 E I A B J K M)
def zai.T23:Bool×List (List Nat×List Nat):=(true,[([],[]),([],[]),([0,1],[0,1]),([2],[2]),([],[]),([4],[4]),([3,5],[3,5]),([6,3,0,1,2,3,4,5,6],[6])])
def zai.B23:List Nat:=[0,0,3,7,0,16,63,127]
theorem zai.tab23:rtab .any (opsOf Tryz.f70 23)=zai.T23:=by kernel_rfl
theorem zai.bits23:waitsOk zai.T23.2 zai.B23=true:=by kernel_rfl
set_option maxHeartbeats 8000000 in
set_option maxRecDepth 100000 in
theorem zai.calls(k:Nat)(O:Int)(U:Int)(E:Int)(I:Int)(D:Int)(X:Bool)(J:Int)(r:ByteArray)(w:World)(h:zai.f k O U E I D X J=some r):
  Calls Tryz.prog 70 #[.agg #[.int .u64 O,.int .i64 U,.int .u64 E,.int .i64 I,.int .i64 D,.bool X,.int .i32 J]] w fun e w'=>e= .returned (.string r)∧Below w.heap.size w w':=by
 have ht:=Tryz.underlying74
 have HB:=zaa.mk (Below.refl w.heap.size w)
 have H:(if E>0 then((bits_Len64.f E).bind fun bo=>(if 0≤(wrap64 (64-bo)) then(zai.j0 k (⟨#[49]⟩:ByteArray) (IntKind.u64.wrap ((shl .u64 E (wrap64 (64-bo)))*2)) (wrap64 ((wrap64 (I+bo))-1)) O U E I D X J) else(none))) else(zai.j0 k (⟨#[48]⟩:ByteArray) 0 0 O U E I D X J))=some r:=h
 clear h
 have fO:=zaa.mk H
 clear H
 go_enter Tryz.func70,Tryz.ntmps70
 go_upto_if 15 with(first|((with_reducible refine zak (N:=1) rfl ?_);refine zaj rfl (N:=1) rfl (cs:=#[.int .u64 O,.int .i64 U,.int .u64 E,.int .i64 I,.int .i64 D,.bool X,.int .i32 J]) (t:=74) gz ?_;intro B hg w3 hbox hb;have g2:=gN bz hg;have A:=zaa.mk hbox;replace HB:=bN bz hb;clear hb hbox hg;obtain⟨bp,bq,br,bu,bv,aA,aB,aC,aD,aE,aF,aG,aH,aI⟩:=cz7 (W:=w3) A))
 (try simp only[Act.put,List.setIfInBounds_toArray,List.set_cons_zero,List.set_cons_succ])
 go_cut [3,4,5] (fun v3 v4 v5 wc=> ∃(kq:Nat) (az:ByteArray) (aa:Int) (ab:Int),v3= .string az∧v4= .int .u64 aa∧v5= .int .i64 ab∧zaa (zai.j0 kq az aa ab O U E I D X J=some r)∧zaa (kq≤k)∧zaa (wc.heap[B]? =some (.cells #[.int .u64 O,.int .i64 U,.int .u64 E,.int .i64 I,.int .i64 D,.bool X,.int .i32 J] 74 (0,0)))∧zaa (Below w.heap.size w wc))
 case first=>
  have H:=fO.out
  clear fO
  by_cases c5:E>0
  ·replace H:=hE H c5
   have bB:decide (0<E)=true:=decide_eq_true c5
   clear c5
   try rw[bB]
   replace H:=bs H
   obtain⟨bo,A6,H⟩:=H
   obtain⟨c9,dp⟩: ∃j_:Int,(wrap64 (64-bo))=j_:=⟨_,rfl⟩
   (first|rw[dp] at H|simp only[dp] at H)
   (try rw[dp] at A6)
   have g3:(IntKind.i64.wrap (64-bo))=c9:=(zad _).trans dp
   by_cases c8:0≤(c9)
   ·replace H:=hE H c8
    have dq:=eq_true c8
    have dr:decide (0≤(c9))=true:=decide_eq_true c8
    clear c8
    obtain⟨fP,cq⟩: ∃j_:Int,(shl .u64 E (c9))=j_:=⟨_,rfl⟩
    (first|rw[cq] at H|simp only[cq] at H)
    (try rw[cq] at A6)
    have g4:(IntKind.u64.wrap (E*2^min (c9).toNat 64))=fP:=cq
    have g5:(c9)≤64→(IntKind.u64.wrap (E*2^(c9).toNat))=fP:=zbM cq
    have H':=zaa.mk H
    clear H
    obtain⟨aJ,aK,aL,aM,aN,aO,aP,af,ag,ah,ai,aj,ak,al⟩:=cz7 (W:=w3) A
    try go_wp2_with (first|((with_reducible refine zac (f:=112) rfl ?_);refine zal (some 18) rfl rfl Tryz.func112 (by kernel_rfl) rfl #[.int .u64 E] rfl lz ?_;(with_reducible refine(bits_Len64.calls E bo _ A6.out).mono ?_);rintro e g6 ⟨rfl,hb⟩;refine⟨_,rfl,?_⟩;replace A:=kN (g:=B) (cs:=#[.int .u64 O,.int .i64 U,.int .u64 E,.int .i64 I,.int .i64 D,.bool X,.int .i32 J]) hb bk;replace HB:=bN bz hb;(try clear hb);(try clear bC);(try clear hk);(try clear hi)))
    replace A:=zaa.mk (zaw A.out)
    replace HB:=zaa.mk (zaT HB.out)
    refine zbo (n:=7) (S:=fun w'=>w'.cell? ⟨B,0,none⟩=some (.int .u64 O)∧w'.cell? ⟨B,1,none⟩=some (.int .i64 U)∧w'.cell? ⟨B,2,none⟩=some (.int .u64 E)∧w'.cell? ⟨B,3,none⟩=some (.int .i64 I)∧w'.cell? ⟨B,4,none⟩=some (.int .i64 D)∧w'.cell? ⟨B,5,none⟩=some (.bool X)∧w'.cell? ⟨B,6,none⟩=some (.int .i32 J)) (ds:=[]) #[false,false,false,false,false,false,false] (by kernel_rfl) rfl rfl ⟨(zab A.out 0).trans rfl,(zab A.out 1).trans rfl,(zab A.out 2).trans rfl,(zab A.out 3).trans rfl,(zab A.out 4).trans rfl,(zab A.out 5).trans rfl,(zab A.out 6).trans rfl⟩ (fun hHeld=>?_)
    generalize g6.drew=g7 at A HB hHeld ⊢
    refine zau (i:=0) (N:=some 19) (v:=?_) (a':=?_) #[true,false,false,false,false,false,false] rfl rfl (by kernel_rfl) (fun _ _ _ h=>h) (Or.inl ⟨by rfl,?_⟩) ?_ ?_
    rotate_left
    ·intro w'
     go_simp
     with_reducible rfl
    rotate_left
    ·simp only[Act.put,List.setIfInBounds_toArray,List.set_cons_zero,List.set_cons_succ,zad,zaf]
     rfl
    refine zau (i:=2) (N:=some 21) (v:=?_) (a':=?_) #[true,false,true,false,false,false,false] rfl rfl (by kernel_rfl) (fun _ _ _ h=>h) (Or.inl ⟨by rfl,?_⟩) ?_ ?_
    rotate_left
    ·intro w'
     go_simp
     with_reducible rfl
    rotate_left
    ·simp only[Act.put,List.setIfInBounds_toArray,List.set_cons_zero,List.set_cons_succ,zad,zaf]
     rfl
    refine zau (i:=5) (N:=some 3) (v:=?_) (a':=?_) #[true,false,true,false,false,true,false] rfl rfl (by kernel_rfl) (fun _ _ _ h=>h) (Or.inl ⟨by rfl,?_⟩) ?_ ?_
    rotate_left
    ·intro w'
     go_simp
     with_reducible rfl
    rotate_left
    ·simp only[Act.put,List.setIfInBounds_toArray,List.set_cons_zero,List.set_cons_succ,zad,zaf]
     rfl
    refine zaW (i:=1) (N:=some 20) (v:=?_) (a':=?_) #[true,true,true,false,false,true,false] rfl rfl (by kernel_rfl) (fun _ _ _ h=>h) (Or.inl ⟨by rfl,?_⟩) hHeld ?_ ?_
    rotate_left
    ·rintro w' ⟨s0,s1,s2,s3,s4,s5,s6⟩
     go_simp
     with_reducible rfl
    rotate_left
    ·simp only[Act.put,List.setIfInBounds_toArray,List.set_cons_zero,List.set_cons_succ,zad,zaf]
     rfl
    refine zau (i:=3) (N:=some 22) (v:=?_) (a':=?_) #[true,true,true,true,false,true,false] rfl rfl (by kernel_rfl) (fun _ _ _ h=>h) (Or.inl ⟨by rfl,?_⟩) ?_ ?_
    rotate_left
    ·intro w'
     go_simp
     with_reducible rfl
    rotate_left
    ·simp only[Act.put,List.setIfInBounds_toArray,List.set_cons_zero,List.set_cons_succ,zad,zaf]
     rfl
    refine zau (i:=4) (N:=some 23) (v:=?_) (a':=?_) #[true,true,true,true,true,true,false] rfl rfl (by kernel_rfl) (fun _ _ _ h=>h) (Or.inl ⟨by rfl,?_⟩) ?_ ?_
    rotate_left
    ·intro w'
     go_simp
     with_reducible rfl
    rotate_left
    ·simp only[Act.put,List.setIfInBounds_toArray,List.set_cons_zero,List.set_cons_succ,zad,zaf]
     rfl
    refine zau (i:=6) (N:=some 5) (v:=?_) (a':=?_) #[true,true,true,true,true,true,true] rfl rfl (by kernel_rfl) (fun _ _ _ h=>h) (Or.inl ⟨by rfl,?_⟩) ?_ ?_
    rotate_left
    ·intro w'
     go_simp
     with_reducible rfl
    rotate_left
    ·simp only[Act.put,List.setIfInBounds_toArray,List.set_cons_zero,List.set_cons_succ,zad,zaf]
     rfl
    refine zbx (by kernel_rfl) ?_
    obtain⟨aQ,aR,aS,aT,aU,aV,aW,am,an,ao,ap,ar,au,av⟩:=cz7 (W:=g7) A
    try go_wp2
    go_meet
    case rel=>exact⟨_,((⟨#[49]⟩:ByteArray)),(IntKind.u64.wrap ((fP)*2)),(wrap64 ((wrap64 (I+bo))-1)),rz,(by first|rfl|(simp;done)|(simp only[←cq]<;>(first|rfl|simp))|(simp[*];done)),rz,H',⟨by first|omega|exact Nat.le_refl _⟩,⟨bk⟩,⟨bz⟩⟩
   replace H:=hN H c8
   exact absurd H (by simp)
  replace H:=hN H c5
  have bB:decide (0<E)=false:=decide_eq_false c5
  clear c5
  try rw[bB]
  have H':=zaa.mk H
  clear H
  go_wp2
  go_meet
  case rel=>exact⟨_,((⟨#[48]⟩:ByteArray)),(0),(0),rz,rz,rz,H',⟨by first|omega|exact Nat.le_refl _⟩,⟨bk⟩,⟨bz⟩⟩
 case rest=>
  clear fO
  try clear c5
  try clear bB
  try clear c8
  try clear dq
  try clear dr
  try clear aJ aK aL aM aN aO aP af ag ah ai aj ak al
  try clear aQ aR aS aT aU aV aW am an ao ap ar au av
  try clear bp bq br bu bv aA aB aC aD aE aF aG aH aI
  obtain⟨kq,az,aa,ab,rfl,rfl,rfl,HA,ay,A,HB⟩:=hcut
  cases kq with
  |zero=>exact absurd HA.out (by simp[zai.j0])
  |succ gf=>
   have H:=HA.out
   clear HA
   simp only[zai.j0] at H
   have dK:=zaa.mk H
   clear H
   obtain⟨bD,bE,bG,bH,bI,bJ,bK,aX,aY,aZ,a1,a2,a3,a4⟩:=cz7 (W:=wc) A
   go_upto_if 32 with(fail)
   go_cut [5,7] (fun v5 v7 wc=> ∃(kq:Nat) (bL:Int) (bM:ByteArray),v5= .int .i64 bL∧v7= .string bM∧zaa (zai.j4 kq az bL bM O U E I D X J=some r)∧zaa (kq≤gf)∧zaa (wc.heap[B]? =some (.cells #[.int .u64 O,.int .i64 U,.int .u64 E,.int .i64 I,.int .i64 D,.bool X,.int .i32 J] 74 (0,0)))∧zaa (Below w.heap.size w wc))
   case first=>
    have H:=dK.out
    clear dK
    by_cases cy:D<0
    ·replace H:=hE H cy
     have bl:=decide_eq_true cy
     clear cy
     try rw[bl]
     replace H:=bs H
     obtain⟨dL,g8,H⟩:=H
     replace H:=bs H
     obtain⟨fL,g9,H⟩:=H
     have H':=zaa.mk H
     clear H
     go_wp2_with (first|((with_reducible refine zac (f:=113) rfl ?_);refine zal (some 34) rfl rfl Tryz.func113 (by kernel_rfl) rfl #[.int .u64 aa] rfl lz ?_;(with_reducible refine(za9.calls aa dL _ g8.out).mono ?_);rintro e hy ⟨rfl,hb⟩;refine⟨_,rfl,?_⟩;replace A:=kN (g:=B) (cs:=#[.int .u64 O,.int .i64 U,.int .u64 E,.int .i64 I,.int .i64 D,.bool X,.int .i32 J]) hb bk;replace HB:=bN bz hb;(try clear hb);(try clear bC);(try clear hk);(try clear hi))|((with_reducible refine zac (f:=80) rfl ?_);refine zal (some 35) rfl rfl Tryz.func80 (by kernel_rfl) rfl #[.string dL,.string (⟨#[48]⟩:ByteArray)] rfl lz ?_;(with_reducible refine(zbm.calls dL (⟨#[48]⟩:ByteArray) fL _ g9.out).mono ?_);rintro e hz ⟨rfl,hb⟩;refine⟨_,rfl,?_⟩;replace A:=kN (g:=B) (cs:=#[.int .u64 O,.int .i64 U,.int .u64 E,.int .i64 I,.int .i64 D,.bool X,.int .i32 J]) hb bk;replace HB:=bN bz hb;(try clear hb);(try clear bC);(try clear hk);(try clear hi)))
     go_meet
     case rel=>exact⟨_,(ab),(fL),rz,rz,H',⟨by have:=ay.out;first|omega|exact Nat.le_refl _⟩,⟨bk⟩,⟨bz⟩⟩
    replace H:=hN H cy
    have bl:=decide_eq_false cy
    clear cy
    try rw[bl]
    by_cases cz:D≥16
    ·replace H:=hE H cz
     have cA:decide (16≤D)=true:=decide_eq_true cz
     clear cz
     replace H:=bs H
     obtain⟨dM,ha,H⟩:=H
     replace H:=bs H
     obtain⟨fN,hc,H⟩:=H
     have H':=zaa.mk H
     clear H
     obtain⟨bO,bP,bQ,bR,bS,bU,bV,a5,a6,a7,a8,a9,ba,bb⟩:=cz7 (W:=wc) A
     try go_wp2
     replace A:=zaa.mk (zaw A.out)
     replace HB:=zaa.mk (zaT HB.out)
     refine zbo (n:=6) (S:=fun w'=>w'.cell? ⟨B,0,none⟩=some (.int .u64 O)∧w'.cell? ⟨B,1,none⟩=some (.int .i64 U)∧w'.cell? ⟨B,2,none⟩=some (.int .u64 E)∧w'.cell? ⟨B,3,none⟩=some (.int .i64 I)∧w'.cell? ⟨B,4,none⟩=some (.int .i64 D)∧w'.cell? ⟨B,5,none⟩=some (.bool X)∧w'.cell? ⟨B,6,none⟩=some (.int .i32 J)) (ds:=[]) #[false,false,false,false,false,false] (by kernel_rfl) rfl rfl ⟨(zab A.out 0).trans rfl,(zab A.out 1).trans rfl,(zab A.out 2).trans rfl,(zab A.out 3).trans rfl,(zab A.out 4).trans rfl,(zab A.out 5).trans rfl,(zab A.out 6).trans rfl⟩ (fun hHeld=>?_)
     generalize wc.drew=hA at A HB hHeld ⊢
     refine zau (i:=0) (N:=some 39) (v:=?_) (a':=?_) #[true,false,false,false,false,false] rfl rfl (by kernel_rfl) (fun _ _ _ h=>h) (Or.inl ⟨by rfl,?_⟩) ?_ ?_
     rotate_left
     ·intro w'
      go_simp
      with_reducible rfl
     rotate_left
     ·simp only[Act.put,List.setIfInBounds_toArray,List.set_cons_zero,List.set_cons_succ,zad,zaf]
      rfl
     refine zau (i:=2) (N:=some 41) (v:=?_) (a':=?_) #[true,false,true,false,false,false] rfl rfl (by kernel_rfl) (fun _ _ _ h=>h) (Or.inl ⟨by rfl,?_⟩) ?_ ?_
     rotate_left
     ·intro w'
      go_simp
      with_reducible rfl
     rotate_left
     ·simp only[Act.put,List.setIfInBounds_toArray,List.set_cons_zero,List.set_cons_succ,zad,zaf]
      rfl
     refine zaW (i:=3) (N:=some 42) (v:=?_) (a':=?_) #[true,false,true,true,false,false] rfl rfl (by kernel_rfl) (fun _ _ _ h=>h) (Or.inl ⟨by rfl,?_⟩) hHeld ?_ ?_
     rotate_left
     ·rintro w' ⟨s0,s1,s2,s3,s4,s5,s6⟩
      go_simp
      with_reducible rfl
     rotate_left
     ·simp only[Act.put,List.setIfInBounds_toArray,List.set_cons_zero,List.set_cons_succ,zad,zaf]
      rfl
     refine one_ (i:=1) (N:=some 40) #[true,true,true,true,false,false] rfl rfl (by kernel_rfl) (by decide) (fun K hK=>?_)
     refine za5 Tryz.func113 (by kernel_rfl) rfl #[.int .u64 aa] (by rfl) rfl rfl lz ?_
     with_reducible refine(za9.calls aa dM _ ha.out).mono ?_
     rintro e hB ⟨rfl,hb⟩
     refine⟨_,rfl,?_⟩
     replace A:=zaa.mk (zag (g:=B) (o:=.cells #[.int .u64 O,.int .i64 U,.int .u64 E,.int .i64 I,.int .i64 D,.bool X,.int .i32 J] 74 (0,0)) bk hb)
     replace HB:=zaa.mk (zam bz hb)
     (try clear hb)
     (try clear bC)
     (try clear hk)
     (try clear hi)
     refine hK.out _ _ ⟨(zab A.out 0).trans rfl,(zab A.out 1).trans rfl,(zab A.out 2).trans rfl,(zab A.out 3).trans rfl,(zab A.out 4).trans rfl,(zab A.out 5).trans rfl,(zab A.out 6).trans rfl⟩ (fun hHeld=>?_)
     clear hK K
     refine zaY (a':=?_) ?_ ?_
     rotate_left
     ·show Act.put _ (some 40) _=_
      simp only[Act.put,List.setIfInBounds_toArray,List.set_cons_zero,List.set_cons_succ,zad,zaf]
      rfl
     refine one_ (i:=4) (N:=some 43) #[true,true,true,true,true,false] rfl rfl (by kernel_rfl) (by decide) (fun K hK=>?_)
     refine za5 Tryz.func105 (by kernel_rfl) rfl #[.string dM,.int .i64 D] (by rfl) rfl rfl lz ?_
     with_reducible refine(za7.calls dM D fN _ hc.out).mono ?_
     rintro e hC ⟨rfl,hb⟩
     refine⟨_,rfl,?_⟩
     replace A:=zaa.mk (zag (g:=B) (o:=.cells #[.int .u64 O,.int .i64 U,.int .u64 E,.int .i64 I,.int .i64 D,.bool X,.int .i32 J] 74 (0,0)) bk hb)
     replace HB:=zaa.mk (zam bz hb)
     (try clear hb)
     (try clear bC)
     (try clear hk)
     (try clear hi)
     refine hK.out _ _ ⟨(zab A.out 0).trans rfl,(zab A.out 1).trans rfl,(zab A.out 2).trans rfl,(zab A.out 3).trans rfl,(zab A.out 4).trans rfl,(zab A.out 5).trans rfl,(zab A.out 6).trans rfl⟩ (fun hHeld=>?_)
     clear hK K
     refine zaY (a':=?_) ?_ ?_
     rotate_left
     ·show Act.put _ (some 43) _=_
      simp only[Act.put,List.setIfInBounds_toArray,List.set_cons_zero,List.set_cons_succ,zad,zaf]
      rfl
     refine zau (i:=5) (N:=some 7) (v:=?_) (a':=?_) #[true,true,true,true,true,true] rfl rfl (by kernel_rfl) (fun _ _ _ h=>h) (Or.inl ⟨by rfl,?_⟩) ?_ ?_
     rotate_left
     ·intro w'
      go_simp
      with_reducible rfl
     rotate_left
     ·simp only[Act.put,List.setIfInBounds_toArray,List.set_cons_zero,List.set_cons_succ,zad,zaf]
      rfl
     refine zbx (by kernel_rfl) ?_
     try go_wp2
     go_meet
     case rel=>exact⟨_,(ab),(fN),rz,rz,H',⟨by have:=ay.out;first|omega|exact Nat.le_refl _⟩,⟨bk⟩,⟨bz⟩⟩
    replace H:=hN H cz
    have cA:decide (16≤D)=false:=decide_eq_false cz
    clear cz
    obtain⟨cr,dN⟩: ∃j_:Int,(IntKind.u64.wrap (64-(IntKind.u64.wrap (wrap64 (64-(wrap64 (4*D)))))))=j_:=⟨_,rfl⟩
    (first|rw[dN] at H|simp only[dN] at H)
    by_cases cB:0≤(cr)
    ·replace H:=hE H cB
     have da:=eq_true cB
     have db:decide (0≤(cr))=true:=decide_eq_true cB
     clear cB
     obtain⟨dO,bW⟩: ∃j_:Int,(shl .u64 aa (cr))=j_:=⟨_,rfl⟩
     (first|rw[bW] at H|simp only[bW] at H)
     have gQ:(IntKind.u64.wrap (aa*2^min (cr).toNat 64))=dO:=bW
     have gR:(cr)≤64→(IntKind.u64.wrap (aa*2^(cr).toNat))=dO:=zbM bW
     have dP:=zaa.mk H
     clear H
     obtain⟨bX,bY,bZ,b0,b1,b2,b3,bc,bd,be,bf,bg,bh,bi⟩:=cz7 (W:=wc) A
     go_upto_if 54 with(fail)
     go_cut [9] (fun v9 wc=> ∃(kq:Nat) (aw:Int),v9= .int .u64 aw∧zaa (zai.j1 kq az aa ab (⟨#[]⟩:ByteArray) (IntKind.u64.wrap (wrap64 (64-(wrap64 (4*D))))) aw O U E I D X J=some r)∧zaa (kq≤gf)∧zaa (wc.heap[B]? =some (.cells #[.int .u64 O,.int .i64 U,.int .u64 E,.int .i64 I,.int .i64 D,.bool X,.int .i32 J] 74 (0,0)))∧zaa (Below w.heap.size w wc))
     case first=>
      have H:=dP.out
      clear dP
      by_cases cG:(IntKind.u64.wrap (wrap64 (64-(wrap64 (4*D)))))=64
      ·replace H:=hE H cG
       obtain⟨ax,bm⟩:=eT cG
       clear cG
       (first|rw[ax]|rw[bm]|(simp only[zad,zaf];rw[ax])|skip)
       have H':=zaa.mk H
       clear H
       go_wp2
       go_meet
       case rel=>exact⟨_,(aa),rz,H',⟨by have:=ay.out;first|omega|exact Nat.le_refl _⟩,⟨bk⟩,⟨bz⟩⟩
      replace H:=hN H cG
      obtain⟨ax,bm⟩:=eF cG
      (first|rw[ax]|rw[bm]|(simp only[zad,zaf];rw[ax])|skip)
      have H':=zaa.mk H
      clear H
      go_wp2
      go_meet
      case rel=>exact⟨_,(dO),(by first|rfl|(simp;done)|(simp only[←bW]<;>(first|rfl|simp))|(simp[*];done)),H',⟨by have:=ay.out;first|omega|exact Nat.le_refl _⟩,⟨bk⟩,⟨bz⟩⟩
     case rest=>
      clear dP
      try clear c5
      try clear bB
      try clear c8
      try clear dq
      try clear dr
      try clear cy
      try clear bl
      try clear cz
      try clear cA
      try clear cB
      try clear da
      try clear db
      try clear cG
      try clear ax
      try clear bm
      try clear aJ aK aL aM aN aO aP af ag ah ai aj ak al
      try clear aQ aR aS aT aU aV aW am an ao ap ar au av
      try clear bD bE bG bH bI bJ bK aX aY aZ a1 a2 a3 a4
      try clear bO bP bQ bR bS bU bV a5 a6 a7 a8 a9 ba bb
      try clear bX bY bZ b0 b1 b2 b3 bc bd be bf bg bh bi
      try clear bp bq br bu bv aA aB aC aD aE aF aG aH aI
      obtain⟨kq,aw,rfl,HA,ae,A,HB⟩:=hcut
      cases kq with
      |zero=>exact absurd HA.out (by simp[zai.j1])
      |succ gg=>
       have H:=HA.out
       clear HA
       simp only[zai.j1] at H
       obtain⟨Y,dQ⟩: ∃j_:Int,(IntKind.u64.wrap (wrap64 (64-(wrap64 (4*D)))))=j_:=⟨_,rfl⟩
       (first|rw[dQ] at H|simp only[dQ] at H)
       by_cases cH:0≤(Y)
       ·replace H:=hE H cH
        have dR:=eq_true cH
        have dS:decide (0≤(Y))=true:=decide_eq_true cH
        clear cH
        obtain⟨ac,cC⟩: ∃j_:Int,(shr .u64 aa (Y))=j_:=⟨_,rfl⟩
        (first|rw[cC] at H|simp only[cC] at H)
        have gS:(aa / 2^min (Y).toNat 64)=ac:=cC
        have gT:(Y)≤64→(aa / 2^(Y).toNat)=ac:=zc3 cC
        have dT:=zaa.mk H
        clear H
        go_upto_region 16 with(fail)
        go_cut [11] (fun he wc=> ∃(kq:Nat) (bw:Bool),he= .bool bw∧zaa (zai.j2 kq az ab (⟨#[]⟩:ByteArray) (Y) aw ac bw O U E I D X J=some r)∧zaa (kq≤gg)∧zaa (wc.heap[B]? =some (.cells #[.int .u64 O,.int .i64 U,.int .u64 E,.int .i64 I,.int .i64 D,.bool X,.int .i32 J] 74 (0,0)))∧zaa (Below w.heap.size w wc))
        case first=>
         have H:=dT.out
         clear dT
         by_cases dc:(Int.tmod (ac) 2)=1
         ·replace H:=hE H dc
          obtain⟨b4,b5⟩:=eT dc
          clear dc
          try first|rw[b4]|rw[b5]
          have H':=zaa.mk H
          clear H
          go_wp2
          go_meet
          case rel=>exact⟨_,(true),rz,H',⟨by have:=ay.out;have:=ae.out;first|omega|exact Nat.le_refl _⟩,⟨bk⟩,⟨bz⟩⟩
         replace H:=hN H dc
         obtain⟨b4,b5⟩:=eF dc
         try first|rw[b4]|rw[b5]
         by_cases dd:D=0
         ·replace H:=hE H dd
          obtain⟨de,df⟩:=eT dd
          clear dd
          have H':=zaa.mk H
          clear H
          obtain⟨cI,cJ,cK,cL,cM,cN,cO,b6,b7,b8,ca,cb,cc,cd⟩:=cz7 (W:=wc) A
          go_wp2
          go_meet
          case rel=>exact⟨_,((az.toList==([49]:List UInt8))),rz,H',⟨by have:=ay.out;have:=ae.out;first|omega|exact Nat.le_refl _⟩,⟨bk⟩,⟨bz⟩⟩
         replace H:=hN H dd
         obtain⟨de,df⟩:=eF dd
         have H':=zaa.mk H
         clear H
         obtain⟨cP,cQ,cR,cS,cT,cV,cW,ce,cf,cg,ci,cj,ck,cm⟩:=cz7 (W:=wc) A
         go_wp2
         go_meet
         case rel=>exact⟨_,(false),rz,H',⟨by have:=ay.out;have:=ae.out;first|omega|exact Nat.le_refl _⟩,⟨bk⟩,⟨bz⟩⟩
        case rest=>
         clear dT
         try clear c5
         try clear bB
         try clear c8
         try clear dq
         try clear dr
         try clear cy
         try clear bl
         try clear cz
         try clear cA
         try clear cB
         try clear da
         try clear db
         try clear cG
         try clear ax
         try clear bm
         try clear cH
         try clear dR
         try clear dS
         try clear dc
         try clear b4
         try clear b5
         try clear dd
         try clear de
         try clear df
         try clear aJ aK aL aM aN aO aP af ag ah ai aj ak al
         try clear aQ aR aS aT aU aV aW am an ao ap ar au av
         try clear bD bE bG bH bI bJ bK aX aY aZ a1 a2 a3 a4
         try clear bO bP bQ bR bS bU bV a5 a6 a7 a8 a9 ba bb
         try clear bX bY bZ b0 b1 b2 b3 bc bd be bf bg bh bi
         try clear cI cJ cK cL cM cN cO b6 b7 b8 ca cb cc cd
         try clear cP cQ cR cS cT cV cW ce cf cg ci cj ck cm
         try clear bp bq br bu bv aA aB aC aD aE aF aG aH aI
         obtain⟨kq,bw,rfl,HA,bj,A,HB⟩:=hcut
         cases kq with
         |zero=>exact absurd HA.out (by simp[zai.j2])
         |succ gh=>
          have H:=HA.out
          clear HA
          simp only[zai.j2] at H
          have dU:=zaa.mk H
          clear H
          go_upto_region 17 with(fail)
          go_cut [79] (fun hf wc=> ∃(kq:Nat) (bA:Bool),hf= .bool bA∧zaa (zai.j3 kq az ab (⟨#[]⟩:ByteArray) (Y) ac bA O U E I D X J=some r)∧zaa (kq≤gh)∧zaa (wc.heap[B]? =some (.cells #[.int .u64 O,.int .i64 U,.int .u64 E,.int .i64 I,.int .i64 D,.bool X,.int .i32 J] 74 (0,0)))∧zaa (Below w.heap.size w wc))
          case first=>
           have H:=dU.out
           clear dU
           by_cases dh:aw>9223372036854775808
           ·replace H:=hE H dh
            have cD:decide (9223372036854775808<aw)=true:=decide_eq_true dh
            clear dh
            try rw[cD]
            have H':=zaa.mk H
            clear H
            go_wp2
            go_meet
            case rel=>exact⟨_,(true),rz,H',⟨by have:=ay.out;have:=ae.out;have:=bj.out;first|omega|exact Nat.le_refl _⟩,⟨bk⟩,⟨bz⟩⟩
           replace H:=hN H dh
           have cD:decide (9223372036854775808<aw)=false:=decide_eq_false dh
           clear dh
           try rw[cD]
           by_cases dy:aw=9223372036854775808
           ·replace H:=hE H dy
            obtain⟨dV,dW⟩:=eT dy
            clear dy
            have H':=zaa.mk H
            clear H
            go_wp2
            go_meet
            case rel=>exact⟨_,(bw),rz,H',⟨by have:=ay.out;have:=ae.out;have:=bj.out;first|omega|exact Nat.le_refl _⟩,⟨bk⟩,⟨bz⟩⟩
           replace H:=hN H dy
           obtain⟨dV,dW⟩:=eF dy
           have H':=zaa.mk H
           clear H
           go_wp2
           go_meet
           case rel=>exact⟨_,(false),rz,H',⟨by have:=ay.out;have:=ae.out;have:=bj.out;first|omega|exact Nat.le_refl _⟩,⟨bk⟩,⟨bz⟩⟩
          case rest=>
           clear dU
           try clear c5
           try clear bB
           try clear c8
           try clear dq
           try clear dr
           try clear cy
           try clear bl
           try clear cz
           try clear cA
           try clear cB
           try clear da
           try clear db
           try clear cG
           try clear ax
           try clear bm
           try clear cH
           try clear dR
           try clear dS
           try clear dc
           try clear b4
           try clear b5
           try clear dd
           try clear de
           try clear df
           try clear dh
           try clear cD
           try clear dy
           try clear dV
           try clear dW
           try clear aJ aK aL aM aN aO aP af ag ah ai aj ak al
           try clear aQ aR aS aT aU aV aW am an ao ap ar au av
           try clear bD bE bG bH bI bJ bK aX aY aZ a1 a2 a3 a4
           try clear bO bP bQ bR bS bU bV a5 a6 a7 a8 a9 ba bb
           try clear bX bY bZ b0 b1 b2 b3 bc bd be bf bg bh bi
           try clear cI cJ cK cL cM cN cO b6 b7 b8 ca cb cc cd
           try clear cP cQ cR cS cT cV cW ce cf cg ci cj ck cm
           try clear bp bq br bu bv aA aB aC aD aE aF aG aH aI
           obtain⟨kq,bA,rfl,HA,ct,A,HB⟩:=hcut
           cases kq with
           |zero=>exact absurd HA.out (by simp[zai.j3])
           |succ hu=>
            have H:=HA.out
            clear HA
            simp only[zai.j3] at H
            by_cases dY:bA=true
            ·subst dY
             replace H:=hT H
             obtain⟨cu,dZ⟩: ∃j_:Int,(IntKind.u64.wrap (64-(Y)))=j_:=⟨_,rfl⟩
             (first|rw[dZ] at H|simp only[dZ] at H)
             by_cases dA:0≤(cu)
             ·replace H:=hE H dA
              have fQ:=eq_true dA
              have fR:decide (0≤(cu))=true:=decide_eq_true dA
              clear dA
              obtain⟨cX,cF⟩: ∃j_:Int,(shr .u64 (IntKind.u64.wrap (ac+1)) (cu))=j_:=⟨_,rfl⟩
              (first|rw[cF] at H|simp only[cF] at H)
              have gU:((IntKind.u64.wrap (ac+1)) / 2^min (cu).toNat 64)=cX:=cF
              have gV:(cu)≤64→((IntKind.u64.wrap (ac+1)) / 2^(cu).toNat)=cX:=zc3 cF
              by_cases di:(cX)>0
              ·replace H:=hE H di
               have d0:decide (0<(cX))=true:=decide_eq_true di
               clear di
               by_cases dj:D>0
               ·replace H:=hE H dj
                have d5:decide (0<D)=true:=decide_eq_true dj
                clear dj
                by_cases dB:0≤(Y)
                ·replace H:=hE H dB
                 have fS:=eq_true dB
                 have fT:decide (0≤(Y))=true:=decide_eq_true dB
                 clear dB
                 obtain⟨d6,bn⟩: ∃j_:Int,(shl .u64 0 (Y))=j_:=⟨_,rfl⟩
                 (first|rw[bn] at H|simp only[bn] at H)
                 have gW:(IntKind.u64.wrap (0*2^min (Y).toNat 64))=d6:=bn
                 have gX:(Y)≤64→(IntKind.u64.wrap (0*2^(Y).toNat))=d6:=zbM bn
                 have hz_:d6=0:=by rw[←bn];unfold shl;rw[Int.zero_mul];rfl
                 subst hz_
                 replace H:=bs H
                 obtain⟨dt,hh,H⟩:=H
                 by_cases dC:0≤D
                 ·replace H:=hE H dC
                  have fU:=eq_true dC
                  have fV:decide (0≤D)=true:=decide_eq_true dC
                  clear dC
                  by_cases dD:D≤(dt.size:Int)
                  ·replace H:=hE H dD
                   have fX:=eq_true dD
                   have fY:decide (D≤(dt.size:Int))=true:=decide_eq_true dD
                   clear dD
                   have H':=zaa.mk H
                   clear H
                   obtain⟨d7,d8,d9,ea,eb,ec,ed,ee,ef,eg,eh,ei,ej,ek⟩:=cz7 (W:=wc) A
                   try go_wp2
                   replace A:=zaa.mk (zaw A.out)
                   replace HB:=zaa.mk (zaT HB.out)
                   refine zbo (n:=8) (S:=fun w'=>w'.cell? ⟨B,0,none⟩=some (.int .u64 O)∧w'.cell? ⟨B,1,none⟩=some (.int .i64 U)∧w'.cell? ⟨B,2,none⟩=some (.int .u64 E)∧w'.cell? ⟨B,3,none⟩=some (.int .i64 I)∧w'.cell? ⟨B,4,none⟩=some (.int .i64 D)∧w'.cell? ⟨B,5,none⟩=some (.bool X)∧w'.cell? ⟨B,6,none⟩=some (.int .i32 J)) (ds:=[]) #[false,false,false,false,false,false,false,false] (by kernel_rfl) rfl rfl ⟨(zab A.out 0).trans rfl,(zab A.out 1).trans rfl,(zab A.out 2).trans rfl,(zab A.out 3).trans rfl,(zab A.out 4).trans rfl,(zab A.out 5).trans rfl,(zab A.out 6).trans rfl⟩ (fun hHeld=>?_);refine zbf zai.tab23 zai.bits23 (fun Z HW_=>?_)
                   generalize wc.drew=hD at A HB hHeld ⊢
                   refine zau (i:=0) (N:=some 92) (v:=?_) (a':=?_) #[true,false,false,false,false,false,false,false] rfl rfl (zas Z.out (by kernel_rfl)) (fun _ _ _ h=>h) (Or.inl ⟨by rfl,?_⟩) ?_ ?_
                   rotate_left
                   ·intro w'
                    go_simp
                    with_reducible rfl
                   rotate_left
                   ·simp only[Act.put,List.setIfInBounds_toArray,List.set_cons_zero,List.set_cons_succ,zad,zaf]
                    rfl
                   refine zau (i:=1) (N:=some 93) (v:=?_) (a':=?_) #[true,true,false,false,false,false,false,false] rfl rfl (zas Z.out (by kernel_rfl)) (fun _ _ _ h=>h) (Or.inl ⟨by rfl,?_⟩) ?_ ?_
                   rotate_left
                   ·intro w'
                    go_simp
                    with_reducible rfl
                   rotate_left
                   ·simp only[Act.put,List.setIfInBounds_toArray,List.set_cons_zero,List.set_cons_succ,zad,zaf]
                    rfl
                   refine zau (i:=2) (N:=some 94) (v:=?_) (a':=?_) #[true,true,true,false,false,false,false,false] rfl rfl (zas Z.out (by kernel_rfl)) (fun _ _ _ h=>h) (Or.inl ⟨by rfl,?_⟩) ?_ ?_
                   rotate_left
                   ·intro w'
                    go_simp
                    with_reducible rfl
                   rotate_left
                   ·simp only[Act.put,List.setIfInBounds_toArray,List.set_cons_zero,List.set_cons_succ,zad,zaf]
                    rfl
                   refine zau (i:=4) (N:=some 96) (v:=?_) (a':=?_) #[true,true,true,false,true,false,false,false] rfl rfl (zas Z.out (by kernel_rfl)) (fun _ _ _ h=>h) (Or.inl ⟨by rfl,?_⟩) ?_ ?_
                   rotate_left
                   ·intro w'
                    go_simp
                    with_reducible rfl
                   rotate_left
                   ·simp only[Act.put,List.setIfInBounds_toArray,List.set_cons_zero,List.set_cons_succ,zad,zaf]
                    rfl
                   refine zaW (i:=5) (N:=some 97) (v:=?_) (a':=?_) #[true,true,true,false,true,true,false,false] rfl rfl (zaH Z.out HW_.out (by kernel_rfl)) (fun _ _ _ h=>h) (Or.inl ⟨by rfl,?_⟩) hHeld ?_ ?_
                   rotate_left
                   ·rintro w' ⟨s0,s1,s2,s3,s4,s5,s6⟩
                    go_simp
                    with_reducible rfl
                   rotate_left
                   ·simp only[Act.put,List.setIfInBounds_toArray,List.set_cons_zero,List.set_cons_succ,zad,zaf]
                    rfl
                   refine one_ (i:=3) (N:=some 95) #[true,true,true,true,true,true,false,false] rfl rfl (zaZ Z.out (by kernel_rfl)) (by decide) (fun K hK=>?_)
                   refine za5 Tryz.func113 (by kernel_rfl) rfl #[.int .u64 0] (by rfl) rfl rfl (by(try simp only[List.map_toArray,List.map_cons,List.map_nil]);first|done|(simp only[bn];rfl)|rfl|(simp only[List.length_drop,List.length_take];rfl)) ?_
                   with_reducible refine(za9.calls 0 dt _ hh.out).mono ?_
                   rintro e hG ⟨rfl,hb⟩
                   refine⟨_,rfl,?_⟩
                   replace A:=zaa.mk (zag (g:=B) (o:=.cells #[.int .u64 O,.int .i64 U,.int .u64 E,.int .i64 I,.int .i64 D,.bool X,.int .i32 J] 74 (0,0)) bk hb)
                   replace HB:=zaa.mk (zam bz hb)
                   (try clear hb)
                   (try clear bC)
                   (try clear hk)
                   (try clear hi)
                   refine hK.out _ _ ⟨(zab A.out 0).trans rfl,(zab A.out 1).trans rfl,(zab A.out 2).trans rfl,(zab A.out 3).trans rfl,(zab A.out 4).trans rfl,(zab A.out 5).trans rfl,(zab A.out 6).trans rfl⟩ (fun hHeld=>?_)
                   clear hK K
                   refine zaY (a':=?_) ?_ ?_
                   rotate_left
                   ·show Act.put _ (some 95) _=_
                    simp only[Act.put,List.setIfInBounds_toArray,List.set_cons_zero,List.set_cons_succ,zad,zaf]
                    rfl
                   refine zau (i:=6) (N:=some 98) (v:=?_) (a':=?_) #[true,true,true,true,true,true,true,false] rfl rfl (zas Z.out (by kernel_rfl)) (fun _ _ _ h=>h) (Or.inl ⟨by rfl,?_⟩) ?_ ?_
                   rotate_left
                   ·intro w'
                    go_simp
                    with_reducible rfl
                   rotate_left
                   ·simp only[Act.put,List.setIfInBounds_toArray,List.set_cons_zero,List.set_cons_succ,zad,zaf]
                    rfl
                   refine zau (i:=7) (N:=some 7) (v:=?_) (a':=?_) #[true,true,true,true,true,true,true,true] rfl rfl (zas Z.out (by kernel_rfl)) (fun _ _ _ h=>h) (Or.inl ⟨by rfl,?_⟩) ?_ ?_
                   rotate_left
                   ·intro w'
                    go_simp
                    with_reducible rfl
                   rotate_left
                   ·simp only[Act.put,List.setIfInBounds_toArray,List.set_cons_zero,List.set_cons_succ,zad,zaf]
                    rfl
                   refine zbx (zbs Z.out (by kernel_rfl)) ?_
                   try go_wp2
                   go_meet
                   case rel=>exact⟨_,(wrap64 (ab+1)),(dt.extract 0 (D:Int).toNat),rz,rz,H',⟨by have:=ay.out;have:=ae.out;have:=bj.out;have:=ct.out;first|omega|exact Nat.le_refl _⟩,⟨bk⟩,⟨bz⟩⟩
                  replace H:=hN H dD
                  exact absurd H (by simp)
                 replace H:=hN H dC
                 exact absurd H (by simp)
                replace H:=hN H dB
                exact absurd H (by simp)
               replace H:=hN H dj
               have d5:decide (0<D)=false:=decide_eq_false dj
               clear dj
               have H':=zaa.mk H
               clear H
               obtain⟨em,en,eo,ep,eq,er,et,eu,ev,ew,ey,eA,eB,eC⟩:=cz7 (W:=wc) A
               go_wp2
               go_meet
               case rel=>exact⟨_,(wrap64 (ab+1)),((⟨#[]⟩:ByteArray)),rz,rz,H',⟨by have:=ay.out;have:=ae.out;have:=bj.out;have:=ct.out;first|omega|exact Nat.le_refl _⟩,⟨bk⟩,⟨bz⟩⟩
              replace H:=hN H di
              have d0:decide (0<(cX))=false:=decide_eq_false di
              clear di
              by_cases dk:D>0
              ·replace H:=hE H dk
               have eD:decide (0<D)=true:=decide_eq_true dk
               clear dk
               by_cases dE:0≤(Y)
               ·replace H:=hE H dE
                have fZ:=eq_true dE
                have f0:decide (0≤(Y))=true:=decide_eq_true dE
                clear dE
                obtain⟨du,cn⟩: ∃j_:Int,(shl .u64 (IntKind.u64.wrap (ac+1)) (Y))=j_:=⟨_,rfl⟩
                (first|rw[cn] at H|simp only[cn] at H)
                have gY:(IntKind.u64.wrap ((IntKind.u64.wrap (ac+1))*2^min (Y).toNat 64))=du:=cn
                have gZ:(Y)≤64→(IntKind.u64.wrap ((IntKind.u64.wrap (ac+1))*2^(Y).toNat))=du:=zbM cn
                replace H:=bs H
                obtain⟨dv,hj,H⟩:=H
                by_cases dF:0≤D
                ·replace H:=hE H dF
                 have f2:=eq_true dF
                 have f3:decide (0≤D)=true:=decide_eq_true dF
                 clear dF
                 by_cases dG:D≤(dv.size:Int)
                 ·replace H:=hE H dG
                  have f4:=eq_true dG
                  have f5:decide (D≤(dv.size:Int))=true:=decide_eq_true dG
                  clear dG
                  have H':=zaa.mk H
                  clear H
                  obtain⟨eE,eG,eH,eI,eJ,eK,eL,eM,eN,eO,eP,eQ,eR,eS⟩:=cz7 (W:=wc) A
                  try go_wp2
                  replace A:=zaa.mk (zaw A.out)
                  replace HB:=zaa.mk (zaT HB.out)
                  refine zbo (n:=8) (S:=fun w'=>w'.cell? ⟨B,0,none⟩=some (.int .u64 O)∧w'.cell? ⟨B,1,none⟩=some (.int .i64 U)∧w'.cell? ⟨B,2,none⟩=some (.int .u64 E)∧w'.cell? ⟨B,3,none⟩=some (.int .i64 I)∧w'.cell? ⟨B,4,none⟩=some (.int .i64 D)∧w'.cell? ⟨B,5,none⟩=some (.bool X)∧w'.cell? ⟨B,6,none⟩=some (.int .i32 J)) (ds:=[]) #[false,false,false,false,false,false,false,false] (by kernel_rfl) rfl rfl ⟨(zab A.out 0).trans rfl,(zab A.out 1).trans rfl,(zab A.out 2).trans rfl,(zab A.out 3).trans rfl,(zab A.out 4).trans rfl,(zab A.out 5).trans rfl,(zab A.out 6).trans rfl⟩ (fun hHeld=>?_);refine zbf zai.tab23 zai.bits23 (fun Z HW_=>?_)
                  generalize wc.drew=hH at A HB hHeld ⊢
                  refine zau (i:=0) (N:=some 92) (v:=?_) (a':=?_) #[true,false,false,false,false,false,false,false] rfl rfl (zas Z.out (by kernel_rfl)) (fun _ _ _ h=>h) (Or.inl ⟨by rfl,?_⟩) ?_ ?_
                  rotate_left
                  ·intro w'
                   go_simp
                   with_reducible rfl
                  rotate_left
                  ·simp only[Act.put,List.setIfInBounds_toArray,List.set_cons_zero,List.set_cons_succ,zad,zaf]
                   rfl
                  refine zau (i:=1) (N:=some 93) (v:=?_) (a':=?_) #[true,true,false,false,false,false,false,false] rfl rfl (zas Z.out (by kernel_rfl)) (fun _ _ _ h=>h) (Or.inl ⟨by rfl,?_⟩) ?_ ?_
                  rotate_left
                  ·intro w'
                   go_simp
                   with_reducible rfl
                  rotate_left
                  ·simp only[Act.put,List.setIfInBounds_toArray,List.set_cons_zero,List.set_cons_succ,zad,zaf]
                   rfl
                  refine zau (i:=2) (N:=some 94) (v:=?_) (a':=?_) #[true,true,true,false,false,false,false,false] rfl rfl (zas Z.out (by kernel_rfl)) (fun _ _ _ h=>h) (Or.inl ⟨by rfl,?_⟩) ?_ ?_
                  rotate_left
                  ·intro w'
                   go_simp
                   with_reducible rfl
                  rotate_left
                  ·simp only[Act.put,List.setIfInBounds_toArray,List.set_cons_zero,List.set_cons_succ,zad,zaf]
                   rfl
                  refine zau (i:=4) (N:=some 96) (v:=?_) (a':=?_) #[true,true,true,false,true,false,false,false] rfl rfl (zas Z.out (by kernel_rfl)) (fun _ _ _ h=>h) (Or.inl ⟨by rfl,?_⟩) ?_ ?_
                  rotate_left
                  ·intro w'
                   go_simp
                   with_reducible rfl
                  rotate_left
                  ·simp only[Act.put,List.setIfInBounds_toArray,List.set_cons_zero,List.set_cons_succ,zad,zaf]
                   rfl
                  refine zaW (i:=5) (N:=some 97) (v:=?_) (a':=?_) #[true,true,true,false,true,true,false,false] rfl rfl (zaH Z.out HW_.out (by kernel_rfl)) (fun _ _ _ h=>h) (Or.inl ⟨by rfl,?_⟩) hHeld ?_ ?_
                  rotate_left
                  ·rintro w' ⟨s0,s1,s2,s3,s4,s5,s6⟩
                   go_simp
                   with_reducible rfl
                  rotate_left
                  ·simp only[Act.put,List.setIfInBounds_toArray,List.set_cons_zero,List.set_cons_succ,zad,zaf]
                   rfl
                  refine one_ (i:=3) (N:=some 95) #[true,true,true,true,true,true,false,false] rfl rfl (zaZ Z.out (by kernel_rfl)) (by decide) (fun K hK=>?_)
                  refine za5 Tryz.func113 (by kernel_rfl) rfl #[.int .u64 du] (by rfl) rfl rfl (by(try simp only[List.map_toArray,List.map_cons,List.map_nil]);first|done|(simp only[cn];rfl)|rfl|(simp only[List.length_drop,List.length_take];rfl)) ?_
                  with_reducible refine(za9.calls du dv _ hj.out).mono ?_
                  rintro e hI ⟨rfl,hb⟩
                  refine⟨_,rfl,?_⟩
                  replace A:=zaa.mk (zag (g:=B) (o:=.cells #[.int .u64 O,.int .i64 U,.int .u64 E,.int .i64 I,.int .i64 D,.bool X,.int .i32 J] 74 (0,0)) bk hb)
                  replace HB:=zaa.mk (zam bz hb)
                  (try clear hb)
                  (try clear bC)
                  (try clear hk)
                  (try clear hi)
                  refine hK.out _ _ ⟨(zab A.out 0).trans rfl,(zab A.out 1).trans rfl,(zab A.out 2).trans rfl,(zab A.out 3).trans rfl,(zab A.out 4).trans rfl,(zab A.out 5).trans rfl,(zab A.out 6).trans rfl⟩ (fun hHeld=>?_)
                  clear hK K
                  refine zaY (a':=?_) ?_ ?_
                  rotate_left
                  ·show Act.put _ (some 95) _=_
                   simp only[Act.put,List.setIfInBounds_toArray,List.set_cons_zero,List.set_cons_succ,zad,zaf]
                   rfl
                  refine zau (i:=6) (N:=some 98) (v:=?_) (a':=?_) #[true,true,true,true,true,true,true,false] rfl rfl (zas Z.out (by kernel_rfl)) (fun _ _ _ h=>h) (Or.inl ⟨by rfl,?_⟩) ?_ ?_
                  rotate_left
                  ·intro w'
                   go_simp
                   with_reducible rfl
                  rotate_left
                  ·simp only[Act.put,List.setIfInBounds_toArray,List.set_cons_zero,List.set_cons_succ,zad,zaf]
                   rfl
                  refine zau (i:=7) (N:=some 7) (v:=?_) (a':=?_) #[true,true,true,true,true,true,true,true] rfl rfl (zas Z.out (by kernel_rfl)) (fun _ _ _ h=>h) (Or.inl ⟨by rfl,?_⟩) ?_ ?_
                  rotate_left
                  ·intro w'
                   go_simp
                   with_reducible rfl
                  rotate_left
                  ·simp only[Act.put,List.setIfInBounds_toArray,List.set_cons_zero,List.set_cons_succ,zad,zaf]
                   rfl
                  refine zbx (zbs Z.out (by kernel_rfl)) ?_
                  try go_wp2
                  go_meet
                  case rel=>exact⟨_,(ab),(dv.extract 0 (D:Int).toNat),rz,rz,H',⟨by have:=ay.out;have:=ae.out;have:=bj.out;have:=ct.out;first|omega|exact Nat.le_refl _⟩,⟨bk⟩,⟨bz⟩⟩
                 replace H:=hN H dG
                 exact absurd H (by simp)
                replace H:=hN H dF
                exact absurd H (by simp)
               replace H:=hN H dE
               exact absurd H (by simp)
              replace H:=hN H dk
              have eD:decide (0<D)=false:=decide_eq_false dk
              clear dk
              have H':=zaa.mk H
              clear H
              obtain⟨eU,eV,eW,eX,eY,eZ,e0,e1,e2,e3,e4,e5,e6,e7⟩:=cz7 (W:=wc) A
              go_wp2
              go_meet
              case rel=>exact⟨_,(ab),((⟨#[]⟩:ByteArray)),rz,rz,H',⟨by have:=ay.out;have:=ae.out;have:=bj.out;have:=ct.out;first|omega|exact Nat.le_refl _⟩,⟨bk⟩,⟨bz⟩⟩
             replace H:=hN H dA
             exact absurd H (by simp)
            replace dY:=Bool.eq_false_iff.mpr dY
            subst dY
            replace H:=hF H
            by_cases dl:D>0
            ·replace H:=hE H dl
             have e8:decide (0<D)=true:=decide_eq_true dl
             clear dl
             by_cases dH:0≤(Y)
             ·replace H:=hE H dH
              have f6:=eq_true dH
              have f7:decide (0≤(Y))=true:=decide_eq_true dH
              clear dH
              obtain⟨dw,co⟩: ∃j_:Int,(shl .u64 ac (Y))=j_:=⟨_,rfl⟩
              (first|rw[co] at H|simp only[co] at H)
              have g0:(IntKind.u64.wrap (ac*2^min (Y).toNat 64))=dw:=co
              have g1:(Y)≤64→(IntKind.u64.wrap (ac*2^(Y).toNat))=dw:=zbM co
              replace H:=bs H
              obtain⟨dx,hl,H⟩:=H
              by_cases dI:0≤D
              ·replace H:=hE H dI
               have f8:=eq_true dI
               have f9:decide (0≤D)=true:=decide_eq_true dI
               clear dI
               by_cases dJ:D≤(dx.size:Int)
               ·replace H:=hE H dJ
                have ga:=eq_true dJ
                have gb:decide (D≤(dx.size:Int))=true:=decide_eq_true dJ
                clear dJ
                have H':=zaa.mk H
                clear H
                obtain⟨e9,fa,fb,fc,fe,fg,fh,fi,fj,fk,fl,fm,fo,fp⟩:=cz7 (W:=wc) A
                try go_wp2
                replace A:=zaa.mk (zaw A.out)
                replace HB:=zaa.mk (zaT HB.out)
                refine zbo (n:=8) (S:=fun w'=>w'.cell? ⟨B,0,none⟩=some (.int .u64 O)∧w'.cell? ⟨B,1,none⟩=some (.int .i64 U)∧w'.cell? ⟨B,2,none⟩=some (.int .u64 E)∧w'.cell? ⟨B,3,none⟩=some (.int .i64 I)∧w'.cell? ⟨B,4,none⟩=some (.int .i64 D)∧w'.cell? ⟨B,5,none⟩=some (.bool X)∧w'.cell? ⟨B,6,none⟩=some (.int .i32 J)) (ds:=[]) #[false,false,false,false,false,false,false,false] (by kernel_rfl) rfl rfl ⟨(zab A.out 0).trans rfl,(zab A.out 1).trans rfl,(zab A.out 2).trans rfl,(zab A.out 3).trans rfl,(zab A.out 4).trans rfl,(zab A.out 5).trans rfl,(zab A.out 6).trans rfl⟩ (fun hHeld=>?_);refine zbf zai.tab23 zai.bits23 (fun Z HW_=>?_)
                generalize wc.drew=hJ at A HB hHeld ⊢
                refine zau (i:=0) (N:=some 92) (v:=?_) (a':=?_) #[true,false,false,false,false,false,false,false] rfl rfl (zas Z.out (by kernel_rfl)) (fun _ _ _ h=>h) (Or.inl ⟨by rfl,?_⟩) ?_ ?_
                rotate_left
                ·intro w'
                 go_simp
                 with_reducible rfl
                rotate_left
                ·simp only[Act.put,List.setIfInBounds_toArray,List.set_cons_zero,List.set_cons_succ,zad,zaf]
                 rfl
                refine zau (i:=1) (N:=some 93) (v:=?_) (a':=?_) #[true,true,false,false,false,false,false,false] rfl rfl (zas Z.out (by kernel_rfl)) (fun _ _ _ h=>h) (Or.inl ⟨by rfl,?_⟩) ?_ ?_
                rotate_left
                ·intro w'
                 go_simp
                 with_reducible rfl
                rotate_left
                ·simp only[Act.put,List.setIfInBounds_toArray,List.set_cons_zero,List.set_cons_succ,zad,zaf]
                 rfl
                refine zau (i:=2) (N:=some 94) (v:=?_) (a':=?_) #[true,true,true,false,false,false,false,false] rfl rfl (zas Z.out (by kernel_rfl)) (fun _ _ _ h=>h) (Or.inl ⟨by rfl,?_⟩) ?_ ?_
                rotate_left
                ·intro w'
                 go_simp
                 with_reducible rfl
                rotate_left
                ·simp only[Act.put,List.setIfInBounds_toArray,List.set_cons_zero,List.set_cons_succ,zad,zaf]
                 rfl
                refine zau (i:=4) (N:=some 96) (v:=?_) (a':=?_) #[true,true,true,false,true,false,false,false] rfl rfl (zas Z.out (by kernel_rfl)) (fun _ _ _ h=>h) (Or.inl ⟨by rfl,?_⟩) ?_ ?_
                rotate_left
                ·intro w'
                 go_simp
                 with_reducible rfl
                rotate_left
                ·simp only[Act.put,List.setIfInBounds_toArray,List.set_cons_zero,List.set_cons_succ,zad,zaf]
                 rfl
                refine zaW (i:=5) (N:=some 97) (v:=?_) (a':=?_) #[true,true,true,false,true,true,false,false] rfl rfl (zaH Z.out HW_.out (by kernel_rfl)) (fun _ _ _ h=>h) (Or.inl ⟨by rfl,?_⟩) hHeld ?_ ?_
                rotate_left
                ·rintro w' ⟨s0,s1,s2,s3,s4,s5,s6⟩
                 go_simp
                 with_reducible rfl
                rotate_left
                ·simp only[Act.put,List.setIfInBounds_toArray,List.set_cons_zero,List.set_cons_succ,zad,zaf]
                 rfl
                refine one_ (i:=3) (N:=some 95) #[true,true,true,true,true,true,false,false] rfl rfl (zaZ Z.out (by kernel_rfl)) (by decide) (fun K hK=>?_)
                refine za5 Tryz.func113 (by kernel_rfl) rfl #[.int .u64 dw] (by rfl) rfl rfl (by(try simp only[List.map_toArray,List.map_cons,List.map_nil]);first|done|(simp only[co];rfl)|rfl|(simp only[List.length_drop,List.length_take];rfl)) ?_
                with_reducible refine(za9.calls dw dx _ hl.out).mono ?_
                rintro e hL ⟨rfl,hb⟩
                refine⟨_,rfl,?_⟩
                replace A:=zaa.mk (zag (g:=B) (o:=.cells #[.int .u64 O,.int .i64 U,.int .u64 E,.int .i64 I,.int .i64 D,.bool X,.int .i32 J] 74 (0,0)) bk hb)
                replace HB:=zaa.mk (zam bz hb)
                (try clear hb)
                (try clear bC)
                (try clear hk)
                (try clear hi)
                refine hK.out _ _ ⟨(zab A.out 0).trans rfl,(zab A.out 1).trans rfl,(zab A.out 2).trans rfl,(zab A.out 3).trans rfl,(zab A.out 4).trans rfl,(zab A.out 5).trans rfl,(zab A.out 6).trans rfl⟩ (fun hHeld=>?_)
                clear hK K
                refine zaY (a':=?_) ?_ ?_
                rotate_left
                ·show Act.put _ (some 95) _=_
                 simp only[Act.put,List.setIfInBounds_toArray,List.set_cons_zero,List.set_cons_succ,zad,zaf]
                 rfl
                refine zau (i:=6) (N:=some 98) (v:=?_) (a':=?_) #[true,true,true,true,true,true,true,false] rfl rfl (zas Z.out (by kernel_rfl)) (fun _ _ _ h=>h) (Or.inl ⟨by rfl,?_⟩) ?_ ?_
                rotate_left
                ·intro w'
                 go_simp
                 with_reducible rfl
                rotate_left
                ·simp only[Act.put,List.setIfInBounds_toArray,List.set_cons_zero,List.set_cons_succ,zad,zaf]
                 rfl
                refine zau (i:=7) (N:=some 7) (v:=?_) (a':=?_) #[true,true,true,true,true,true,true,true] rfl rfl (zas Z.out (by kernel_rfl)) (fun _ _ _ h=>h) (Or.inl ⟨by rfl,?_⟩) ?_ ?_
                rotate_left
                ·intro w'
                 go_simp
                 with_reducible rfl
                rotate_left
                ·simp only[Act.put,List.setIfInBounds_toArray,List.set_cons_zero,List.set_cons_succ,zad,zaf]
                 rfl
                refine zbx (zbs Z.out (by kernel_rfl)) ?_
                try go_wp2
                go_meet
                case rel=>exact⟨_,(ab),(dx.extract 0 (D:Int).toNat),rz,rz,H',⟨by have:=ay.out;have:=ae.out;have:=bj.out;have:=ct.out;first|omega|exact Nat.le_refl _⟩,⟨bk⟩,⟨bz⟩⟩
               replace H:=hN H dJ
               exact absurd H (by simp)
              replace H:=hN H dI
              exact absurd H (by simp)
             replace H:=hN H dH
             exact absurd H (by simp)
            replace H:=hN H dl
            have e8:decide (0<D)=false:=decide_eq_false dl
            clear dl
            have H':=zaa.mk H
            clear H
            obtain⟨fq,fs,ft,fu,fv,fw,fx,fy,fz,fA,fC,fD,fF,fG⟩:=cz7 (W:=wc) A
            go_wp2
            go_meet
            case rel=>exact⟨_,(ab),((⟨#[]⟩:ByteArray)),rz,rz,H',⟨by have:=ay.out;have:=ae.out;have:=bj.out;have:=ct.out;first|omega|exact Nat.le_refl _⟩,⟨bk⟩,⟨bz⟩⟩
       replace H:=hN H cH
       exact absurd H (by simp)
    replace H:=hN H cB
    exact absurd H (by simp)
   case rest=>
    clear dK
    try clear c5
    try clear cB
    try clear cH
    try clear dY
    try clear dA
    try clear fQ
    try clear fR
    try clear di
    try clear d0
    try clear dj
    try clear d5
    try clear dB
    try clear fS
    try clear fT
    try clear dC
    try clear fU
    try clear fV
    try clear dD
    try clear fX
    try clear fY
    try clear dk
    try clear eD
    try clear dE
    try clear fZ
    try clear f0
    try clear dF
    try clear f2
    try clear f3
    try clear dG
    try clear f4
    try clear f5
    try clear dl
    try clear e8
    try clear dH
    try clear f6
    try clear f7
    try clear dI
    try clear f8
    try clear f9
    try clear dJ
    try clear ga
    try clear gb
    try clear aA aB aC aD aE aF aG aH aI
    try clear d7 d8 d9 ea eb ec ed ee ef eg eh ei ej ek
    try clear em en eo ep eq er et eu ev ew ey eA eB eC
    try clear eE eG eH eI eJ eK eL eM eN eO eP eQ eR eS
    try clear eU eV eW eX eY eZ e0 e1 e2 e3 e4 e5 e6 e7
    try clear e9 fa fb fc fe fg fh fi fj fk fl fm fo fp
    try clear fq fs ft fu fv fw fx fy fz fA fC fD fF fG
    try clear af ag ah ai aj ak al
    try clear am an ao ap ar au av
    try clear aX aY aZ a1 a2 a3 a4
    try clear a5 a6 a7 a8 a9 ba bb
    try clear bc bd be bf bg bh bi
    try clear b6 b7 b8 ca cb cc cd
    try clear ce cf cg ci cj ck cm
    obtain⟨kq,bL,bM,rfl,rfl,HA,hv,A,HB⟩:=hcut
    cases kq with
    |zero=>exact absurd HA.out (by simp[zai.j4])
    |succ hw=>
     have H:=HA.out
     clear HA
     simp only[zai.j4] at H
     replace H:=bs H
     obtain⟨cv,hm,H⟩:=H
     replace H:=bs H
     obtain⟨cw,hn,H⟩:=H
     obtain⟨fH,cp⟩: ∃y_:List ByteArray,y_=(([(⟨#[48,120]⟩:ByteArray),cv,cw]:List ByteArray)):=⟨_,rfl⟩
     replace H:((zaC.f fH).bind fun cx=>(if J=88 then((zbz.f cx).bind fun fI=>(some fI)) else(some cx)))=some r:=by first|(rw[cp];with_reducible exact H)|(have ge:=(Option.bind_some _ _).symm.trans H;rw[cp];with_reducible exact ge)|(have ge:=(Option.bind_some _ _).symm.trans H;with_reducible exact ge)|with_reducible exact H|(rw[cp];exact H)|exact H
     have fJ:=zaa.mk cp
     clear cp
     replace H:=bs H
     obtain⟨cx,ho,H⟩:=H
     obtain⟨gi,gj,gk,gl,gm,gn,gp,gq,gr,gs,gt,gu,gv,gw⟩:=cz7 (W:=wc) A
     go_upto_if 109 with(first|((with_reducible refine zac (f:=107) rfl ?_);refine zal (some 102) rfl rfl Tryz.func107 (by kernel_rfl) rfl #[.agg #[.int .u64 O,.int .i64 U,.int .u64 E,.int .i64 I,.int .i64 D,.bool X,.int .i32 J],.string az,.string bM] rfl lz ?_;(with_reducible refine(zaJ.calls O U E I D X J az bM cv _ hm.out).mono ?_);rintro e hM ⟨rfl,hb⟩;refine⟨_,rfl,?_⟩;replace A:=kN (g:=B) (cs:=#[.int .u64 O,.int .i64 U,.int .u64 E,.int .i64 I,.int .i64 D,.bool X,.int .i32 J]) hb bk;replace HB:=bN bz hb;(try clear hb);(try clear bC);(try clear hk);(try clear hi))|((with_reducible refine zac (f:=111) rfl ?_);refine zal (some 104) rfl rfl Tryz.func111 (by kernel_rfl) rfl #[.string (⟨#[112]⟩:ByteArray),.int .i64 bL,.int .i64 2] rfl lz ?_;(with_reducible refine(zbq.calls (⟨#[112]⟩:ByteArray) bL 2 cw _ hn.out).mono ?_);rintro e hO ⟨rfl,hb⟩;refine⟨_,rfl,?_⟩;replace A:=kN (g:=B) (cs:=#[.int .u64 O,.int .i64 U,.int .u64 E,.int .i64 I,.int .i64 D,.bool X,.int .i32 J]) hb bk;replace HB:=bN bz hb;(try clear hb);(try clear bC);(try clear hk);(try clear hi))|((with_reducible refine zak (N:=105) rfl ?_);refine Kd.R_lit Kd.string _ 9 ?hg (N:=105) ?hd (xs:=([(⟨#[48,120]⟩:ByteArray),cv,cw]:List ByteArray)) (inner:=[.string (⟨#[48,120]⟩:ByteArray),.string cv,.string cw]) (ok:=fun _=>True) (okp:=fun _=>True) ?hr ?hp (fun _ hk=>hk) trivial (Below.refl _ _) (Nat.le_refl _) (by simp) ?_;(case hd=>rfl);(case hg=>rfl);(case hr=>first|(go_simp;done)|(go_simp;rfl));(case hp=>exact(Reps.one (show Kd.M Kd.string _ _ _ (⟨#[48,120]⟩:ByteArray) [.string (⟨#[48,120]⟩:ByteArray)] from rfl) (Reps.one (show Kd.M Kd.string _ _ _ cv [.string cv] from rfl) (Reps.one (show Kd.M Kd.string _ _ _ cw [.string cw] from rfl) (Reps.none _ _)))));intro hx hP cY hb hg_ hnew_;clear hg_ hnew_;(first|rw[←fJ.out] at cY|(simp only[Int.reduceToNat] at cY;rw[←fJ.out] at cY));have cZ:=zaa.mk (Kd.R_lower cY (zaI bz));have c6:=zaa.mk (zag (g:=B) (o:=.cells #[.int .u64 O,.int .i64 U,.int .u64 E,.int .i64 I,.int .i64 D,.bool X,.int .i32 J] 74 (0,0)) bk hb);have c7:=zaa.mk (zam bz hb);clear A;clear HB;have ad:=cZ;have A:=c6;have HB:=c7;clear cZ c6 c7;clear hb cY;obtain⟨gx,gy,gA⟩:=Kd.R_slice ad.out;subst gA)|((with_reducible refine zac (f:=109) rfl ?_);refine zal (some 106) rfl rfl Tryz.func109 (by kernel_rfl) rfl #[.slice gx fH.length gy] rfl lz ?_;(with_reducible refine(zaC.calls _ _ fH cx _ ?side1 ?side2 ho.out).mono ?_);(case side1=>repeat(first|exact(Kd.R_reads' ad.out).2.2|(with_reducible refine Kd.C_alloc ?_ _)|(with_reducible refine Kd.C_drewN ?_ _)|(with_reducible refine Kd.C_drew ?_)));(case side2=>exact(Kd.R_reads' ad.out).2.1);rintro e hq ⟨rfl,hb⟩;refine⟨_,rfl,?_⟩;have cZ:=zaa.mk (Kd.R_below (by(with_reducible repeat(first|apply Kd.R_alloc|apply Kd.R_drewN|apply Kd.R_drew));exact ad.out) hb);have c6:=zaa.mk (zag (g:=B) (o:=.cells #[.int .u64 O,.int .i64 U,.int .u64 E,.int .i64 I,.int .i64 D,.bool X,.int .i32 J] 74 (0,0)) bk hb);have c7:=zaa.mk (zam bz hb);clear ad;clear A;clear HB;have ad:=cZ;have A:=c6;have HB:=c7;clear cZ c6 c7;(try clear hb);(try clear bC);(try clear hk);(try clear hi);obtain⟨gB,gC,gD,gE,gF,gG,gH,gI,gJ,gK,gL,gM,gO,gP⟩:=cz7 (W:=hq) A))
     (try simp only[Act.put,List.setIfInBounds_toArray,List.set_cons_zero,List.set_cons_succ])
     by_cases fK:J=88
     ·replace H:=hE H fK
      obtain⟨dm,dn⟩:=eT fK
      clear fK
      try first|rw[dm]|rw[dn]
      replace H:=bs H
      obtain⟨fI,hs,H⟩:=H
      obtain rfl:=Option.some.inj H
      go_wp2_with (first|((with_reducible refine zac (f:=114) rfl ?_);refine zal (some 111) rfl rfl Tryz.func114 (by kernel_rfl) rfl #[.string cx] rfl lz ?_;(with_reducible refine(zbz.calls cx fI _ hs.out).mono ?_);rintro e hQ ⟨rfl,hb⟩;refine⟨_,rfl,?_⟩;have cZ:=zaa.mk (Kd.R_below (by(with_reducible repeat(first|apply Kd.R_alloc|apply Kd.R_drewN|apply Kd.R_drew));exact ad.out) hb);have c6:=zaa.mk (zag (g:=B) (o:=.cells #[.int .u64 O,.int .i64 U,.int .u64 E,.int .i64 I,.int .i64 D,.bool X,.int .i32 J] 74 (0,0)) bk hb);have c7:=zaa.mk (zam bz hb);clear ad;clear A;clear HB;have ad:=cZ;have A:=c6;have HB:=c7;clear cZ c6 c7;(try clear hb);(try clear bC);(try clear hk);(try clear hi)))
      go_ret
      exact⟨ez,bz⟩
     replace H:=hN H fK
     obtain⟨dm,dn⟩:=eF fK
     try first|rw[dm]|rw[dn]
     obtain rfl:=Option.some.inj H
     go_wp2
     go_ret
     exact⟨ez,bz⟩
end Go.Proofs.YtecpgdfnamkfdaaGreatDoor.Fn
end
section
namespace Go.Proofs.YtecpgdfnamkfdaaGreatDoor.Fn
open Go.RowKit Go.Proofs.YtecpgdfnamkfdaaGreatDoorW.PrintWords Go.Proofs.YtecpgdfnamkfdaaGreatDoorW.PrintLast Go.Proofs.YtecpgdfnamkfdaaGreatDoorW.PrintMore
set_option linter.unusedVariables false
set_option linter.unusedSimpArgs false
section
attribute [local go_sem] fnW_0 fnW_1 fnW_2 fnW_3 fnW_4 fnW_5 fnW_guard fnW_eql zaK zaL zaQ zaR
theorem eqA42(d:Nat)(w:World)(x0 y0:ByteArray)(x1 y1:Int):
  (Op.equalIn (d+2) 42 (.agg #[.string x0,.int .i64 x1]) (.agg #[.string y0,.int .i64 y1])).run Tryz.prog w= .ok (x0.toList==y0.toList&&(x1==y1)) w:=by
 refine eqA_of Tryz.underlying42 (by kernel_rfl) ?_
 refine zhv (by rfl) (by go_simp;rfl) (by go_simp;rfl) (by go_simp) ?_
 exact zhu (by rfl) (by go_simp;rfl) (by go_simp;rfl) (by go_simp)
end
end Go.Proofs.YtecpgdfnamkfdaaGreatDoor.Fn
end
section
namespace Go.Proofs.YtecpgdfnamkfdaaGreatDoor.Fn
open Go.RowKit Go.Proofs.YtecpgdfnamkfdaaGreatDoorW.PrintWords Go.Proofs.YtecpgdfnamkfdaaGreatDoorW.PrintLast Go.Proofs.YtecpgdfnamkfdaaGreatDoorW.PrintMore
attribute [local go_sem] fnW_0 fnW_1 fnW_2 fnW_3 fnW_4 fnW_5 fnW_guard fnW_eql zaK zaL zaQ zaR
set_option linter.unusedVariables false
set_option linter.unusedSimpArgs false
mutual
def zaG.j0:Nat→Int→Bool→Option (Int)
 |0,_,_=>none
 |k+1,x3,x4=>if x4=true then(some 1) else(if x3=102 then(zaG.j1 k x3 (x3==102)) else(zaG.j1 k x3 (x3==70)))
def zaG.j1:Nat→Int→Bool→Option (Int)
 |0,_,_=>none
 |k+1,x3,x7=>if x7=true then(some 2) else(if x3=103 then(zaG.j2 k x3 (x3==103)) else(if x3=71 then(zaG.j2 k x3 (x3==71)) else(zaG.j2 k x3 (x3==118))))
def zaG.j2:Nat→Int→Bool→Option (Int)
 |0,_,_=>none
 |k+1,x3,A=>if A=true then(some 3) else(if x3=98 then(some 4) else(if x3=120 then(some 5) else(if x3=88 then(some 5) else(some 0))))
end
def zaG.f(k:Nat)(a0:Int):Option (Int):=if a0=101 then(zaG.j0 k a0 (a0==101)) else(zaG.j0 k a0 (a0==69))
set_option maxHeartbeats 8000000 in
set_option maxRecDepth 100000 in
theorem zaG.calls(k:Nat)(a0:Int)(r:Int)(w:World)(h:zaG.f k a0=some r):
  Calls Tryz.prog 44 #[.int .i32 a0] w fun e w'=>e= .returned (fnW r)∧zaU w w':=by
 have H:(if a0=101 then(zaG.j0 k a0 (a0==101)) else(zaG.j0 k a0 (a0==69)))=some r:=h
 clear h
 have ae:=zaa.mk H
 clear H
 go_enter Tryz.func44,Tryz.ntmps44
 go_upto_if 4 with(fail)
 go_cut [4] (fun v4 wc=> ∃(kq:Nat) (J:Bool),v4= .bool J∧zaa (zaG.j0 kq a0 J=some r)∧zaa (kq≤k)∧zaU w wc)
 case first=>
  have H:=ae.out
  clear ae
  by_cases c3:a0=101
  ·replace H:=hE H c3
   obtain⟨A,B⟩:=eT c3
   clear c3
   try first|rw[A]|rw[B]
   have H':=zaa.mk H
   clear H
   go_wp2
   go_meet
   case rel=>exact⟨_,((a0==101)),rz,H',⟨by first|omega|exact Nat.le_refl _⟩,by repeat(first|exact zaU.refl _|apply zaU.step)⟩
  replace H:=hN H c3
  obtain⟨A,B⟩:=eF c3
  try first|rw[A]|rw[B]
  have H':=zaa.mk H
  clear H
  go_wp2
  go_meet
  case rel=>exact⟨_,((a0==69)),rz,H',⟨by first|omega|exact Nat.le_refl _⟩,by repeat(first|exact zaU.refl _|apply zaU.step)⟩
 case rest=>
  clear ae
  try clear c3
  try clear A
  try clear B
  obtain⟨kq,J,rfl,HA,X,⟨au,rfl⟩⟩:=hcut
  cases kq with
  |zero=>exact absurd HA.out (by simp[zaG.j0])
  |succ ao=>
   have H:=HA.out
   clear HA
   simp only[zaG.j0] at H
   by_cases c4:J=true
   ·subst c4
    replace H:=hT H
    obtain rfl:=Option.some.inj H
    go_wp2
    go_ret
    exact⟨by first|rfl|(simp;done)|(simp[*];done),by repeat(first|exact zaU.refl _|apply zaU.step)⟩
   replace c4:=Bool.eq_false_iff.mpr c4
   subst c4
   replace H:=hF H
   have af:=zaa.mk H
   clear H
   go_upto_if 7 with(fail)
   go_cut [7] (fun v7 wc=> ∃(kq:Nat) (K:Bool),v7= .bool K∧zaa (zaG.j1 kq a0 K=some r)∧zaa (kq≤ao)∧zaU w wc)
   case first=>
    have H:=af.out
    clear af
    by_cases c6:a0=102
    ·replace H:=hE H c6
     obtain⟨E,I⟩:=eT c6
     clear c6
     try first|rw[E]|rw[I]
     have H':=zaa.mk H
     clear H
     go_wp2
     go_meet
     case rel=>exact⟨_,((a0==102)),rz,H',⟨by have:=X.out;first|omega|exact Nat.le_refl _⟩,by repeat(first|exact zaU.refl _|apply zaU.step)⟩
    replace H:=hN H c6
    obtain⟨E,I⟩:=eF c6
    try first|rw[E]|rw[I]
    have H':=zaa.mk H
    clear H
    go_wp2
    go_meet
    case rel=>exact⟨_,((a0==70)),rz,H',⟨by have:=X.out;first|omega|exact Nat.le_refl _⟩,by repeat(first|exact zaU.refl _|apply zaU.step)⟩
   case rest=>
    clear af
    try clear c3
    try clear A
    try clear B
    try clear c4
    try clear c6
    try clear E
    try clear I
    obtain⟨kq,K,rfl,HA,ag,⟨av,rfl⟩⟩:=hcut
    cases kq with
    |zero=>exact absurd HA.out (by simp[zaG.j1])
    |succ ap=>
     have H:=HA.out
     clear HA
     simp only[zaG.j1] at H
     by_cases c7:K=true
     ·subst c7
      replace H:=hT H
      obtain rfl:=Option.some.inj H
      go_wp2
      go_ret
      exact⟨by first|rfl|(simp;done)|(simp[*];done),by repeat(first|exact zaU.refl _|apply zaU.step)⟩
     replace c7:=Bool.eq_false_iff.mpr c7
     subst c7
     replace H:=hF H
     have ah:=zaa.mk H
     clear H
     go_upto_if 10 with(fail)
     go_cut [10] (fun ar wc=> ∃(kq:Nat) (D:Bool),ar= .bool D∧zaa (zaG.j2 kq a0 D=some r)∧zaa (kq≤ap)∧zaU w wc)
     case first=>
      have H:=ah.out
      clear ah
      by_cases c9:a0=103
      ·replace H:=hE H c9
       obtain⟨M,O⟩:=eT c9
       clear c9
       try first|rw[M]|rw[O]
       have H':=zaa.mk H
       clear H
       go_wp2
       go_meet
       case rel=>exact⟨_,((a0==103)),rz,H',⟨by have:=X.out;have:=ag.out;first|omega|exact Nat.le_refl _⟩,by repeat(first|exact zaU.refl _|apply zaU.step)⟩
      replace H:=hN H c9
      obtain⟨M,O⟩:=eF c9
      try first|rw[M]|rw[O]
      by_cases U:a0=71
      ·replace H:=hE H U
       obtain⟨Y,Z⟩:=eT U
       clear U
       have H':=zaa.mk H
       clear H
       go_wp2
       go_meet
       case rel=>exact⟨_,((a0==71)),rz,H',⟨by have:=X.out;have:=ag.out;first|omega|exact Nat.le_refl _⟩,by repeat(first|exact zaU.refl _|apply zaU.step)⟩
      replace H:=hN H U
      obtain⟨Y,Z⟩:=eF U
      have H':=zaa.mk H
      clear H
      go_wp2
      go_meet
      case rel=>exact⟨_,((a0==118)),rz,H',⟨by have:=X.out;have:=ag.out;first|omega|exact Nat.le_refl _⟩,by repeat(first|exact zaU.refl _|apply zaU.step)⟩
     case rest=>
      clear ah
      try clear c3
      try clear A
      try clear B
      try clear c4
      try clear c6
      try clear E
      try clear I
      try clear c7
      try clear c9
      try clear M
      try clear O
      try clear U
      try clear Y
      try clear Z
      obtain⟨kq,D,rfl,HA,aw,⟨ax,rfl⟩⟩:=hcut
      cases kq with
      |zero=>exact absurd HA.out (by simp[zaG.j2])
      |succ ay=>
       have H:=HA.out
       clear HA
       simp only[zaG.j2] at H
       by_cases ad:D=true
       ·subst ad
        replace H:=hT H
        obtain rfl:=Option.some.inj H
        go_wp2
        go_ret
        exact⟨by first|rfl|(simp;done)|(simp[*];done),by repeat(first|exact zaU.refl _|apply zaU.step)⟩
       replace ad:=Bool.eq_false_iff.mpr ad
       subst ad
       replace H:=hF H
       by_cases aa:a0=98
       ·replace H:=hE H aa
        obtain⟨ai,aj⟩:=eT aa
        clear aa
        obtain rfl:=Option.some.inj H
        go_wp2
        go_ret
        exact⟨by first|rfl|(simp;done)|(simp[*];done),by repeat(first|exact zaU.refl _|apply zaU.step)⟩
       replace H:=hN H aa
       obtain⟨ai,aj⟩:=eF aa
       by_cases ab:a0=120
       ·replace H:=hE H ab
        obtain⟨ak,al⟩:=eT ab
        clear ab
        obtain rfl:=Option.some.inj H
        go_wp2
        go_ret
        exact⟨by first|rfl|(simp;done)|(simp[*];done),by repeat(first|exact zaU.refl _|apply zaU.step)⟩
       replace H:=hN H ab
       obtain⟨ak,al⟩:=eF ab
       by_cases ac:a0=88
       ·replace H:=hE H ac
        obtain⟨am,an⟩:=eT ac
        clear ac
        obtain rfl:=Option.some.inj H
        go_wp2
        go_ret
        exact⟨by first|rfl|(simp;done)|(simp[*];done),by repeat(first|exact zaU.refl _|apply zaU.step)⟩
       replace H:=hN H ac
       obtain⟨am,an⟩:=eF ac
       obtain rfl:=Option.some.inj H
       go_wp2
       go_ret
       exact⟨by first|rfl|(simp;done)|(simp[*];done),by repeat(first|exact zaU.refl _|apply zaU.step)⟩
end Go.Proofs.YtecpgdfnamkfdaaGreatDoor.Fn
end
section
namespace Go.Proofs.YtecpgdfnamkfdaaGreatDoor.Fn
open Go.RowKit Go.Proofs.YtecpgdfnamkfdaaGreatDoorW.PrintWords Go.Proofs.YtecpgdfnamkfdaaGreatDoorW.PrintLast Go.Proofs.YtecpgdfnamkfdaaGreatDoorW.PrintMore
set_option linter.unusedVariables false
set_option linter.unusedSimpArgs false
set_option maxHeartbeats 8000000
set_option maxRecDepth 100000
section
attribute [local go_sem] fnW_0 fnW_1 fnW_2 fnW_3 fnW_4 fnW_5 fnW_guard fnW_eql zaK zaL zaQ zaR
def zay.f(a0:Int):Option (Bool×Bool×Bool×Bool×Bool×Int×Int×Int):=some (false,false,false,false,false,(-1),(-1),a0)
theorem zay.calls(a0:Int)(r1:Bool)(r2:Bool)(r3:Bool)(r4:Bool)(r5:Bool)(r6:Int)(r7:Int)(r8:Int)(w:World)(h:zay.f a0=some (r1,r2,r3,r4,r5,r6,r7,r8)):
  Calls Tryz.prog 30 #[.int .i32 a0] w fun e w'=>e= .returned (.agg #[.bool r1,.bool r2,.bool r3,.bool r4,.bool r5,.int .i64 r6,.int .i64 r7,.int .i32 r8])∧Below w.heap.size w w':=by
 have ag:=Tryz.underlying26
 have HB:=zaa.mk (Below.refl w.heap.size w)
 have H:(some (false,false,false,false,false,(-1),(-1),a0))=some (r1,r2,r3,r4,r5,r6,r7,r8):=h
 clear h
 simp only[Option.some.injEq,Prod.mk.injEq] at H
 obtain⟨rfl,rfl,rfl,rfl,rfl,rfl,rfl,rfl⟩:=H
 go_enter Tryz.func30,Tryz.ntmps30
 go_wp2_with (first|((with_reducible refine zak (N:=2) rfl ?_);refine zaj rfl (N:=2) rfl (cs:=#[.bool false,.bool false,.bool false,.bool false,.bool false,.int .i64 0,.int .i64 0,.int .i32 0]) (t:=26) gz ?_;intro A hg w2 hbox hb;have af:=gN bz hg;have B:=zaa.mk hbox;replace HB:=bN bz hb;clear hb hbox hg;obtain⟨D,E,I,J,K,M,O,U,X,Y,Z,aa,ab,ac,ad,ae⟩:=cz8 (W:=w2) B))
 refine bodyPost_ret (results_cell_row rfl _ _ A 26 #[.bool false,.bool false,.bool false,.bool false,.bool false,.int .i64 (-1),.int .i64 (-1),.int .i32 a0] (0,0) _ rfl bk Tryz.underlying26 rfl (by kernel_rfl)) rfl ?_
 exact⟨ez,bz⟩
def zba.f(a0:Bool):Option (Int):=if a0=true then(some 64) else(some 32)
theorem zba.calls(a0:Bool)(r:Int)(w:World)(h:zba.f a0=some r):
  Calls Tryz.prog 21 #[.bool a0] w fun e w'=>e= .returned (.int .i64 r)∧zaU w w':=by
 have H:(if a0=true then(some 64) else(some 32))=some r:=h
 clear h
 by_cases c2:a0=true
 ·subst c2
  replace H:=hT H
  obtain rfl:=Option.some.inj H
  go_enter Tryz.func21,Tryz.ntmps21
  go_wp2
  go_ret
  exact⟨by first|rfl|(simp;done)|(simp[*];done),by repeat(first|exact zaU.refl _|apply zaU.step)⟩
 replace c2:=Bool.eq_false_iff.mpr c2
 subst c2
 replace H:=hF H
 obtain rfl:=Option.some.inj H
 go_enter Tryz.func21,Tryz.ntmps21
 go_wp2
 go_ret
 exact⟨by first|rfl|(simp;done)|(simp[*];done),by repeat(first|exact zaU.refl _|apply zaU.step)⟩
end
end Go.Proofs.YtecpgdfnamkfdaaGreatDoor.Fn
end
section
namespace Go.Proofs.YtecpgdfnamkfdaaGreatDoor.Fn
open Go.RowKit Go.Proofs.YtecpgdfnamkfdaaGreatDoorW.PrintWords Go.Proofs.YtecpgdfnamkfdaaGreatDoorW.PrintLast Go.Proofs.YtecpgdfnamkfdaaGreatDoorW.PrintMore
attribute [local go_sem] fnW_0 fnW_1 fnW_2 fnW_3 fnW_4 fnW_5 fnW_guard fnW_eql zaK zaL zaQ zaR
set_option linter.unusedVariables false
set_option linter.unusedSimpArgs false
theorem isE(l:List UInt8):(l !=[])= !l.isEmpty:=by cases l<;>rfl
mutual
def zae.l0:Nat→ByteArray→ByteArray→Int→Bool→Int→Option (ByteArray×Int×Bool)
 |0,_,_,_,_,_=>none
 |k+1,x0,x4,x5,x6,x7=>if x7<(x0.size:Int) then(if 0≤x7 then(if(bt x0 x7)≥48 then(zae.j1 k x0 x4 x5 x6 x7 (bt x0 x7) (decide ((bt x0 x7)≤57))) else(zae.j1 k x0 x4 x5 x6 x7 (bt x0 x7) false)) else(none)) else((zaA.f k x4 x5).bind fun A=>(if A.2.2=0 then(some (A.1,A.2.1,(x4.toList !=([]:List UInt8)))) else(some (A.1,A.2.1,false))))
def zae.j1:Nat→ByteArray→ByteArray→Int→Bool→Int→Int→Bool→Option (ByteArray×Int×Bool)
 |0,_,_,_,_,_,_,_=>none
 |k+1,x0,x4,x5,x6,x7,x8,A=>if A=true then(if 0≤x7 then(if x7≤(wrap64 (x7+1)) then(if(wrap64 (x7+1))≤(x0.size:Int) then(if x4.size+(x0.extract (x7:Int).toNat ((wrap64 (x7+1)):Int).toNat).size≤9223372036854775807 then(if x6=true then(zae.l0 k x0 (x4++(x0.extract (x7:Int).toNat ((wrap64 (x7+1)):Int).toNat)) x5 x6 (wrap64 (x7+1))) else(zae.l0 k x0 (x4++(x0.extract (x7:Int).toNat ((wrap64 (x7+1)):Int).toNat)) (wrap64 (x5+1)) x6 (wrap64 (x7+1)))) else(none)) else(none)) else(none)) else(none)) else(if x8=46 then(zae.j2 k x0 x4 x5 x7 x8 (!x6)) else(zae.j2 k x0 x4 x5 x7 x8 false))
def zae.j2:Nat→ByteArray→ByteArray→Int→Int→Int→Bool→Option (ByteArray×Int×Bool)
 |0,_,_,_,_,_,_=>none
 |k+1,x0,x4,x5,x7,x8,A=>if A=true then(zae.l0 k x0 x4 x5 true (wrap64 (x7+1))) else(if x8=101 then(zae.j3 k x0 x4 x5 x7 true) else(zae.j3 k x0 x4 x5 x7 (x8==69)))
def zae.j3:Nat→ByteArray→ByteArray→Int→Int→Bool→Option (ByteArray×Int×Bool)
 |0,_,_,_,_,_=>none
 |k+1,x0,x4,x5,x7,A=>if A=true then(if(x0.size:Int)<(wrap64 (x7+4)) then(zae.j4 k x0 x4 x5 x7 0 true) else(if 0≤(wrap64 (x7+1)) then(if(wrap64 (x7+1))<(x0.size:Int) then(if(bt x0 (wrap64 (x7+1)))=43 then(zae.j4 k x0 x4 x5 x7 0 false) else(zae.j4 k x0 x4 x5 x7 0 ((bt x0 (wrap64 (x7+1)))!=45))) else(none)) else(none))) else(some ((⟨#[]⟩:ByteArray),0,false))
def zae.j4:Nat→ByteArray→ByteArray→Int→Int→Int→Bool→Option (ByteArray×Int×Bool)
 |0,_,_,_,_,_,_=>none
 |k+1,x0,x4,x5,x7,x9,B=>if B=true then(some ((⟨#[]⟩:ByteArray),0,false)) else(if 0≤(wrap64 (x7+2)) then(if(wrap64 (x7+2))≤(x0.size:Int) then(if(x0.extract ((wrap64 (x7+2)):Int).toNat x0.size).size≤9223372036854775807 then((some (bytesOf (x0.extract ((wrap64 (x7+2)):Int).toNat x0.size):List Int)).bind fun A=>(zae.l1 k x0 x4 x5 x7 x9 A (A.length:Int) 0)) else(none)) else(none)) else(none))
def zae.l1:Nat→ByteArray→ByteArray→Int→Int→Int→List Int→Int→Int→Option (ByteArray×Int×Bool)
 |0,_,_,_,_,_,_,_,_=>none
 |k+1,x0,x4,x5,x7,x9,E,I,D=>if D<I then(if 0≤D then(if D<(E.length:Int) then(if(rd E D)<48 then(some ((⟨#[]⟩:ByteArray),0,false)) else(if(rd E D)>57 then(some ((⟨#[]⟩:ByteArray),0,false)) else(if x9>1000 then(some ((⟨#[]⟩:ByteArray),0,false)) else(zae.l1 k x0 x4 x5 x7 (wrap64 ((wrap64 (10*x9))+(((rd E D)-48)%256))) E I (wrap64 (D+1)))))) else(none)) else(none)) else(if 0≤(wrap64 (x7+1)) then(if(wrap64 (x7+1))<(x0.size:Int) then(if(bt x0 (wrap64 (x7+1)))=45 then((zaA.f k x4 (wrap64 (x5+(wrap64 (-x9))))).bind fun A=>(if A.2.2=0 then(some (A.1,A.2.1,(x4.toList !=([]:List UInt8)))) else(some (A.1,A.2.1,false)))) else((zaA.f k x4 (wrap64 (x5+x9))).bind fun B=>(if B.2.2=0 then(some (B.1,B.2.1,(x4.toList !=([]:List UInt8)))) else(some (B.1,B.2.1,false))))) else(none)) else(none))
end
def zae.f(k:Nat)(a0:ByteArray):Option (ByteArray×Int×Bool):=zae.l0 k a0 (⟨#[]⟩:ByteArray) 0 false 0
set_option maxHeartbeats 8000000 in
set_option maxRecDepth 100000 in
theorem zae.calls(k:Nat)(a0:ByteArray)(r1:ByteArray)(r2:Int)(r3:Bool)(w:World)(h:zae.f k a0=some (r1,r2,r3)):
  Calls Tryz.prog 31 #[.string a0] w fun e w'=>e= .returned (.tuple #[.agg #[.string r1,.int .i64 r2],.bool r3])∧Below w.heap.size w w':=by
 have eR:=Tryz.underlying42
 have HB:=zaa.mk (Below.refl w.heap.size w)
 have H:(zae.l0 k a0 (⟨#[]⟩:ByteArray) 0 false 0)=some (r1,r2,r3):=h
 clear h
 have H':=zaa.mk H
 clear H
 go_enter Tryz.func31,Tryz.ntmps31
 go_wp2_with (first|((with_reducible refine zak (N:=2) rfl ?_);refine zaj rfl (N:=2) rfl (cs:=#[.string (⟨#[]⟩:ByteArray),.int .i64 0]) (t:=42) gz ?_;intro A hg w2 hbox hb;have er:=gN bz hg;have E:=zaa.mk hbox;replace HB:=bN bz hb;clear hb hbox hg))
 go_loopg [4,5,6,7] k (fun kq v4 v5 v6 v7 w'=> ∃(U:ByteArray) (X:Int) (aQ:Bool) (K:Int) (B:ByteArray) (D:Int),v4= .string U∧v5= .int .i64 X∧v6= .bool aQ∧v7= .int .i64 K∧zaa (zae.l0 kq a0 U X aQ K=some (r1,r2,r3))∧zaa (kq≤k)∧zaa (w'.heap[A]? =some (.cells #[.string B,.int .i64 D] 42 (0,0)))∧zaa (Below w.heap.size w w'))
 case atStart=>exact⟨((⟨#[]⟩:ByteArray)),(0),(false),(0),((⟨#[]⟩:ByteArray)),(0),rz,rz,rz,rz,H',⟨Nat.le_refl _⟩,⟨bk⟩,⟨bz⟩⟩
 case round=>
  clear H'
  obtain⟨U,X,aQ,K,B,D,rfl,rfl,rfl,rfl,HA,ak,E,HB⟩:=hrel
  cases gk with
  |zero=>exact absurd HA.out (by simp[zae.l0])
  |succ k1=>
   have H:=HA.out
   clear HA
   simp only[zae.l0] at H
   by_cases c3:K<(a0.size:Int)
   ·replace H:=hE H c3
    have aR:=decide_eq_true c3
    clear c3
    by_cases c4:0≤K
    ·replace H:=hE H c4
     have a5:=decide_eq_true c4
     clear c4
     have ck:=zaa.mk H
     clear H
     have p5:0≤(K:Int):=of_decide_eq_true (by first|(with_reducible assumption)|assumption)
     have q5:K<(a0.size:Int):=of_decide_eq_true (by first|(with_reducible assumption)|assumption)
     have bL:=zch a0 K
     replace p5:=eq_true p5
     replace q5:=eq_true q5
     go_upto_region 7 with(fail)
     go_cut [26] (fun et wc=> ∃(kq:Nat) (aS:Bool),et= .bool aS∧zaa (zae.j1 kq a0 U X aQ K (bt a0 K) aS=some (r1,r2,r3))∧zaa (kq≤k1)∧zaa (wc.heap[A]? =some (.cells #[.string B,.int .i64 D] 42 (0,0)))∧zaa (Below w.heap.size w wc))
     case first=>
      have H:=ck.out
      clear ck
      by_cases c7:(bt a0 K)≥48
      ·replace H:=hE H c7
       have aD:decide (48≤(bt a0 K))=true:=decide_eq_true c7
       clear c7
       try rw[aD]
       have H':=zaa.mk H
       clear H
       go_wp2
       go_meet
       case rel=>exact⟨_,(decide ((bt a0 K)≤57)),rz,H',⟨by have:=ak.out;first|omega|exact Nat.le_refl _⟩,⟨bk⟩,⟨bz⟩⟩
      replace H:=hN H c7
      have aD:decide (48≤(bt a0 K))=false:=decide_eq_false c7
      clear c7
      try rw[aD]
      have H':=zaa.mk H
      clear H
      go_wp2
      go_meet
      case rel=>exact⟨_,(false),rz,H',⟨by have:=ak.out;first|omega|exact Nat.le_refl _⟩,⟨bk⟩,⟨bz⟩⟩
     case rest=>
      clear ck
      try clear c3
      try clear aR
      try clear c4
      try clear a5
      try clear p5
      try clear q5
      try clear bL
      try clear c7
      try clear aD
      try clear p5
      try clear q5
      obtain⟨kq,aS,rfl,HA,am,E,HB⟩:=hcut
      cases kq with
      |zero=>exact absurd HA.out (by simp[zae.j1])
      |succ cm=>
       have H:=HA.out
       clear HA
       simp only[zae.j1] at H
       by_cases c8:aS=true
       ·subst c8
        replace H:=hT H
        by_cases c9:0≤K
        ·replace H:=hE H c9
         have bn:=eq_true c9
         have bo:decide (0≤K)=true:=decide_eq_true c9
         clear c9
         by_cases a6:K≤(wrap64 (K+1))
         ·replace H:=hE H a6
          have aT:=eq_true a6
          have aU:decide (K≤(wrap64 (K+1)))=true:=decide_eq_true a6
          by_cases a7:(wrap64 (K+1))≤(a0.size:Int)
          ·replace H:=hE H a7
           have aV:=eq_true a7
           have aW:decide ((wrap64 (K+1))≤(a0.size:Int))=true:=decide_eq_true a7
           by_cases aX:U.size+(a0.extract (K:Int).toNat ((wrap64 (K+1)):Int).toNat).size≤9223372036854775807
           ·replace H:=hE H aX
            have aY:=eq_true aX
            have aZ:decide (U.size+(a0.extract (K:Int).toNat ((wrap64 (K+1)):Int).toNat).size≤9223372036854775807)=true:=decide_eq_true aX
            try have a1:(9223372036854775807<U.size+(a0.extract (K:Int).toNat ((wrap64 (K+1)):Int).toNat).size)=False:=eq_false (Nat.not_lt.2 aX)
            by_cases a8:aQ=true
            ·subst a8
             replace H:=hT H
             have H':=zaa.mk H
             clear H
             go_wp2
             go_roundg cm
             case measure=>have:=ak.out;have:=am.out;omega
             case rel=>exact⟨(U++(a0.extract (K:Int).toNat ((wrap64 (K+1)):Int).toNat)),(X),(true),(wrap64 (K+1)),(B),(D),rz,rz,rz,rz,H',⟨by have:=ak.out;have:=am.out;omega⟩,⟨bk⟩,⟨bz⟩⟩
            replace a8:=Bool.eq_false_iff.mpr a8
            subst a8
            replace H:=hF H
            have H':=zaa.mk H
            clear H
            go_wp2
            go_roundg cm
            case measure=>have:=ak.out;have:=am.out;omega
            case rel=>exact⟨(U++(a0.extract (K:Int).toNat ((wrap64 (K+1)):Int).toNat)),(wrap64 (X+1)),(false),(wrap64 (K+1)),(B),(D),rz,rz,rz,rz,H',⟨by have:=ak.out;have:=am.out;omega⟩,⟨bk⟩,⟨bz⟩⟩
           replace H:=hN H aX
           exact absurd H (by simp)
          replace H:=hN H a7
          exact absurd H (by simp)
         replace H:=hN H a6
         exact absurd H (by simp)
        replace H:=hN H c9
        exact absurd H (by simp)
       replace c8:=Bool.eq_false_iff.mpr c8
       subst c8
       replace H:=hF H
       have bM:=zaa.mk H
       clear H
       go_upto_region 11 with(fail)
       go_cut [44] (fun eu wc=> ∃(kq:Nat) (aE:Bool),eu= .bool aE∧zaa (zae.j2 kq a0 U X K (bt a0 K) aE=some (r1,r2,r3))∧zaa (kq≤cm)∧zaa (wc.heap[A]? =some (.cells #[.string B,.int .i64 D] 42 (0,0)))∧zaa (Below w.heap.size w wc))
       case first=>
        have H:=bM.out
        clear bM
        by_cases a2:(bt a0 K)=46
        ·replace H:=hE H a2
         obtain⟨an,ao⟩:=eT a2
         clear a2
         try first|rw[an]|rw[ao]
         have H':=zaa.mk H
         clear H
         go_wp2
         go_meet
         case rel=>exact⟨_,(!aQ),rz,H',⟨by have:=ak.out;have:=am.out;first|omega|exact Nat.le_refl _⟩,⟨bk⟩,⟨bz⟩⟩
        replace H:=hN H a2
        obtain⟨an,ao⟩:=eF a2
        try first|rw[an]|rw[ao]
        have H':=zaa.mk H
        clear H
        go_wp2
        go_meet
        case rel=>exact⟨_,(false),rz,H',⟨by have:=ak.out;have:=am.out;first|omega|exact Nat.le_refl _⟩,⟨bk⟩,⟨bz⟩⟩
       case rest=>
        clear bM
        try clear c3
        try clear aR
        try clear c4
        try clear a5
        try clear p5
        try clear q5
        try clear bL
        try clear c7
        try clear aD
        try clear c8
        try clear c9
        try clear bn
        try clear bo
        try clear a6
        try clear aT
        try clear aU
        try clear a7
        try clear aV
        try clear aW
        try clear aX
        try clear aY
        try clear aZ
        try clear a1
        try clear a8
        try clear a2
        try clear an
        try clear ao
        try clear p5
        try clear q5
        obtain⟨kq,aE,rfl,HA,aA,E,HB⟩:=hcut
        cases kq with
        |zero=>exact absurd HA.out (by simp[zae.j2])
        |succ cg=>
         have H:=HA.out
         clear HA
         simp only[zae.j2] at H
         by_cases bd:aE=true
         ·subst bd
          replace H:=hT H
          have H':=zaa.mk H
          clear H
          go_wp2
          go_roundg cg
          case measure=>have:=ak.out;have:=am.out;have:=aA.out;omega
          case rel=>exact⟨(U),(X),(true),(wrap64 (K+1)),(B),(D),rz,rz,rz,rz,H',⟨by have:=ak.out;have:=am.out;have:=aA.out;omega⟩,⟨bk⟩,⟨bz⟩⟩
         replace bd:=Bool.eq_false_iff.mpr bd
         subst bd
         replace H:=hF H
         have bO:=zaa.mk H
         clear H
         go_upto_region 13 with(fail)
         go_cut [51] (fun ev wc=> ∃(kq:Nat) (aF:Bool),ev= .bool aF∧zaa (zae.j3 kq a0 U X K aF=some (r1,r2,r3))∧zaa (kq≤cg)∧zaa (wc.heap[A]? =some (.cells #[.string B,.int .i64 D] 42 (0,0)))∧zaa (Below w.heap.size w wc))
         case first=>
          have H:=bO.out
          clear bO
          by_cases a9:(bt a0 K)=101
          ·replace H:=hE H a9
           obtain⟨aB,aC⟩:=eT a9
           clear a9
           try first|rw[aB]|rw[aC]
           have H':=zaa.mk H
           clear H
           go_wp2
           go_meet
           case rel=>exact⟨_,(true),rz,H',⟨by have:=ak.out;have:=am.out;have:=aA.out;first|omega|exact Nat.le_refl _⟩,⟨bk⟩,⟨bz⟩⟩
          replace H:=hN H a9
          obtain⟨aB,aC⟩:=eF a9
          try first|rw[aB]|rw[aC]
          have H':=zaa.mk H
          clear H
          go_wp2
          go_meet
          case rel=>exact⟨_,(((bt a0 K)==69)),rz,H',⟨by have:=ak.out;have:=am.out;have:=aA.out;first|omega|exact Nat.le_refl _⟩,⟨bk⟩,⟨bz⟩⟩
         case rest=>
          clear bO
          try clear c3
          try clear aR
          try clear c4
          try clear a5
          try clear p5
          try clear q5
          try clear bL
          try clear c7
          try clear aD
          try clear c8
          try clear c9
          try clear bn
          try clear bo
          try clear a6
          try clear aT
          try clear aU
          try clear a7
          try clear aV
          try clear aW
          try clear aX
          try clear aY
          try clear aZ
          try clear a1
          try clear a8
          try clear a2
          try clear an
          try clear ao
          try clear bd
          try clear a9
          try clear aB
          try clear aC
          try clear p5
          try clear q5
          obtain⟨kq,aF,rfl,HA,ba,E,HB⟩:=hcut
          cases kq with
          |zero=>exact absurd HA.out (by simp[zae.j3])
          |succ cQ=>
           have H:=HA.out
           clear HA
           simp only[zae.j3] at H
           by_cases bA:aF=true
           ·subst bA
            replace H:=hT H
            have bP:=zaa.mk H
            clear H
            go_upto_region 15 with(fail)
            go_cut [76] (fun ew wc=> ∃(kq:Nat) (aG:Bool),ew= .bool aG∧zaa (zae.j4 kq a0 U X K 0 aG=some (r1,r2,r3))∧zaa (kq≤cQ)∧zaa (wc.heap[A]? =some (.cells #[.string B,.int .i64 D] 42 (0,0)))∧zaa (Below w.heap.size w wc))
            case first=>
             have H:=bP.out
             clear bP
             by_cases bb:(a0.size:Int)<(wrap64 (K+4))
             ·replace H:=hE H bb
              have ap:=decide_eq_true bb
              clear bb
              (first|rw[ap]|(simp only[zad,zaf];rw[ap])|skip)
              have H':=zaa.mk H
              clear H
              go_wp2
              go_meet
              case rel=>exact⟨_,(true),rz,H',⟨by have:=ak.out;have:=am.out;have:=aA.out;have:=ba.out;first|omega|exact Nat.le_refl _⟩,⟨bk⟩,⟨bz⟩⟩
             replace H:=hN H bb
             have ap:=decide_eq_false bb
             clear bb
             (first|rw[ap]|(simp only[zad,zaf];rw[ap])|skip)
             obtain⟨ai,a3⟩: ∃j_:Int,(wrap64 (K+1))=j_:=⟨_,rfl⟩
             (first|rw[a3] at H|simp only[a3] at H)
             have eo:(IntKind.i64.wrap (K+1))=ai:=(zad _).trans a3
             by_cases bB:0≤(ai)
             ·replace H:=hE H bB
              have bQ:=decide_eq_true bB
              clear bB
              by_cases bC:(ai)<(a0.size:Int)
              ·replace H:=hE H bC
               have bR:=decide_eq_true bC
               clear bC
               by_cases be:(bt a0 (ai))=43
               ·replace H:=hE H be
                obtain⟨bf,bg⟩:=eT be
                clear be
                have H':=zaa.mk H
                clear H
                have p25:0≤((ai):Int):=of_decide_eq_true (by first|(with_reducible assumption)|assumption)
                have a4:(ai)<(a0.size:Int):=of_decide_eq_true (by first|(with_reducible assumption)|assumption)
                have bS:=zch a0 (ai)
                replace p25:=eq_true p25
                replace a4:=eq_true a4
                go_wp2
                go_meet
                case rel=>exact⟨_,(false),rz,H',⟨by have:=ak.out;have:=am.out;have:=aA.out;have:=ba.out;first|omega|exact Nat.le_refl _⟩,⟨bk⟩,⟨bz⟩⟩
               replace H:=hN H be
               obtain⟨bf,bg⟩:=eF be
               have H':=zaa.mk H
               clear H
               have p25:0≤((ai):Int):=of_decide_eq_true (by first|(with_reducible assumption)|assumption)
               have a4:(ai)<(a0.size:Int):=of_decide_eq_true (by first|(with_reducible assumption)|assumption)
               have bS:=zch a0 (ai)
               replace p25:=eq_true p25
               replace a4:=eq_true a4
               have p27:0≤((ai):Int):=of_decide_eq_true (by first|(with_reducible assumption)|assumption)
               have bD:(ai)<(a0.size:Int):=of_decide_eq_true (by first|(with_reducible assumption)|assumption)
               have ci:=zch a0 (ai)
               replace p27:=eq_true p27
               replace bD:=eq_true bD
               go_wp2
               go_meet
               case rel=>exact⟨_,(((bt a0 (ai))!=45)),(by first|rfl|(simp;done)|(simp only[←a3]<;>(first|rfl|simp))|(simp[*];done)),H',⟨by have:=ak.out;have:=am.out;have:=aA.out;have:=ba.out;first|omega|exact Nat.le_refl _⟩,⟨bk⟩,⟨bz⟩⟩
              replace H:=hN H bC
              exact absurd H (by simp)
             replace H:=hN H bB
             exact absurd H (by simp)
            case rest=>
             clear bP
             try clear c3
             try clear aR
             try clear c4
             try clear a5
             try clear p5
             try clear q5
             try clear bL
             try clear c7
             try clear aD
             try clear c8
             try clear c9
             try clear bn
             try clear bo
             try clear a6
             try clear aT
             try clear aU
             try clear a7
             try clear aV
             try clear aW
             try clear aX
             try clear aY
             try clear aZ
             try clear a1
             try clear a8
             try clear a2
             try clear an
             try clear ao
             try clear bd
             try clear a9
             try clear aB
             try clear aC
             try clear bA
             try clear bb
             try clear ap
             try clear bB
             try clear bQ
             try clear bC
             try clear bR
             try clear p25
             try clear a4
             try clear bS
             try clear be
             try clear bf
             try clear bg
             try clear p27
             try clear bD
             try clear ci
             try clear p25
             try clear p27
             try clear p5
             try clear a4
             try clear bD
             try clear q5
             obtain⟨kq,aG,rfl,HA,cj,E,HB⟩:=hcut
             cases kq with
             |zero=>exact absurd HA.out (by simp[zae.j4])
             |succ bU=>
              have H:=HA.out
              clear HA
              simp only[zae.j4] at H
              by_cases bV:aG=true
              ·subst bV
               replace H:=hT H
               simp only[Option.some.injEq,Prod.mk.injEq] at H
               obtain⟨rfl,rfl,rfl⟩:=H
               obtain⟨bW,bX,bY,bZ⟩:=cz2 (W:=wc) E
               go_wp2
               refine bodyPost_ret (zaM rfl _ _ A 42 #[.string (⟨#[]⟩:ByteArray),.int .i64 0] (0,0) _ rfl bk Tryz.underlying42 rfl (by kernel_rfl)) rfl ?_
               exact⟨by first|rfl|(simp[zan,zao]<;>rfl)|(simp[*,zan,zao]<;>rfl)|(simp[isE];done),bz⟩
              replace bV:=Bool.eq_false_iff.mpr bV
              subst bV
              replace H:=hF H
              obtain⟨al,aj⟩: ∃j_:Int,(wrap64 (K+2))=j_:=⟨_,rfl⟩
              (first|rw[aj] at H|simp only[aj] at H)
              have ep:(IntKind.i64.wrap (K+2))=al:=(zad _).trans aj
              by_cases bE:0≤(al)
              ·replace H:=hE H bE
               have cn:=eq_true bE
               have co:decide (0≤(al))=true:=decide_eq_true bE
               clear bE
               by_cases bG:(al)≤(a0.size:Int)
               ·replace H:=hE H bG
                have cp:=eq_true bG
                have cq:decide ((al)≤(a0.size:Int))=true:=decide_eq_true bG
                clear bG
                by_cases bh:(a0.extract ((al):Int).toNat a0.size).size≤9223372036854775807
                ·replace H:=hE H bh
                 have cr:=eq_true bh
                 have ct:decide ((a0.extract ((al):Int).toNat a0.size).size≤9223372036854775807)=true:=decide_eq_true bh
                 try have cu:(9223372036854775807<(a0.extract ((al):Int).toNat a0.size).size)=False:=eq_false (Nat.not_lt.2 bh)
                 clear bh
                 obtain⟨Y,aH⟩: ∃y_:List Int,y_=(bytesOf (a0.extract ((al):Int).toNat a0.size)):=⟨_,rfl⟩
                 replace H:(zae.l1 bU a0 U X K 0 Y (Y.length:Int) 0)=some (r1,r2,r3):=by first|(rw[aH];with_reducible exact H)|(have cv:=(Option.bind_some _ _).symm.trans H;rw[aH];with_reducible exact cv)|(have cv:=(Option.bind_some _ _).symm.trans H;with_reducible exact cv)|with_reducible exact H|(rw[aH];exact H)|exact H
                 have b0:=zaa.mk aH
                 clear aH
                 have H':=zaa.mk H
                 clear H
                 go_wp2_with (first|((with_reducible refine zak (N:=82) rfl ?_);refine Kd.V_conv _ rfl (N:=82) rfl 9 51 5 _ rfl (a0.extract ((al):Int).toNat a0.size) rfl Tryz.underlying9 Tryz.underlying51 Tryz.underlying5 (of_decide_eq_true (by first|(with_reducible assumption)|assumption)) (ok:=fun k_=>wc.heap.size≤k_) (Nat.le_refl _) (Below.refl _ _) (Nat.le_refl _) ?_;intro eS eU bc hb hg_ hnew_;clear hg_ hnew_;(first|rw[←b0.out] at bc|(simp only[Int.reduceToNat] at bc;rw[←b0.out] at bc));have Z:=zaa.mk (Kd.V_lower (Kd.V_mono (ok':=fun k_=>k_≠A) bc (fun k_ hk_=>(Kd.freshB (g:=A) (o:=.cells #[.string B,.int .i64 D] 42 (0,0)) bk k_ hk_))) (zaI bz));have aa:=zaa.mk (zag (g:=A) (o:=.cells #[.string B,.int .i64 D] 42 (0,0)) bk hb);have ab:=zaa.mk (zam bz hb);clear E;clear HB;have b1:=Z;have E:=aa;have HB:=ab;clear Z aa ab;clear hb bc;obtain⟨cR,cS,cT⟩:=Kd.V_slice b1.out;subst cT))
                 go_loopg [9,84] bU (fun kq v9 ey w'=> ∃(ad:Int) (O:Int) (I:ByteArray) (J:Int),v9= .int .i64 ad∧ey= .int .i64 O∧zaa (zae.l1 kq a0 U X K ad Y (Y.length:Int) O=some (r1,r2,r3))∧zaa (kq≤bU)∧zaa (Kd.V (Kd.int .u8) 5 w' w.heap.size (fun k_=>k_≠A) (.slice cR Y.length cS) Y)∧zaa (w'.heap[A]? =some (.cells #[.string I,.int .i64 J] 42 (0,0)))∧zaa (Below w.heap.size w w'))
                 case atStart=>exact⟨(0),(0),(B),(D),rz,rz,H',⟨Nat.le_refl _⟩,⟨by(with_reducible repeat(first|apply Kd.V_alloc|apply Kd.V_drewN|apply Kd.V_drew));exact b1.out⟩,⟨bk⟩,⟨bz⟩⟩
                 case round=>
                  clear H'
                  try clear c3
                  try clear aR
                  try clear c4
                  try clear a5
                  try clear p5
                  try clear q5
                  try clear bL
                  try clear c7
                  try clear aD
                  try clear c8
                  try clear c9
                  try clear bn
                  try clear bo
                  try clear a6
                  try clear aT
                  try clear aU
                  try clear a7
                  try clear aV
                  try clear aW
                  try clear aX
                  try clear aY
                  try clear aZ
                  try clear a1
                  try clear a8
                  try clear a2
                  try clear an
                  try clear ao
                  try clear bd
                  try clear a9
                  try clear aB
                  try clear aC
                  try clear bA
                  try clear bb
                  try clear ap
                  try clear bB
                  try clear bQ
                  try clear bC
                  try clear bR
                  try clear p25
                  try clear a4
                  try clear bS
                  try clear be
                  try clear bf
                  try clear bg
                  try clear p27
                  try clear bD
                  try clear ci
                  try clear bV
                  try clear bE
                  try clear cn
                  try clear co
                  try clear bG
                  try clear cp
                  try clear cq
                  try clear bh
                  try clear cr
                  try clear ct
                  try clear cu
                  try clear bW bX bY bZ
                  try clear p25
                  try clear p27
                  try clear p5
                  try clear a4
                  try clear bD
                  try clear q5
                  obtain⟨ad,O,I,J,rfl,rfl,HA,cV,M,E,HB⟩:=hrel
                  cases gk with
                  |zero=>exact absurd HA.out (by simp[zae.l1])
                  |succ k6=>
                   have H:=HA.out
                   clear HA
                   simp only[zae.l1] at H
                   by_cases bH:O<(Y.length:Int)
                   ·replace H:=hE H bH
                    have cw:=decide_eq_true bH
                    clear bH
                    by_cases cc:0≤O
                    ·replace H:=hE H cc
                     have eA:=decide_eq_true cc
                     clear cc
                     by_cases cd:O<(Y.length:Int)
                     ·replace H:=hE H cd
                      have eB:=decide_eq_true cd
                      clear cd
                      by_cases bI:(rd Y O)<48
                      ·replace H:=hE H bI
                       have cx:=decide_eq_true bI
                       clear bI
                       simp only[Option.some.injEq,Prod.mk.injEq] at H
                       obtain⟨rfl,rfl,rfl⟩:=H
                       have ae:0≤(O:Int):=of_decide_eq_true (by first|(with_reducible assumption)|assumption)
                       have af:O<(Y.length:Int):=of_decide_eq_true (by first|(with_reducible assumption)|assumption)
                       obtain⟨bi,aI,aJ⟩:=Kd.at_int (Kd.V_reads' M.out).2.2 O ae af
                       cases aI
                       replace ae:=eq_true ae
                       replace af:=eq_true af
                       obtain⟨cW,cX,cY,cZ⟩:=cz2 (W:=wr) E
                       go_wp2
                       refine bodyPost_ret (zaM rfl _ _ A 42 #[.string (⟨#[]⟩:ByteArray),.int .i64 0] (0,0) _ rfl bk Tryz.underlying42 rfl (by kernel_rfl)) rfl ?_
                       exact⟨by first|rfl|(simp[zan,zao]<;>rfl)|(simp only[←aj];first|rfl|(simp[zan,zao]<;>rfl))|(simp[*,zan,zao]<;>rfl)|(simp[isE];done),bz⟩
                      replace H:=hN H bI
                      have cx:=decide_eq_false bI
                      clear bI
                      by_cases bJ:(rd Y O)>57
                      ·replace H:=hE H bJ
                       have cy:decide (57<(rd Y O))=true:=decide_eq_true bJ
                       clear bJ
                       simp only[Option.some.injEq,Prod.mk.injEq] at H
                       obtain⟨rfl,rfl,rfl⟩:=H
                       have ae:0≤(O:Int):=of_decide_eq_true (by first|(with_reducible assumption)|assumption)
                       have af:O<(Y.length:Int):=of_decide_eq_true (by first|(with_reducible assumption)|assumption)
                       obtain⟨bi,aI,aJ⟩:=Kd.at_int (Kd.V_reads' M.out).2.2 O ae af
                       cases aI
                       replace ae:=eq_true ae
                       replace af:=eq_true af
                       obtain⟨c5,c6,da,db⟩:=cz2 (W:=wr) E
                       go_wp2
                       refine bodyPost_ret (zaM rfl _ _ A 42 #[.string (⟨#[]⟩:ByteArray),.int .i64 0] (0,0) _ rfl bk Tryz.underlying42 rfl (by kernel_rfl)) rfl ?_
                       exact⟨by first|rfl|(simp[zan,zao]<;>rfl)|(simp only[←aj];first|rfl|(simp[zan,zao]<;>rfl))|(simp[*,zan,zao]<;>rfl)|(simp[isE];done),bz⟩
                      replace H:=hN H bJ
                      have cy:decide (57<(rd Y O))=false:=decide_eq_false bJ
                      clear bJ
                      by_cases bK:ad>1000
                      ·replace H:=hE H bK
                       have cz:decide (1000<ad)=true:=decide_eq_true bK
                       clear bK
                       simp only[Option.some.injEq,Prod.mk.injEq] at H
                       obtain⟨rfl,rfl,rfl⟩:=H
                       have ae:0≤(O:Int):=of_decide_eq_true (by first|(with_reducible assumption)|assumption)
                       have af:O<(Y.length:Int):=of_decide_eq_true (by first|(with_reducible assumption)|assumption)
                       obtain⟨bi,aI,aJ⟩:=Kd.at_int (Kd.V_reads' M.out).2.2 O ae af
                       cases aI
                       replace ae:=eq_true ae
                       replace af:=eq_true af
                       obtain⟨dc,dd,de,df⟩:=cz2 (W:=wr) E
                       go_wp2
                       refine bodyPost_ret (zaM rfl _ _ A 42 #[.string (⟨#[]⟩:ByteArray),.int .i64 0] (0,0) _ rfl bk Tryz.underlying42 rfl (by kernel_rfl)) rfl ?_
                       exact⟨by first|rfl|(simp[zan,zao]<;>rfl)|(simp only[←aj];first|rfl|(simp[zan,zao]<;>rfl))|(simp[*,zan,zao]<;>rfl)|(simp[isE];done),bz⟩
                      replace H:=hN H bK
                      have cz:decide (1000<ad)=false:=decide_eq_false bK
                      clear bK
                      have H':=zaa.mk H
                      clear H
                      have ae:0≤(O:Int):=of_decide_eq_true (by first|(with_reducible assumption)|assumption)
                      have af:O<(Y.length:Int):=of_decide_eq_true (by first|(with_reducible assumption)|assumption)
                      obtain⟨bi,aI,aJ⟩:=Kd.at_int (Kd.V_reads' M.out).2.2 O ae af
                      cases aI
                      replace ae:=eq_true ae
                      replace af:=eq_true af
                      go_wp2
                      go_roundg k6
                      case measure=>have:=ak.out;have:=am.out;have:=aA.out;have:=ba.out;have:=cj.out;have:=cV.out;omega
                      case rel=>exact⟨(wrap64 ((wrap64 (10*ad))+(((rd Y O)-48)%256))),(wrap64 (O+1)),(I),(J),rz,rz,H',⟨by have:=ak.out;have:=am.out;have:=aA.out;have:=ba.out;have:=cj.out;have:=cV.out;omega⟩,⟨by(with_reducible repeat(first|apply Kd.V_alloc|apply Kd.V_drewN|apply Kd.V_drew));exact M.out⟩,⟨bk⟩,⟨bz⟩⟩
                     replace H:=hN H cd
                     exact absurd H (by simp)
                    replace H:=hN H cc
                    exact absurd H (by simp)
                   replace H:=hN H bH
                   have cw:=decide_eq_false bH
                   clear bH
                   obtain⟨ac,ar⟩: ∃j_:Int,(wrap64 (K+1))=j_:=⟨_,rfl⟩
                   (first|rw[ar] at H|simp only[ar] at H)
                   have eq:(IntKind.i64.wrap (K+1))=ac:=(zad _).trans ar
                   by_cases ce:0≤(ac)
                   ·replace H:=hE H ce
                    have eC:=decide_eq_true ce
                    clear ce
                    by_cases cf:(ac)<(a0.size:Int)
                    ·replace H:=hE H cf
                     have eD:=decide_eq_true cf
                     clear cf
                     by_cases b2:(bt a0 (ac))=45
                     ·replace H:=hE H b2
                      obtain⟨cA,cB⟩:=eT b2
                      clear b2
                      replace H:=bs H
                      obtain⟨⟨bp,bq,b3⟩,dh,H⟩:=H
                      dsimp only at H
                      by_cases b4:b3=0
                      ·replace H:=hE H b4
                       obtain⟨cC,cD⟩:=eT b4
                       clear b4
                       simp only[Option.some.injEq,Prod.mk.injEq] at H
                       obtain⟨rfl,rfl,rfl⟩:=H
                       have p49:0≤((ac):Int):=of_decide_eq_true (by first|(with_reducible assumption)|assumption)
                       have aK:(ac)<(a0.size:Int):=of_decide_eq_true (by first|(with_reducible assumption)|assumption)
                       have b5:=zch a0 (ac)
                       replace p49:=eq_true p49
                       replace aK:=eq_true aK
                       go_wp2_with (first|((with_reducible refine zac (f:=50) rfl ?_);refine zal (some 119) rfl rfl Tryz.func50 (by kernel_rfl) rfl #[.agg #[.string U,.int .i64 (wrap64 (X+(wrap64 (-ad))))]] rfl lz ?_;(with_reducible refine(zaA.calls k6 U (wrap64 (X+(wrap64 (-ad)))) bp bq b3 _ dh.out).mono ?_);rintro e eV ⟨rfl,hb⟩;refine⟨_,rfl,?_⟩;have Z:=zaa.mk (Kd.V_below (by(with_reducible repeat(first|apply Kd.V_alloc|apply Kd.V_drewN|apply Kd.V_drew));exact M.out) hb);have aa:=zaa.mk (zag (g:=A) (o:=.cells #[.string I,.int .i64 J] 42 (0,0)) bk hb);have ab:=zaa.mk (zam bz hb);clear M;clear E;clear HB;have M:=Z;have E:=aa;have HB:=ab;clear Z aa ab;(try clear hb);(try clear b6);(try clear hk);(try clear hi))|((with_reducible refine zak (N:=12) rfl ?_);refine zaj rfl (N:=12) rfl (cs:=#[.string (⟨#[]⟩:ByteArray),.int .i64 0]) (t:=42) gz ?_;intro ag hg di hbox hb;have Z:=zaa.mk (Kd.V_below (Kd.V_elderB (by(with_reducible repeat(first|apply Kd.V_alloc|apply Kd.V_drewN|apply Kd.V_drew));exact M.out) ag (Nat.le_of_eq hg.symm)) hb);have aa:=zaa.mk (zag (g:=A) (o:=.cells #[.string I,.int .i64 J] 42 (0,0)) bk hb);have ab:=zaa.mk (zam bz hb);have aL:=zaa.mk (hbox);have aM:=zaa.mk ((by rw[hg];exact(zaI bz):w.heap.size≤ag));have aN:=zaa.mk ((by rw[hg];exact(zaI bz):w.heap.size≤ag));have aO:=zaa.mk ((by rw[hg];exact Nat.ne_of_lt (za3 (g:=A) (o:=.cells #[.string I,.int .i64 J] 42 (0,0)) bk):A≠ag));have aP:=zaa.mk ((by rw[hg];exact Nat.ne_of_gt (za3 (g:=A) (o:=.cells #[.string I,.int .i64 J] 42 (0,0)) bk):ag≠A));clear M;clear E;clear HB;have M:=Z;have E:=aa;have HB:=ab;have bj:=aL;have cF:=aM;have cG:=aN;have au:=aO;have av:=aP;clear Z aa ab aL aM aN aO aP;clear hb hbox hg;have eE:=av.out;have eG:=au.out;obtain⟨dj,dk,dl,dm⟩:=cz2 (W:=di) bj;obtain⟨dn,dp,dq,dr⟩:=cz2 (W:=di) E))
                       refine bodyPost_ret (zaM rfl _ _ A 42 #[.string bp,.int .i64 bq] (0,0) _ rfl bk Tryz.underlying42 rfl (by kernel_rfl)) rfl ?_
                       exact⟨by first|rfl|(simp[zan,zao]<;>rfl)|(simp only[←aj,←ar];first|rfl|(simp[zan,zao]<;>rfl))|(simp[*,zan,zao]<;>rfl)|(simp[isE];done),bz⟩
                      replace H:=hN H b4
                      obtain⟨cC,cD⟩:=eF b4
                      simp only[Option.some.injEq,Prod.mk.injEq] at H
                      obtain⟨rfl,rfl,rfl⟩:=H
                      have p49:0≤((ac):Int):=of_decide_eq_true (by first|(with_reducible assumption)|assumption)
                      have aK:(ac)<(a0.size:Int):=of_decide_eq_true (by first|(with_reducible assumption)|assumption)
                      have b5:=zch a0 (ac)
                      replace p49:=eq_true p49
                      replace aK:=eq_true aK
                      go_wp2_with (first|((with_reducible refine zac (f:=50) rfl ?_);refine zal (some 119) rfl rfl Tryz.func50 (by kernel_rfl) rfl #[.agg #[.string U,.int .i64 (wrap64 (X+(wrap64 (-ad))))]] rfl lz ?_;(with_reducible refine(zaA.calls k6 U (wrap64 (X+(wrap64 (-ad)))) bp bq b3 _ dh.out).mono ?_);rintro e eW ⟨rfl,hb⟩;refine⟨_,rfl,?_⟩;have Z:=zaa.mk (Kd.V_below (by(with_reducible repeat(first|apply Kd.V_alloc|apply Kd.V_drewN|apply Kd.V_drew));exact M.out) hb);have aa:=zaa.mk (zag (g:=A) (o:=.cells #[.string I,.int .i64 J] 42 (0,0)) bk hb);have ab:=zaa.mk (zam bz hb);clear M;clear E;clear HB;have M:=Z;have E:=aa;have HB:=ab;clear Z aa ab;(try clear hb);(try clear b6);(try clear hk);(try clear hi))|((with_reducible refine zak (N:=12) rfl ?_);refine zaj rfl (N:=12) rfl (cs:=#[.string (⟨#[]⟩:ByteArray),.int .i64 0]) (t:=42) gz ?_;intro ag hg ds hbox hb;have Z:=zaa.mk (Kd.V_below (Kd.V_elderB (by(with_reducible repeat(first|apply Kd.V_alloc|apply Kd.V_drewN|apply Kd.V_drew));exact M.out) ag (Nat.le_of_eq hg.symm)) hb);have aa:=zaa.mk (zag (g:=A) (o:=.cells #[.string I,.int .i64 J] 42 (0,0)) bk hb);have ab:=zaa.mk (zam bz hb);have aL:=zaa.mk (hbox);have aM:=zaa.mk ((by rw[hg];exact(zaI bz):w.heap.size≤ag));have aN:=zaa.mk ((by rw[hg];exact(zaI bz):w.heap.size≤ag));have aO:=zaa.mk ((by rw[hg];exact Nat.ne_of_lt (za3 (g:=A) (o:=.cells #[.string I,.int .i64 J] 42 (0,0)) bk):A≠ag));have aP:=zaa.mk ((by rw[hg];exact Nat.ne_of_gt (za3 (g:=A) (o:=.cells #[.string I,.int .i64 J] 42 (0,0)) bk):ag≠A));clear M;clear E;clear HB;have M:=Z;have E:=aa;have HB:=ab;have bj:=aL;have cF:=aM;have cG:=aN;have au:=aO;have av:=aP;clear Z aa ab aL aM aN aO aP;clear hb hbox hg;have eH:=av.out;have eI:=au.out;obtain⟨dt,du,dv,dw⟩:=cz2 (W:=ds) bj;obtain⟨dx,dy,dA,dB⟩:=cz2 (W:=ds) E))
                      refine bodyPost_ret (zaM rfl _ _ A 42 #[.string bp,.int .i64 bq] (0,0) _ rfl bk Tryz.underlying42 rfl (by kernel_rfl)) rfl ?_
                      exact⟨by first|rfl|(simp[zan,zao]<;>rfl)|(simp only[←aj,←ar];first|rfl|(simp[zan,zao]<;>rfl))|(simp[*,zan,zao]<;>rfl)|(simp[isE];done),bz⟩
                     replace H:=hN H b2
                     obtain⟨cA,cB⟩:=eF b2
                     replace H:=bs H
                     obtain⟨⟨br,bu,b7⟩,dC,H⟩:=H
                     dsimp only at H
                     by_cases b8:b7=0
                     ·replace H:=hE H b8
                      obtain⟨cH,cI⟩:=eT b8
                      clear b8
                      simp only[Option.some.injEq,Prod.mk.injEq] at H
                      obtain⟨rfl,rfl,rfl⟩:=H
                      have p49:0≤((ac):Int):=of_decide_eq_true (by first|(with_reducible assumption)|assumption)
                      have aK:(ac)<(a0.size:Int):=of_decide_eq_true (by first|(with_reducible assumption)|assumption)
                      have b5:=zch a0 (ac)
                      replace p49:=eq_true p49
                      replace aK:=eq_true aK
                      go_wp2_with (first|((with_reducible refine zac (f:=50) rfl ?_);refine zal (some 119) rfl rfl Tryz.func50 (by kernel_rfl) rfl #[.agg #[.string U,.int .i64 (wrap64 (X+ad))]] rfl lz ?_;(with_reducible refine(zaA.calls k6 U (wrap64 (X+ad)) br bu b7 _ dC.out).mono ?_);rintro e eX ⟨rfl,hb⟩;refine⟨_,rfl,?_⟩;have Z:=zaa.mk (Kd.V_below (by(with_reducible repeat(first|apply Kd.V_alloc|apply Kd.V_drewN|apply Kd.V_drew));exact M.out) hb);have aa:=zaa.mk (zag (g:=A) (o:=.cells #[.string I,.int .i64 J] 42 (0,0)) bk hb);have ab:=zaa.mk (zam bz hb);clear M;clear E;clear HB;have M:=Z;have E:=aa;have HB:=ab;clear Z aa ab;(try clear hb);(try clear b6);(try clear hk);(try clear hi))|((with_reducible refine zak (N:=12) rfl ?_);refine zaj rfl (N:=12) rfl (cs:=#[.string (⟨#[]⟩:ByteArray),.int .i64 0]) (t:=42) gz ?_;intro ah hg dD hbox hb;have Z:=zaa.mk (Kd.V_below (Kd.V_elderB (by(with_reducible repeat(first|apply Kd.V_alloc|apply Kd.V_drewN|apply Kd.V_drew));exact M.out) ah (Nat.le_of_eq hg.symm)) hb);have aa:=zaa.mk (zag (g:=A) (o:=.cells #[.string I,.int .i64 J] 42 (0,0)) bk hb);have ab:=zaa.mk (zam bz hb);have aL:=zaa.mk (hbox);have aM:=zaa.mk ((by rw[hg];exact(zaI bz):w.heap.size≤ah));have aN:=zaa.mk ((by rw[hg];exact(zaI bz):w.heap.size≤ah));have aO:=zaa.mk ((by rw[hg];exact Nat.ne_of_lt (za3 (g:=A) (o:=.cells #[.string I,.int .i64 J] 42 (0,0)) bk):A≠ah));have aP:=zaa.mk ((by rw[hg];exact Nat.ne_of_gt (za3 (g:=A) (o:=.cells #[.string I,.int .i64 J] 42 (0,0)) bk):ah≠A));clear M;clear E;clear HB;have M:=Z;have E:=aa;have HB:=ab;have bl:=aL;have cJ:=aM;have cK:=aN;have aw:=aO;have ax:=aP;clear Z aa ab aL aM aN aO aP;clear hb hbox hg;have eJ:=ax.out;have eK:=aw.out;obtain⟨dE,dF,dG,dH⟩:=cz2 (W:=dD) bl;obtain⟨dI,dJ,dK,dL⟩:=cz2 (W:=dD) E))
                      refine bodyPost_ret (zaM rfl _ _ A 42 #[.string br,.int .i64 bu] (0,0) _ rfl bk Tryz.underlying42 rfl (by kernel_rfl)) rfl ?_
                      exact⟨by first|rfl|(simp[zan,zao]<;>rfl)|(simp only[←aj,←ar];first|rfl|(simp[zan,zao]<;>rfl))|(simp[*,zan,zao]<;>rfl)|(simp[isE];done),bz⟩
                     replace H:=hN H b8
                     obtain⟨cH,cI⟩:=eF b8
                     simp only[Option.some.injEq,Prod.mk.injEq] at H
                     obtain⟨rfl,rfl,rfl⟩:=H
                     have p49:0≤((ac):Int):=of_decide_eq_true (by first|(with_reducible assumption)|assumption)
                     have aK:(ac)<(a0.size:Int):=of_decide_eq_true (by first|(with_reducible assumption)|assumption)
                     have b5:=zch a0 (ac)
                     replace p49:=eq_true p49
                     replace aK:=eq_true aK
                     go_wp2_with (first|((with_reducible refine zac (f:=50) rfl ?_);refine zal (some 119) rfl rfl Tryz.func50 (by kernel_rfl) rfl #[.agg #[.string U,.int .i64 (wrap64 (X+ad))]] rfl lz ?_;(with_reducible refine(zaA.calls k6 U (wrap64 (X+ad)) br bu b7 _ dC.out).mono ?_);rintro e eY ⟨rfl,hb⟩;refine⟨_,rfl,?_⟩;have Z:=zaa.mk (Kd.V_below (by(with_reducible repeat(first|apply Kd.V_alloc|apply Kd.V_drewN|apply Kd.V_drew));exact M.out) hb);have aa:=zaa.mk (zag (g:=A) (o:=.cells #[.string I,.int .i64 J] 42 (0,0)) bk hb);have ab:=zaa.mk (zam bz hb);clear M;clear E;clear HB;have M:=Z;have E:=aa;have HB:=ab;clear Z aa ab;(try clear hb);(try clear b6);(try clear hk);(try clear hi))|((with_reducible refine zak (N:=12) rfl ?_);refine zaj rfl (N:=12) rfl (cs:=#[.string (⟨#[]⟩:ByteArray),.int .i64 0]) (t:=42) gz ?_;intro ah hg dM hbox hb;have Z:=zaa.mk (Kd.V_below (Kd.V_elderB (by(with_reducible repeat(first|apply Kd.V_alloc|apply Kd.V_drewN|apply Kd.V_drew));exact M.out) ah (Nat.le_of_eq hg.symm)) hb);have aa:=zaa.mk (zag (g:=A) (o:=.cells #[.string I,.int .i64 J] 42 (0,0)) bk hb);have ab:=zaa.mk (zam bz hb);have aL:=zaa.mk (hbox);have aM:=zaa.mk ((by rw[hg];exact(zaI bz):w.heap.size≤ah));have aN:=zaa.mk ((by rw[hg];exact(zaI bz):w.heap.size≤ah));have aO:=zaa.mk ((by rw[hg];exact Nat.ne_of_lt (za3 (g:=A) (o:=.cells #[.string I,.int .i64 J] 42 (0,0)) bk):A≠ah));have aP:=zaa.mk ((by rw[hg];exact Nat.ne_of_gt (za3 (g:=A) (o:=.cells #[.string I,.int .i64 J] 42 (0,0)) bk):ah≠A));clear M;clear E;clear HB;have M:=Z;have E:=aa;have HB:=ab;have bl:=aL;have cJ:=aM;have cK:=aN;have aw:=aO;have ax:=aP;clear Z aa ab aL aM aN aO aP;clear hb hbox hg;have eL:=ax.out;have eM:=aw.out;obtain⟨dN,dO,dP,dQ⟩:=cz2 (W:=dM) bl;obtain⟨dR,dS,dT,dU⟩:=cz2 (W:=dM) E))
                     refine bodyPost_ret (zaM rfl _ _ A 42 #[.string br,.int .i64 bu] (0,0) _ rfl bk Tryz.underlying42 rfl (by kernel_rfl)) rfl ?_
                     exact⟨by first|rfl|(simp[zan,zao]<;>rfl)|(simp only[←aj,←ar];first|rfl|(simp[zan,zao]<;>rfl))|(simp[*,zan,zao]<;>rfl)|(simp[isE];done),bz⟩
                    replace H:=hN H cf
                    exact absurd H (by simp)
                   replace H:=hN H ce
                   exact absurd H (by simp)
                replace H:=hN H bh
                exact absurd H (by simp)
               replace H:=hN H bG
               exact absurd H (by simp)
              replace H:=hN H bE
              exact absurd H (by simp)
           replace bA:=Bool.eq_false_iff.mpr bA
           subst bA
           replace H:=hF H
           simp only[Option.some.injEq,Prod.mk.injEq] at H
           obtain⟨rfl,rfl,rfl⟩:=H
           obtain⟨dV,dW,dY,dZ⟩:=cz2 (W:=wc) E
           go_wp2
           refine bodyPost_ret (zaM rfl _ _ A 42 #[.string (⟨#[]⟩:ByteArray),.int .i64 0] (0,0) _ rfl bk Tryz.underlying42 rfl (by kernel_rfl)) rfl ?_
           exact⟨by first|rfl|(simp[zan,zao]<;>rfl)|(simp[*,zan,zao]<;>rfl)|(simp[isE];done),bz⟩
    replace H:=hN H c4
    exact absurd H (by simp)
   replace H:=hN H c3
   have aR:=decide_eq_false c3
   clear c3
   replace H:=bs H
   obtain⟨⟨bv,bw,ca⟩,d0,H⟩:=H
   dsimp only at H
   by_cases cb:ca=0
   ·replace H:=hE H cb
    obtain⟨cL,cM⟩:=eT cb
    clear cb
    simp only[Option.some.injEq,Prod.mk.injEq] at H
    obtain⟨rfl,rfl,rfl⟩:=H
    go_wp2_with (first|((with_reducible refine zac (f:=50) rfl ?_);refine zal (some 133) rfl rfl Tryz.func50 (by kernel_rfl) rfl #[.agg #[.string U,.int .i64 X]] rfl lz ?_;(with_reducible refine(zaA.calls k1 U X bv bw ca _ d0.out).mono ?_);rintro e eZ ⟨rfl,hb⟩;refine⟨_,rfl,?_⟩;replace E:=kN (g:=A) (cs:=#[.string B,.int .i64 D]) hb bk;replace HB:=bN bz hb;(try clear hb);(try clear b6);(try clear hk);(try clear hi))|((with_reducible refine zak (N:=14) rfl ?_);refine zaj rfl (N:=14) rfl (cs:=#[.string (⟨#[]⟩:ByteArray),.int .i64 0]) (t:=42) gz ?_;intro cN hg d5 hbox hb;have cO:=gN bz hg;have cP:=gN bz hg;have ay:=lN (g:=A) (cs:=#[.string B,.int .i64 D]) hg bk;have az:=rN (g:=A) (cs:=#[.string B,.int .i64 D]) hg bk;replace E:=kN (g:=A) (cs:=#[.string B,.int .i64 D]) hb bk;have bm:=zaa.mk hbox;replace HB:=bN bz hb;clear hb hbox hg;have eN:=az.out;have eO:=ay.out;obtain⟨d6,d7,d8,d9⟩:=cz2 (W:=d5) bm;obtain⟨ea,eb,ec,ed⟩:=cz2 (W:=d5) E))
    refine bodyPost_ret (zaM rfl _ _ A 42 #[.string bv,.int .i64 bw] (0,0) _ rfl bk Tryz.underlying42 rfl (by kernel_rfl)) rfl ?_
    exact⟨by first|rfl|(simp[zan,zao]<;>rfl)|(simp[*,zan,zao]<;>rfl)|(simp[isE];done),bz⟩
   replace H:=hN H cb
   obtain⟨cL,cM⟩:=eF cb
   simp only[Option.some.injEq,Prod.mk.injEq] at H
   obtain⟨rfl,rfl,rfl⟩:=H
   go_wp2_with (first|((with_reducible refine zac (f:=50) rfl ?_);refine zal (some 133) rfl rfl Tryz.func50 (by kernel_rfl) rfl #[.agg #[.string U,.int .i64 X]] rfl lz ?_;(with_reducible refine(zaA.calls k1 U X bv bw ca _ d0.out).mono ?_);rintro e e0 ⟨rfl,hb⟩;refine⟨_,rfl,?_⟩;replace E:=kN (g:=A) (cs:=#[.string B,.int .i64 D]) hb bk;replace HB:=bN bz hb;(try clear hb);(try clear b6);(try clear hk);(try clear hi))|((with_reducible refine zak (N:=14) rfl ?_);refine zaj rfl (N:=14) rfl (cs:=#[.string (⟨#[]⟩:ByteArray),.int .i64 0]) (t:=42) gz ?_;intro cN hg ee hbox hb;have cO:=gN bz hg;have cP:=gN bz hg;have ay:=lN (g:=A) (cs:=#[.string B,.int .i64 D]) hg bk;have az:=rN (g:=A) (cs:=#[.string B,.int .i64 D]) hg bk;replace E:=kN (g:=A) (cs:=#[.string B,.int .i64 D]) hb bk;have bm:=zaa.mk hbox;replace HB:=bN bz hb;clear hb hbox hg;have eP:=az.out;have eQ:=ay.out;obtain⟨ef,eg,eh,ei⟩:=cz2 (W:=ee) bm;obtain⟨ej,ek,em,en⟩:=cz2 (W:=ee) E))
   refine bodyPost_ret (zaM rfl _ _ A 42 #[.string bv,.int .i64 bw] (0,0) _ rfl bk Tryz.underlying42 rfl (by kernel_rfl)) rfl ?_
   exact⟨by first|rfl|(simp[zan,zao]<;>rfl)|(simp[*,zan,zao]<;>rfl)|(simp[isE];done),bz⟩
end Go.Proofs.YtecpgdfnamkfdaaGreatDoor.Fn
end
section
namespace Go.Proofs.YtecpgdfnamkfdaaGreatDoor.Fn
open Go.RowKit Go.Proofs.YtecpgdfnamkfdaaGreatDoorW.PrintWords Go.Proofs.YtecpgdfnamkfdaaGreatDoorW.PrintLast Go.Proofs.YtecpgdfnamkfdaaGreatDoorW.PrintMore
set_option linter.unusedVariables false
set_option linter.unusedSimpArgs false
set_option maxHeartbeats 8000000
set_option maxRecDepth 100000
section
attribute [local go_sem] fnW_0 fnW_1 fnW_2 fnW_3 fnW_4 fnW_5 fnW_guard fnW_eql zaK zaL zaQ zaR
def za2.f(a0:Int)(a1:Int):Option (Int):=if 0≤(wrap64 (a1-1)) then(if a1=32 then(if(Go.bits .and .u64 a0 (IntKind.u64.wrap ((shl .u64 1 (wrap64 (a1-1)))-1)))≥2139095040 then(some (IntKind.u64.wrap ((Go.bits .and .u64 a0 (IntKind.u64.wrap ((shl .u64 1 (wrap64 (a1-1)))-1)))-2139095040))) else(some (Go.bits .and .u64 a0 (IntKind.u64.wrap ((shl .u64 1 (wrap64 (a1-1)))-1))))) else(if(Go.bits .and .u64 a0 (IntKind.u64.wrap ((shl .u64 1 (wrap64 (a1-1)))-1)))≥9218868437227405312 then(some (IntKind.u64.wrap ((Go.bits .and .u64 a0 (IntKind.u64.wrap ((shl .u64 1 (wrap64 (a1-1)))-1)))-9218868437227405312))) else(some (Go.bits .and .u64 a0 (IntKind.u64.wrap ((shl .u64 1 (wrap64 (a1-1)))-1)))))) else(none)
theorem za2.calls(a0:Int)(a1:Int)(r:Int)(w:World)(h:za2.f a0 a1=some r):
  Calls Tryz.prog 28 #[.int .u64 a0,.int .i64 a1] w fun e w'=>e= .returned (.int .u64 r)∧zaU w w':=by
 have H:(if 0≤(wrap64 (a1-1)) then(if a1=32 then(if(Go.bits .and .u64 a0 (IntKind.u64.wrap ((shl .u64 1 (wrap64 (a1-1)))-1)))≥2139095040 then(some (IntKind.u64.wrap ((Go.bits .and .u64 a0 (IntKind.u64.wrap ((shl .u64 1 (wrap64 (a1-1)))-1)))-2139095040))) else(some (Go.bits .and .u64 a0 (IntKind.u64.wrap ((shl .u64 1 (wrap64 (a1-1)))-1))))) else(if(Go.bits .and .u64 a0 (IntKind.u64.wrap ((shl .u64 1 (wrap64 (a1-1)))-1)))≥9218868437227405312 then(some (IntKind.u64.wrap ((Go.bits .and .u64 a0 (IntKind.u64.wrap ((shl .u64 1 (wrap64 (a1-1)))-1)))-9218868437227405312))) else(some (Go.bits .and .u64 a0 (IntKind.u64.wrap ((shl .u64 1 (wrap64 (a1-1)))-1)))))) else(none))=some r:=h
 clear h
 obtain⟨D,B⟩: ∃j_:Int,(wrap64 (a1-1))=j_:=⟨_,rfl⟩
 (first|rw[B] at H|simp only[B] at H)
 have X:(IntKind.i64.wrap (a1-1))=D:=(zad _).trans B
 by_cases c4:0≤(D)
 ·replace H:=hE H c4
  have aa:=eq_true c4
  have ab:decide (0≤(D))=true:=decide_eq_true c4
  clear c4
  obtain⟨E,A⟩: ∃j_:Int,(shl .u64 1 (D))=j_:=⟨_,rfl⟩
  (first|rw[A] at H|simp only[A] at H)
  have I:(IntKind.u64.wrap (1*2^min (D).toNat 64))=E:=A
  have J:(D)≤64→(IntKind.u64.wrap (1*2^(D).toNat))=E:=zbM A
  have Y:(IntKind.u64.wrap (2^min (D).toNat 64))=E:=by have h_:=I;rw[Int.one_mul] at h_;exact h_
  have Z:(D)≤64→(IntKind.u64.wrap (2^(D).toNat))=E:=fun hle_=>by have h_:=J hle_;rw[Int.one_mul] at h_;exact h_
  by_cases c6:a1=32
  ·replace H:=hE H c6
   obtain⟨K,M⟩:=eT c6
   clear c6
   by_cases c7:(Go.bits .and .u64 a0 (IntKind.u64.wrap ((E)-1)))≥2139095040
   ·replace H:=hE H c7
    have O:decide (2139095040≤(Go.bits .and .u64 a0 (IntKind.u64.wrap ((E)-1))))=true:=decide_eq_true c7
    clear c7
    obtain rfl:=Option.some.inj H
    go_enter Tryz.func28,Tryz.ntmps28
    go_wp2
    go_ret
    exact⟨by first|rfl|(simp;done)|(simp only[←B,←A]<;>(first|rfl|simp))|(simp[*];done),by repeat(first|exact zaU.refl _|apply zaU.step)⟩
   replace H:=hN H c7
   have O:decide (2139095040≤(Go.bits .and .u64 a0 (IntKind.u64.wrap ((E)-1))))=false:=decide_eq_false c7
   clear c7
   obtain rfl:=Option.some.inj H
   go_enter Tryz.func28,Tryz.ntmps28
   go_wp2
   go_ret
   exact⟨by first|rfl|(simp;done)|(simp only[←B,←A]<;>(first|rfl|simp))|(simp[*];done),by repeat(first|exact zaU.refl _|apply zaU.step)⟩
  replace H:=hN H c6
  obtain⟨K,M⟩:=eF c6
  by_cases c8:(Go.bits .and .u64 a0 (IntKind.u64.wrap ((E)-1)))≥9218868437227405312
  ·replace H:=hE H c8
   have U:decide (9218868437227405312≤(Go.bits .and .u64 a0 (IntKind.u64.wrap ((E)-1))))=true:=decide_eq_true c8
   clear c8
   obtain rfl:=Option.some.inj H
   go_enter Tryz.func28,Tryz.ntmps28
   go_wp2
   go_ret
   exact⟨by first|rfl|(simp;done)|(simp only[←B,←A]<;>(first|rfl|simp))|(simp[*];done),by repeat(first|exact zaU.refl _|apply zaU.step)⟩
  replace H:=hN H c8
  have U:decide (9218868437227405312≤(Go.bits .and .u64 a0 (IntKind.u64.wrap ((E)-1))))=false:=decide_eq_false c8
  clear c8
  obtain rfl:=Option.some.inj H
  go_enter Tryz.func28,Tryz.ntmps28
  go_wp2
  go_ret
  exact⟨by first|rfl|(simp;done)|(simp only[←B,←A]<;>(first|rfl|simp))|(simp[*];done),by repeat(first|exact zaU.refl _|apply zaU.step)⟩
 replace H:=hN H c4
 exact absurd H (by simp)
def za6.f(A:Bool)(B:Bool)(D:Bool)(E:Bool)(I:Bool)(J:Int)(K:Int)(M:Int)(a1:Int)(a2:ByteArray):Option (Bool×Bool×Bool×Bool×Bool×Int×Int×Int):=if(IntKind.u64.wrap ((a2.size:Int)))=0 then(none) else(if 0≤(wrap64 (Int.tmod a1 (IntKind.u64.wrap ((a2.size:Int))))) then(if(wrap64 (Int.tmod a1 (IntKind.u64.wrap ((a2.size:Int)))))<(a2.size:Int) then(some (A,B,D,E,I,J,K,wrap32 (bt a2 (wrap64 (Int.tmod a1 (IntKind.u64.wrap ((a2.size:Int)))))))) else(none)) else(none))
theorem za6.calls(A:Bool)(B:Bool)(D:Bool)(E:Bool)(I:Bool)(J:Int)(K:Int)(M:Int)(a1:Int)(a2:ByteArray)(r1:Bool)(r2:Bool)(r3:Bool)(r4:Bool)(r5:Bool)(r6:Int)(r7:Int)(r8:Int)(w:World)(h:za6.f A B D E I J K M a1 a2=some (r1,r2,r3,r4,r5,r6,r7,r8)):
  Calls Tryz.prog 22 #[.agg #[.bool A,.bool B,.bool D,.bool E,.bool I,.int .i64 J,.int .i64 K,.int .i32 M],.int .u64 a1,.string a2] w fun e w'=>e= .returned (.agg #[.bool r1,.bool r2,.bool r3,.bool r4,.bool r5,.int .i64 r6,.int .i64 r7,.int .i32 r8])∧Below w.heap.size w w':=by
 have aS:=Tryz.underlying26
 have HB:=zaa.mk (Below.refl w.heap.size w)
 have H:(if(IntKind.u64.wrap ((a2.size:Int)))=0 then(none) else(if 0≤(wrap64 (Int.tmod a1 (IntKind.u64.wrap ((a2.size:Int))))) then(if(wrap64 (Int.tmod a1 (IntKind.u64.wrap ((a2.size:Int)))))<(a2.size:Int) then(some (A,B,D,E,I,J,K,wrap32 (bt a2 (wrap64 (Int.tmod a1 (IntKind.u64.wrap ((a2.size:Int)))))))) else(none)) else(none)))=some (r1,r2,r3,r4,r5,r6,r7,r8):=h
 clear h
 by_cases c4:(IntKind.u64.wrap ((a2.size:Int)))=0
 ·replace H:=hE H c4
  exact absurd H (by simp)
 replace H:=hN H c4
 obtain⟨aT,aU⟩:=eF c4
 obtain⟨O,Z⟩: ∃j_:Int,(wrap64 (Int.tmod a1 (IntKind.u64.wrap ((a2.size:Int)))))=j_:=⟨_,rfl⟩
 (first|rw[Z] at H|simp only[Z] at H)
 have aN:(IntKind.i64.wrap (Int.tmod a1 (IntKind.u64.wrap ((a2.size:Int)))))=O:=(zad _).trans Z
 by_cases c6:0≤(O)
 ·replace H:=hE H c6
  have aV:=decide_eq_true c6
  clear c6
  by_cases c7:(O)<(a2.size:Int)
  ·replace H:=hE H c7
   have aW:=decide_eq_true c7
   clear c7
   simp only[Option.some.injEq,Prod.mk.injEq] at H
   obtain⟨rfl,rfl,rfl,rfl,rfl,rfl,rfl,rfl⟩:=H
   go_enter Tryz.func22,Tryz.ntmps22
   go_wp2_with (first|((with_reducible refine zak (N:=3) rfl ?_);refine zaj rfl (N:=3) rfl (cs:=#[.bool A,.bool B,.bool D,.bool E,.bool I,.int .i64 J,.int .i64 K,.int .i32 M]) (t:=26) gz ?_;intro U hg w9 hbox hb;have aO:=gN bz hg;have aa:=zaa.mk hbox;replace HB:=bN bz hb;clear hb hbox hg)|((with_reducible refine zak (N:=6) rfl ?_);refine zaj rfl (N:=6) rfl (cs:=#[.bool false,.bool false,.bool false,.bool false,.bool false,.int .i64 0,.int .i64 0,.int .i32 0]) (t:=26) gz ?_;intro ab hg ad hbox hb;have aP:=gN bz hg;have X:=lN (g:=U) (cs:=#[.bool A,.bool B,.bool D,.bool E,.bool I,.int .i64 J,.int .i64 K,.int .i32 M]) hg bk;have Y:=rN (g:=U) (cs:=#[.bool A,.bool B,.bool D,.bool E,.bool I,.int .i64 J,.int .i64 K,.int .i32 M]) hg bk;replace aa:=kN (g:=U) (cs:=#[.bool A,.bool B,.bool D,.bool E,.bool I,.int .i64 J,.int .i64 K,.int .i32 M]) hb bk;have ac:=zaa.mk hbox;replace HB:=bN bz hb;clear hb hbox hg;have p8:0≤((O):Int):=of_decide_eq_true (by first|(with_reducible assumption)|assumption);have q8:(O)<(a2.size:Int):=of_decide_eq_true (by first|(with_reducible assumption)|assumption);have aX:=zch a2 (O);replace p8:=eq_true p8;replace q8:=eq_true q8;have aQ:=X.out;have aR:=Y.out;obtain⟨ae,af,ag,ah,ai,aj,ak,al,am,an,ao,ap,ar,au,av,aw⟩:=cz8 (W:=ad) aa;obtain⟨ax,ay,az,aA,aB,aC,aD,aE,aF,aG,aH,aI,aJ,aK,aL,aM⟩:=cz8 (W:=ad) ac))
   refine bodyPost_ret (results_cell_row rfl _ _ ab 26 #[.bool A,.bool B,.bool D,.bool E,.bool I,.int .i64 J,.int .i64 K,.int .i32 (wrap32 (bt a2 (O)))] (0,0) _ rfl bk Tryz.underlying26 rfl (by kernel_rfl)) rfl ?_
   exact⟨by first|rfl|(simp[zan,zao]<;>rfl)|(simp only[←Z];first|rfl|(simp[zan,zao]<;>rfl))|(simp[*,zan,zao]<;>rfl),bz⟩
  replace H:=hN H c7
  exact absurd H (by simp)
 replace H:=hN H c6
 exact absurd H (by simp)
end
end Go.Proofs.YtecpgdfnamkfdaaGreatDoor.Fn
end
