/- The law FloatsBack: the walks through its functions and its plain law (part 5). Own texts and the kit's printed words for this seat, without what the law does not use: put together by merge.py (of this work). -/
import Derived.Test.YtecpgdfnamkfdaaGreatDoorMFloatsBack4
import Derived.Handy
section
namespace Go.Proofs.YtecpgdfnamkfdaaGreatDoor.Fn
open Go.RowKit Go.Proofs.YtecpgdfnamkfdaaGreatDoorW.PrintWords Go.Proofs.YtecpgdfnamkfdaaGreatDoorW.PrintLast Go.Proofs.YtecpgdfnamkfdaaGreatDoorW.PrintMore
set_option linter.unusedVariables false
set_option linter.unusedSimpArgs false
set_option maxHeartbeats 8000000
set_option maxRecDepth 100000
section
attribute [local go_sem] fnW_0 fnW_1 fnW_2 fnW_3 fnW_4 fnW_5 fnW_guard fnW_eql zaK zaL zaQ zaR
def zax.j0:Nat→Int→Int→Int→Int→Int→Int→Bool→Int→Option (ByteArray)
 |0,_,_,_,_,_,_,_,_=>none
 |k+1,x3,A,B,D,E,I,J,K=>(zbc.f k A B D E I J K).bind fun O=>((zbp.f k O.1 O.2 (wrap64 (x3+1))).bind fun M=>((za7.f M.1 (wrap64 (x3+1))).bind fun U=>((zbB.f M.1 M.2.1).bind fun X=>((zar.f k A B D E I J K U X).bind fun Y=>(some Y)))))
def zax.f(k:Nat)(B:Int)(D:Int)(E:Int)(I:Int)(A:Int)(J:Bool)(K:Int):Option (ByteArray):=if A<0 then(zax.j0 k 6 B D E I A J K) else(zax.j0 k A B D E I A J K)
def zax.T5:Bool×List (List Nat×List Nat):=(true,[([],[]),([],[]),([1],[1]),([],[]),([3],[3]),([2,4],[2,4]),([],[]),([6,5],[6]),([0,5,7,7],[0,5,7]),([8,8,0,1,2,3,4,5,6,7,8],[8])])
def zax.B5:List Nat:=[0,0,2,0,8,30,0,126,255,511]
theorem zax.tab5:rtab .any (opsOf Tryz.f66 5)=zax.T5:=by kernel_rfl
theorem zax.bits5:waitsOk zax.T5.2 zax.B5=true:=by kernel_rfl
theorem zax.calls(k:Nat)(I:Int)(J:Int)(M:Int)(O:Int)(B:Int)(U:Bool)(X:Int)(r:ByteArray)(w:World)(h:zax.f k I J M O B U X=some r):
  Calls Tryz.prog 66 #[.agg #[.int .u64 I,.int .i64 J,.int .u64 M,.int .i64 O,.int .i64 B,.bool U,.int .i32 X]] w fun e w'=>e= .returned (.string r)∧Below w.heap.size w w':=by
 have a9:=Tryz.underlying74
 have ba:=Tryz.underlying42
 have HB:=zaa.mk (Below.refl w.heap.size w)
 have H:(if B<0 then(zax.j0 k 6 I J M O B U X) else(zax.j0 k B I J M O B U X))=some r:=h
 clear h
 have aD:=zaa.mk H
 clear H
 go_enter Tryz.func66,Tryz.ntmps66
 go_upto_if 9 with(first|((with_reducible refine zak (N:=1) rfl ?_);refine zaj rfl (N:=1) rfl (cs:=#[.int .u64 I,.int .i64 J,.int .u64 M,.int .i64 O,.int .i64 B,.bool U,.int .i32 X]) (t:=74) gz ?_;intro D hg w3 hbox hb;have a3:=gN bz hg;have A:=zaa.mk hbox;replace HB:=bN bz hb;clear hb hbox hg;obtain⟨al,am,an,ao,ap,ar,au,av,aw,ax,ay,az,aA,aB⟩:=cz7 (W:=w3) A))
 (try simp only[Act.put,List.setIfInBounds_toArray,List.set_cons_zero,List.set_cons_succ])
 go_cut [3] (fun v3 wc=> ∃(kq:Nat) (ab:Int),v3= .int .i64 ab∧zaa (zax.j0 kq ab I J M O B U X=some r)∧zaa (kq≤k)∧zaa (wc.heap[D]? =some (.cells #[.int .u64 I,.int .i64 J,.int .u64 M,.int .i64 O,.int .i64 B,.bool U,.int .i32 X] 74 (0,0)))∧zaa (Below w.heap.size w wc))
 case first=>
  have H:=aD.out
  clear aD
  by_cases c5:B<0
  ·replace H:=hE H c5
   have af:=decide_eq_true c5
   clear c5
   try rw[af]
   have H':=zaa.mk H
   clear H
   go_wp2
   go_meet
   case rel=>exact⟨_,(6),rz,H',⟨by first|omega|exact Nat.le_refl _⟩,⟨bk⟩,⟨bz⟩⟩
  replace H:=hN H c5
  have af:=decide_eq_false c5
  clear c5
  try rw[af]
  have H':=zaa.mk H
  clear H
  go_wp2
  go_meet
  case rel=>exact⟨_,(B),rz,H',⟨by first|omega|exact Nat.le_refl _⟩,⟨bk⟩,⟨bz⟩⟩
 case rest=>
  clear aD
  try clear c5
  try clear af
  try clear al am an ao ap ar au av aw ax ay az aA aB
  obtain⟨kq,ab,rfl,HA,bb,A,HB⟩:=hcut
  cases kq with
  |zero=>exact absurd HA.out (by simp[zax.j0])
  |succ aE=>
   have H:=HA.out
   clear HA
   simp only[zax.j0] at H
   replace H:=bs H
   obtain⟨⟨ag,ah⟩,A6,H⟩:=H
   dsimp only at H
   replace H:=bs H
   obtain⟨⟨Z,aa,aI⟩,A7,H⟩:=H
   dsimp only at H
   replace H:=bs H
   obtain⟨ai,A8,H⟩:=H
   replace H:=bs H
   obtain⟨aj,A9,H⟩:=H
   replace H:=bs H
   obtain⟨aJ,a4,H⟩:=H
   obtain rfl:=Option.some.inj H
   obtain⟨aK,aL,aM,aN,aO,aP,aQ,aR,aS,aT,aU,aV,aW,aX⟩:=cz7 (W:=wc) A
   try go_wp2_with (first|((with_reducible refine zac (f:=103) rfl ?_);refine zal (some 12) rfl rfl Tryz.func103 (by kernel_rfl) rfl #[.agg #[.int .u64 I,.int .i64 J,.int .u64 M,.int .i64 O,.int .i64 B,.bool U,.int .i32 X]] rfl lz ?_;(with_reducible refine(zbc.calls aE I J M O B U X ag ah _ A6.out).mono ?_);rintro e bc ⟨rfl,hb⟩;refine⟨_,rfl,?_⟩;replace A:=kN (g:=D) (cs:=#[.int .u64 I,.int .i64 J,.int .u64 M,.int .i64 O,.int .i64 B,.bool U,.int .i32 X]) hb bk;replace HB:=bN bz hb;(try clear hb);(try clear aC);(try clear hk);(try clear hi))|((with_reducible refine zac (f:=32) rfl ?_);refine zal (some 15) rfl rfl Tryz.func32 (by kernel_rfl) rfl #[.agg #[.string ag,.int .i64 ah],.int .i64 (wrap64 (ab+1))] rfl lz ?_;(with_reducible refine(zbp.calls aE ag ah (wrap64 (ab+1)) Z aa aI _ A7.out).mono ?_);rintro e bd ⟨rfl,hb⟩;refine⟨_,rfl,?_⟩;replace A:=kN (g:=D) (cs:=#[.int .u64 I,.int .i64 J,.int .u64 M,.int .i64 O,.int .i64 B,.bool U,.int .i32 X]) hb bk;replace HB:=bN bz hb;(try clear hb);(try clear aC);(try clear hk);(try clear hi))|((with_reducible refine zak (N:=4) rfl ?_);refine zaj rfl (N:=4) rfl (cs:=#[.string (⟨#[]⟩:ByteArray),.int .i64 0]) (t:=42) gz ?_;intro Y hg ak hbox hb;have a5:=gN bz hg;have ad:=lN (g:=D) (cs:=#[.int .u64 I,.int .i64 J,.int .u64 M,.int .i64 O,.int .i64 B,.bool U,.int .i32 X]) hg bk;have ae:=rN (g:=D) (cs:=#[.int .u64 I,.int .i64 J,.int .u64 M,.int .i64 O,.int .i64 B,.bool U,.int .i32 X]) hg bk;replace A:=kN (g:=D) (cs:=#[.int .u64 I,.int .i64 J,.int .u64 M,.int .i64 O,.int .i64 B,.bool U,.int .i32 X]) hb bk;have E:=zaa.mk hbox;replace HB:=bN bz hb;clear hb hbox hg;have a6:=ae.out;have a7:=ad.out;obtain⟨aY,aZ,a1,a2⟩:=cz2 (W:=ak) E))
   have aF:zaa (((ak.setCell ⟨Y,0,none⟩ (.string Z)).setCell ⟨Y,1,none⟩ (.int .i64 aa)).heap[D]? =some (.cells #[.int .u64 I,.int .i64 J,.int .u64 M,.int .i64 O,.int .i64 B,.bool U,.int .i32 X] 74 (0,0))):=⟨bk⟩
   have aG:zaa (((ak.setCell ⟨Y,0,none⟩ (.string Z)).setCell ⟨Y,1,none⟩ (.int .i64 aa)).heap[Y]? =some (.cells #[.string Z,.int .i64 aa] 42 (0,0))):=⟨bk⟩
   have aH:zaa (Below w.heap.size w ((ak.setCell ⟨Y,0,none⟩ (.string Z)).setCell ⟨Y,1,none⟩ (.int .i64 aa))):=⟨bz⟩
   (try clear A)
   (try clear E)
   (try clear HB)
   generalize ((ak.setCell ⟨Y,0,none⟩ (.string Z)).setCell ⟨Y,1,none⟩ (.int .i64 aa))=a8 at aF aG aH ⊢
   have A:=aF
   have E:=aG
   have HB:=aH
   clear aF aG aH
   replace A:=zaa.mk (zaw A.out)
   replace E:=zaa.mk (zaw E.out)
   replace HB:=zaa.mk (zaT HB.out)
   refine zbo (n:=10) (S:=fun w'=>w'.cell? ⟨D,0,none⟩=some (.int .u64 I)∧w'.cell? ⟨D,1,none⟩=some (.int .i64 J)∧w'.cell? ⟨D,2,none⟩=some (.int .u64 M)∧w'.cell? ⟨D,3,none⟩=some (.int .i64 O)∧w'.cell? ⟨D,4,none⟩=some (.int .i64 B)∧w'.cell? ⟨D,5,none⟩=some (.bool U)∧w'.cell? ⟨D,6,none⟩=some (.int .i32 X)∧w'.cell? ⟨Y,0,none⟩=some (.string Z)∧w'.cell? ⟨Y,1,none⟩=some (.int .i64 aa)) (ds:=[]) #[false,false,false,false,false,false,false,false,false,false] (by kernel_rfl) rfl rfl ⟨(zab A.out 0).trans rfl,(zab A.out 1).trans rfl,(zab A.out 2).trans rfl,(zab A.out 3).trans rfl,(zab A.out 4).trans rfl,(zab A.out 5).trans rfl,(zab A.out 6).trans rfl,(zab E.out 0).trans rfl,(zab E.out 1).trans rfl⟩ (fun hHeld=>?_);refine zbf zax.tab5 zax.bits5 (fun ac HW_=>?_)
   generalize a8.drew=be at A E HB hHeld ⊢
   refine zau (i:=1) (N:=some 19) (v:=?_) (a':=?_) #[false,true,false,false,false,false,false,false,false,false] rfl rfl (zas ac.out (by kernel_rfl)) (fun _ _ _ h=>h) (Or.inl ⟨by rfl,?_⟩) ?_ ?_
   rotate_left
   ·intro w'
    go_simp
    with_reducible rfl
   rotate_left
   ·simp only[Act.put,List.setIfInBounds_toArray,List.set_cons_zero,List.set_cons_succ,zad,zaf]
    rfl
   refine zau (i:=3) (N:=some 21) (v:=?_) (a':=?_) #[false,true,false,true,false,false,false,false,false,false] rfl rfl (zas ac.out (by kernel_rfl)) (fun _ _ _ h=>h) (Or.inl ⟨by rfl,?_⟩) ?_ ?_
   rotate_left
   ·intro w'
    go_simp
    with_reducible rfl
   rotate_left
   ·simp only[Act.put,List.setIfInBounds_toArray,List.set_cons_zero,List.set_cons_succ,zad,zaf]
    rfl
   refine zau (i:=4) (N:=some 22) (v:=?_) (a':=?_) #[false,true,false,true,true,false,false,false,false,false] rfl rfl (zas ac.out (by kernel_rfl)) (fun _ _ _ h=>h) (Or.inl ⟨by rfl,?_⟩) ?_ ?_
   rotate_left
   ·intro w'
    go_simp
    with_reducible rfl
   rotate_left
   ·simp only[Act.put,List.setIfInBounds_toArray,List.set_cons_zero,List.set_cons_succ,zad,zaf]
    rfl
   refine zaW (i:=0) (N:=some 18) (v:=?_) (a':=?_) #[true,true,false,true,true,false,false,false,false,false] rfl rfl (zaH ac.out HW_.out (by kernel_rfl)) (fun _ _ _ h=>h) (Or.inl ⟨by rfl,?_⟩) hHeld ?_ ?_
   rotate_left
   ·rintro w' ⟨s0,s1,s2,s3,s4,s5,s6,s7,s8⟩
    go_simp
    with_reducible rfl
   rotate_left
   ·simp only[Act.put,List.setIfInBounds_toArray,List.set_cons_zero,List.set_cons_succ,zad,zaf]
    rfl
   refine zaW (i:=2) (N:=some 20) (v:=?_) (a':=?_) #[true,true,true,true,true,false,false,false,false,false] rfl rfl (zaH ac.out HW_.out (by kernel_rfl)) (fun _ _ _ h=>h) (Or.inl ⟨by rfl,?_⟩) hHeld ?_ ?_
   rotate_left
   ·rintro w' ⟨s0,s1,s2,s3,s4,s5,s6,s7,s8⟩
    go_simp
    with_reducible rfl
   rotate_left
   ·simp only[Act.put,List.setIfInBounds_toArray,List.set_cons_zero,List.set_cons_succ,zad,zaf]
    rfl
   refine zaW (i:=6) (N:=some 24) (v:=?_) (a':=?_) #[true,true,true,true,true,false,true,false,false,false] rfl rfl (zaH ac.out HW_.out (by kernel_rfl)) (fun _ _ _ h=>h) (Or.inl ⟨by rfl,?_⟩) hHeld ?_ ?_
   rotate_left
   ·rintro w' ⟨s0,s1,s2,s3,s4,s5,s6,s7,s8⟩
    go_simp
    with_reducible rfl
   rotate_left
   ·simp only[Act.put,List.setIfInBounds_toArray,List.set_cons_zero,List.set_cons_succ,zad,zaf]
    rfl
   refine one_ (i:=5) (N:=some 23) #[true,true,true,true,true,true,true,false,false,false] rfl rfl (zaZ ac.out (by kernel_rfl)) (by decide) (fun K hK=>?_)
   refine za5 Tryz.func105 (by kernel_rfl) rfl #[.string Z,.int .i64 (wrap64 (ab+1))] (by rfl) rfl rfl lz ?_
   with_reducible refine(za7.calls Z (wrap64 (ab+1)) ai _ A8.out).mono ?_
   rintro e bf ⟨rfl,hb⟩
   refine⟨_,rfl,?_⟩
   replace A:=zaa.mk (zag (g:=D) (o:=.cells #[.int .u64 I,.int .i64 J,.int .u64 M,.int .i64 O,.int .i64 B,.bool U,.int .i32 X] 74 (0,0)) bk hb)
   replace E:=zaa.mk (zag (g:=Y) (o:=.cells #[.string Z,.int .i64 aa] 42 (0,0)) bk hb)
   replace HB:=zaa.mk (zam bz hb)
   (try clear hb)
   (try clear aC)
   (try clear hk)
   (try clear hi)
   refine hK.out _ _ ⟨(zab A.out 0).trans rfl,(zab A.out 1).trans rfl,(zab A.out 2).trans rfl,(zab A.out 3).trans rfl,(zab A.out 4).trans rfl,(zab A.out 5).trans rfl,(zab A.out 6).trans rfl,(zab E.out 0).trans rfl,(zab E.out 1).trans rfl⟩ (fun hHeld=>?_)
   clear hK K
   refine zaY (a':=?_) ?_ ?_
   rotate_left
   ·show Act.put _ (some 23) _=_
    simp only[Act.put,List.setIfInBounds_toArray,List.set_cons_zero,List.set_cons_succ,zad,zaf]
    rfl
   refine one_ (i:=7) (N:=some 25) #[true,true,true,true,true,true,true,true,false,false] rfl rfl (zaZ ac.out (by kernel_rfl)) (by decide) (fun K hK=>?_)
   refine za5 Tryz.func106 (by kernel_rfl) rfl #[.agg #[.string Z,.int .i64 aa]] (by rfl) rfl rfl lz ?_
   with_reducible refine(zbB.calls Z aa aj _ A9.out).mono ?_
   rintro e bg ⟨rfl,hb⟩
   refine⟨_,rfl,?_⟩
   replace A:=zaa.mk (zag (g:=D) (o:=.cells #[.int .u64 I,.int .i64 J,.int .u64 M,.int .i64 O,.int .i64 B,.bool U,.int .i32 X] 74 (0,0)) bk hb)
   replace E:=zaa.mk (zag (g:=Y) (o:=.cells #[.string Z,.int .i64 aa] 42 (0,0)) bk hb)
   replace HB:=zaa.mk (zam bz hb)
   (try clear hb)
   (try clear aC)
   (try clear hk)
   (try clear hi)
   refine hK.out _ _ ⟨(zab A.out 0).trans rfl,(zab A.out 1).trans rfl,(zab A.out 2).trans rfl,(zab A.out 3).trans rfl,(zab A.out 4).trans rfl,(zab A.out 5).trans rfl,(zab A.out 6).trans rfl,(zab E.out 0).trans rfl,(zab E.out 1).trans rfl⟩ (fun hHeld=>?_)
   clear hK K
   refine zaY (a':=?_) ?_ ?_
   rotate_left
   ·show Act.put _ (some 25) _=_
    simp only[Act.put,List.setIfInBounds_toArray,List.set_cons_zero,List.set_cons_succ,zad,zaf]
    rfl
   refine one_ (i:=8) (N:=some 26) #[true,true,true,true,true,true,true,true,true,false] rfl rfl (zaZ ac.out (by kernel_rfl)) (by decide) (fun K hK=>?_)
   refine za5 Tryz.func104 (by kernel_rfl) rfl #[.agg #[.int .u64 I,.int .i64 J,.int .u64 M,.int .i64 O,.int .i64 B,.bool U,.int .i32 X],.string ai,.int .i64 aj] (by rfl) rfl rfl lz ?_
   with_reducible refine(zar.calls aE I J M O B U X ai aj aJ _ a4.out).mono ?_
   rintro e bh ⟨rfl,hb⟩
   refine⟨_,rfl,?_⟩
   replace A:=zaa.mk (zag (g:=D) (o:=.cells #[.int .u64 I,.int .i64 J,.int .u64 M,.int .i64 O,.int .i64 B,.bool U,.int .i32 X] 74 (0,0)) bk hb)
   replace E:=zaa.mk (zag (g:=Y) (o:=.cells #[.string Z,.int .i64 aa] 42 (0,0)) bk hb)
   replace HB:=zaa.mk (zam bz hb)
   (try clear hb)
   (try clear aC)
   (try clear hk)
   (try clear hi)
   refine hK.out _ _ ⟨(zab A.out 0).trans rfl,(zab A.out 1).trans rfl,(zab A.out 2).trans rfl,(zab A.out 3).trans rfl,(zab A.out 4).trans rfl,(zab A.out 5).trans rfl,(zab A.out 6).trans rfl,(zab E.out 0).trans rfl,(zab E.out 1).trans rfl⟩ (fun hHeld=>?_)
   clear hK K
   refine zaY (a':=?_) ?_ ?_
   rotate_left
   ·show Act.put _ (some 26) _=_
    simp only[Act.put,List.setIfInBounds_toArray,List.set_cons_zero,List.set_cons_succ,zad,zaf]
    rfl
   refine zau (i:=9) (N:=some 2) (v:=?_) (a':=?_) #[true,true,true,true,true,true,true,true,true,true] rfl rfl (zas ac.out (by kernel_rfl)) (fun _ _ _ h=>h) (Or.inl ⟨by rfl,?_⟩) ?_ ?_
   rotate_left
   ·intro w'
    go_simp
    with_reducible rfl
   rotate_left
   ·simp only[Act.put,List.setIfInBounds_toArray,List.set_cons_zero,List.set_cons_succ,zad,zaf]
    rfl
   refine zbx (zbs ac.out (by kernel_rfl)) ?_
   try go_wp2
   go_ret
   exact⟨ez,bz⟩
def zat.j0:Nat→Int→Int→Int→Int→Int→Int→Bool→Int→Option (ByteArray)
 |0,_,_,_,_,_,_,_,_=>none
 |k+1,x3,B,D,E,I,J,K,M=>(zbc.f k B D E I J K M).bind fun O=>((zbJ.f k O.1 O.2 x3).bind fun A=>(if A.1.toList=([]:List UInt8) then((strings_Repeat.f (⟨#[48]⟩:ByteArray) x3).bind fun X=>((zaJ.f B D E I J K M (⟨#[48]⟩:ByteArray) X).bind fun Y=>(some Y))) else(if A.2.1≤0 then((strings_Repeat.f (⟨#[48]⟩:ByteArray) (wrap64 (-A.2.1))).bind fun U=>(if U.size+A.1.size≤9223372036854775807 then((za7.f (U++A.1) x3).bind fun Z=>((zaJ.f B D E I J K M (⟨#[48]⟩:ByteArray) Z).bind fun aa=>(some aa))) else(none))) else((za7.f A.1 (wrap64 (A.2.1+x3))).bind fun ab=>((zaB.f B D E I J K M ab A.2.1).bind fun ac=>(some ac))))))
def zat.f(k:Nat)(B:Int)(D:Int)(E:Int)(I:Int)(A:Int)(J:Bool)(K:Int):Option (ByteArray):=if A<0 then(zat.j0 k 6 B D E I A J K) else(zat.j0 k A B D E I A J K)
def zat.T8:Bool×List (List Nat×List Nat):=(true,[([],[]),([],[]),([1],[1]),([2],[2]),([3],[3]),([],[]),([5],[5]),([4,6],[4,6]),([],[]),([7,8,4],[7,8]),([0,9,9],[0,9]),([10,10,0,1,2,3,4,5,6,7,8,9,10],[10])])
def zat.B8:List Nat:=[0,0,2,6,14,0,32,126,0,510,1023,2047]
theorem zat.tab8:rtab .any (opsOf Tryz.f67 8)=zat.T8:=by kernel_rfl
theorem zat.bits8:waitsOk zat.T8.2 zat.B8=true:=by kernel_rfl
def zat.T9:Bool×List (List Nat×List Nat):=(true,[([],[]),([],[]),([1],[1]),([],[]),([3],[3]),([],[]),([4,5],[4,5]),([2,6],[2,6]),([],[]),([8],[8]),([0,7,9,7],[0,7,9]),([10,10,0,1,2,3,4,5,6,7,8,9,10],[10])])
def zat.B9:List Nat:=[0,0,2,0,8,0,56,126,0,256,1023,2047]
theorem zat.tab9:rtab .any (opsOf Tryz.f67 9)=zat.T9:=by kernel_rfl
theorem zat.bits9:waitsOk zat.T9.2 zat.B9=true:=by kernel_rfl
theorem zat.calls(k:Nat)(M:Int)(O:Int)(U:Int)(X:Int)(J:Int)(Y:Bool)(Z:Int)(r:ByteArray)(w:World)(h:zat.f k M O U X J Y Z=some r):
  Calls Tryz.prog 67 #[.agg #[.int .u64 M,.int .i64 O,.int .u64 U,.int .i64 X,.int .i64 J,.bool Y,.int .i32 Z]] w fun e w'=>e= .returned (.string r)∧Below w.heap.size w w':=by
 have bP:=Tryz.underlying74
 have bQ:=Tryz.underlying42
 have HB:=zaa.mk (Below.refl w.heap.size w)
 have H:(if J<0 then(zat.j0 k 6 M O U X J Y Z) else(zat.j0 k J M O U X J Y Z))=some r:=h
 clear h
 have aO:=zaa.mk H
 clear H
 go_enter Tryz.func67,Tryz.ntmps67
 go_upto_if 9 with(first|((with_reducible refine zak (N:=1) rfl ?_);refine zaj rfl (N:=1) rfl (cs:=#[.int .u64 M,.int .i64 O,.int .u64 U,.int .i64 X,.int .i64 J,.bool Y,.int .i32 Z]) (t:=74) gz ?_;intro E hg w3 hbox hb;have bn:=gN bz hg;have A:=zaa.mk hbox;replace HB:=bN bz hb;clear hb hbox hg;obtain⟨aA,aB,aC,aD,aE,aF,aG,aH,aI,aJ,aK,aL,aM,aN⟩:=cz7 (W:=w3) A))
 (try simp only[Act.put,List.setIfInBounds_toArray,List.set_cons_zero,List.set_cons_succ])
 go_cut [3] (fun v3 wc=> ∃(kq:Nat) (ac:Int),v3= .int .i64 ac∧zaa (zat.j0 kq ac M O U X J Y Z=some r)∧zaa (kq≤k)∧zaa (wc.heap[E]? =some (.cells #[.int .u64 M,.int .i64 O,.int .u64 U,.int .i64 X,.int .i64 J,.bool Y,.int .i32 Z] 74 (0,0)))∧zaa (Below w.heap.size w wc))
 case first=>
  have H:=aO.out
  clear aO
  by_cases c5:J<0
  ·replace H:=hE H c5
   have ap:=decide_eq_true c5
   clear c5
   try rw[ap]
   have H':=zaa.mk H
   clear H
   go_wp2
   go_meet
   case rel=>exact⟨_,(6),rz,H',⟨by first|omega|exact Nat.le_refl _⟩,⟨bk⟩,⟨bz⟩⟩
  replace H:=hN H c5
  have ap:=decide_eq_false c5
  clear c5
  try rw[ap]
  have H':=zaa.mk H
  clear H
  go_wp2
  go_meet
  case rel=>exact⟨_,(J),rz,H',⟨by first|omega|exact Nat.le_refl _⟩,⟨bk⟩,⟨bz⟩⟩
 case rest=>
  clear aO
  try clear c5
  try clear ap
  try clear aA aB aC aD aE aF aG aH aI aJ aK aL aM aN
  obtain⟨kq,ac,rfl,HA,bR,A,HB⟩:=hcut
  cases kq with
  |zero=>exact absurd HA.out (by simp[zat.j0])
  |succ aQ=>
   have H:=HA.out
   clear HA
   simp only[zat.j0] at H
   replace H:=bs H
   obtain⟨⟨au,av⟩,A6,H⟩:=H
   dsimp only at H
   replace H:=bs H
   obtain⟨⟨I,aa,aR⟩,A7,H⟩:=H
   dsimp only at H
   obtain⟨a8,a9,ba,bb,bc,bd,be,bf,bg,bh,bi,bj,bl,bm⟩:=cz7 (W:=wc) A
   go_upto_if 17 with(first|((with_reducible refine zac (f:=103) rfl ?_);refine zal (some 12) rfl rfl Tryz.func103 (by kernel_rfl) rfl #[.agg #[.int .u64 M,.int .i64 O,.int .u64 U,.int .i64 X,.int .i64 J,.bool Y,.int .i32 Z]] rfl lz ?_;(with_reducible refine(zbc.calls aQ M O U X J Y Z au av _ A6.out).mono ?_);rintro e w9 ⟨rfl,hb⟩;refine⟨_,rfl,?_⟩;replace A:=kN (g:=E) (cs:=#[.int .u64 M,.int .i64 O,.int .u64 U,.int .i64 X,.int .i64 J,.bool Y,.int .i32 Z]) hb bk;replace HB:=bN bz hb;(try clear hb);(try clear al);(try clear hk);(try clear hi))|((with_reducible refine zac (f:=33) rfl ?_);refine zal (some 14) rfl rfl Tryz.func33 (by kernel_rfl) rfl #[.agg #[.string au,.int .i64 av],.int .i64 ac] rfl lz ?_;(with_reducible refine(zbJ.calls aQ au av ac I aa aR _ A7.out).mono ?_);rintro e bS ⟨rfl,hb⟩;refine⟨_,rfl,?_⟩;replace A:=kN (g:=E) (cs:=#[.int .u64 M,.int .i64 O,.int .u64 U,.int .i64 X,.int .i64 J,.bool Y,.int .i32 Z]) hb bk;replace HB:=bN bz hb;(try clear hb);(try clear al);(try clear hk);(try clear hi))|((with_reducible refine zak (N:=4) rfl ?_);refine zaj rfl (N:=4) rfl (cs:=#[.string (⟨#[]⟩:ByteArray),.int .i64 0]) (t:=42) gz ?_;intro D hg ad hbox hb;have bo:=gN bz hg;have ae:=lN (g:=E) (cs:=#[.int .u64 M,.int .i64 O,.int .u64 U,.int .i64 X,.int .i64 J,.bool Y,.int .i32 Z]) hg bk;have af:=rN (g:=E) (cs:=#[.int .u64 M,.int .i64 O,.int .u64 U,.int .i64 X,.int .i64 J,.bool Y,.int .i32 Z]) hg bk;replace A:=kN (g:=E) (cs:=#[.int .u64 M,.int .i64 O,.int .u64 U,.int .i64 X,.int .i64 J,.bool Y,.int .i32 Z]) hb bk;have B:=zaa.mk hbox;replace HB:=bN bz hb;clear hb hbox hg;have bp:=af.out;have bq:=ae.out;obtain⟨aS,aT,aU,aV⟩:=cz2 (W:=ad) B))
   (try simp only[Act.put,List.setIfInBounds_toArray,List.set_cons_zero,List.set_cons_succ])
   by_cases am:I.toList=([]:List UInt8)
   ·replace H:=hE H am
    have ag:(I.toList==([]:List UInt8))=true:=beq_iff_eq.mpr am
    have an:(I.toList !=([]:List UInt8))=false:=bne_eq_false_iff_eq.mpr am
    have ao:I.toList.isEmpty=true:=by simpa using ag
    clear am
    try first|rw[ag]|rw[an]|rw[ao]
    replace H:=bs H
    obtain⟨aw,br,H⟩:=H
    replace H:=bs H
    obtain⟨aW,bu,H⟩:=H
    obtain rfl:=Option.some.inj H
    try go_wp2
    have ah:zaa (((ad.setCell ⟨D,0,none⟩ (.string I)).setCell ⟨D,1,none⟩ (.int .i64 aa)).heap[E]? =some (.cells #[.int .u64 M,.int .i64 O,.int .u64 U,.int .i64 X,.int .i64 J,.bool Y,.int .i32 Z] 74 (0,0))):=⟨bk⟩
    have ai:zaa (((ad.setCell ⟨D,0,none⟩ (.string I)).setCell ⟨D,1,none⟩ (.int .i64 aa)).heap[D]? =some (.cells #[.string I,.int .i64 aa] 42 (0,0))):=⟨bk⟩
    have aj:zaa (Below w.heap.size w ((ad.setCell ⟨D,0,none⟩ (.string I)).setCell ⟨D,1,none⟩ (.int .i64 aa))):=⟨bz⟩
    (try clear A)
    (try clear B)
    (try clear HB)
    generalize ((ad.setCell ⟨D,0,none⟩ (.string I)).setCell ⟨D,1,none⟩ (.int .i64 aa))=bv at ah ai aj ⊢
    have A:=ah
    have B:=ai
    have HB:=aj
    clear ah ai aj
    replace A:=zaa.mk (zaw A.out)
    replace B:=zaa.mk (zaw B.out)
    replace HB:=zaa.mk (zaT HB.out)
    refine zbo (n:=5) (S:=fun w'=>w'.cell? ⟨E,0,none⟩=some (.int .u64 M)∧w'.cell? ⟨E,1,none⟩=some (.int .i64 O)∧w'.cell? ⟨E,2,none⟩=some (.int .u64 U)∧w'.cell? ⟨E,3,none⟩=some (.int .i64 X)∧w'.cell? ⟨E,4,none⟩=some (.int .i64 J)∧w'.cell? ⟨E,5,none⟩=some (.bool Y)∧w'.cell? ⟨E,6,none⟩=some (.int .i32 Z)) (ds:=[]) #[false,false,false,false,false] (by kernel_rfl) rfl rfl ⟨(zab A.out 0).trans rfl,(zab A.out 1).trans rfl,(zab A.out 2).trans rfl,(zab A.out 3).trans rfl,(zab A.out 4).trans rfl,(zab A.out 5).trans rfl,(zab A.out 6).trans rfl⟩ (fun hHeld=>?_)
    generalize bv.drew=bU at A B HB hHeld ⊢
    refine zau (i:=1) (N:=some 22) (v:=?_) (a':=?_) #[false,true,false,false,false] rfl rfl (by kernel_rfl) (fun _ _ _ h=>h) (Or.inl ⟨by rfl,?_⟩) ?_ ?_
    rotate_left
    ·intro w'
     go_simp
     with_reducible rfl
    rotate_left
    ·simp only[Act.put,List.setIfInBounds_toArray,List.set_cons_zero,List.set_cons_succ,zad,zaf]
     rfl
    refine zaW (i:=0) (N:=some 21) (v:=?_) (a':=?_) #[true,true,false,false,false] rfl rfl (by kernel_rfl) (fun _ _ _ h=>h) (Or.inl ⟨by rfl,?_⟩) hHeld ?_ ?_
    rotate_left
    ·rintro w' ⟨s0,s1,s2,s3,s4,s5,s6⟩
     go_simp
     with_reducible rfl
    rotate_left
    ·simp only[Act.put,List.setIfInBounds_toArray,List.set_cons_zero,List.set_cons_succ,zad,zaf]
     rfl
    refine one_ (i:=2) (N:=some 23) #[true,true,true,false,false] rfl rfl (by kernel_rfl) (by decide) (fun K hK=>?_)
    refine za5 Tryz.func46 (by kernel_rfl) rfl #[.string (⟨#[48]⟩:ByteArray),.int .i64 ac] (by rfl) rfl rfl lz ?_
    with_reducible refine(strings_Repeat.calls (⟨#[48]⟩:ByteArray) ac aw _ br.out).mono ?_
    rintro e bV ⟨rfl,hb⟩
    refine⟨_,rfl,?_⟩
    replace A:=zaa.mk (zag (g:=E) (o:=.cells #[.int .u64 M,.int .i64 O,.int .u64 U,.int .i64 X,.int .i64 J,.bool Y,.int .i32 Z] 74 (0,0)) bk hb)
    replace B:=zaa.mk (zag (g:=D) (o:=.cells #[.string I,.int .i64 aa] 42 (0,0)) bk hb)
    replace HB:=zaa.mk (zam bz hb)
    (try clear hb)
    (try clear al)
    (try clear hk)
    (try clear hi)
    refine hK.out _ _ ⟨(zab A.out 0).trans rfl,(zab A.out 1).trans rfl,(zab A.out 2).trans rfl,(zab A.out 3).trans rfl,(zab A.out 4).trans rfl,(zab A.out 5).trans rfl,(zab A.out 6).trans rfl⟩ (fun hHeld=>?_)
    clear hK K
    refine zaY (a':=?_) ?_ ?_
    rotate_left
    ·show Act.put _ (some 23) _=_
     simp only[Act.put,List.setIfInBounds_toArray,List.set_cons_zero,List.set_cons_succ,zad,zaf]
     rfl
    refine one_ (i:=3) (N:=some 24) #[true,true,true,true,false] rfl rfl (by kernel_rfl) (by decide) (fun K hK=>?_)
    refine za5 Tryz.func107 (by kernel_rfl) rfl #[.agg #[.int .u64 M,.int .i64 O,.int .u64 U,.int .i64 X,.int .i64 J,.bool Y,.int .i32 Z],.string (⟨#[48]⟩:ByteArray),.string aw] (by rfl) rfl rfl lz ?_
    with_reducible refine(zaJ.calls M O U X J Y Z (⟨#[48]⟩:ByteArray) aw aW _ bu.out).mono ?_
    rintro e bW ⟨rfl,hb⟩
    refine⟨_,rfl,?_⟩
    replace A:=zaa.mk (zag (g:=E) (o:=.cells #[.int .u64 M,.int .i64 O,.int .u64 U,.int .i64 X,.int .i64 J,.bool Y,.int .i32 Z] 74 (0,0)) bk hb)
    replace B:=zaa.mk (zag (g:=D) (o:=.cells #[.string I,.int .i64 aa] 42 (0,0)) bk hb)
    replace HB:=zaa.mk (zam bz hb)
    (try clear hb)
    (try clear al)
    (try clear hk)
    (try clear hi)
    refine hK.out _ _ ⟨(zab A.out 0).trans rfl,(zab A.out 1).trans rfl,(zab A.out 2).trans rfl,(zab A.out 3).trans rfl,(zab A.out 4).trans rfl,(zab A.out 5).trans rfl,(zab A.out 6).trans rfl⟩ (fun hHeld=>?_)
    clear hK K
    refine zaY (a':=?_) ?_ ?_
    rotate_left
    ·show Act.put _ (some 24) _=_
     simp only[Act.put,List.setIfInBounds_toArray,List.set_cons_zero,List.set_cons_succ,zad,zaf]
     rfl
    refine zau (i:=4) (N:=some 2) (v:=?_) (a':=?_) #[true,true,true,true,true] rfl rfl (by kernel_rfl) (fun _ _ _ h=>h) (Or.inl ⟨by rfl,?_⟩) ?_ ?_
    rotate_left
    ·intro w'
     go_simp
     with_reducible rfl
    rotate_left
    ·simp only[Act.put,List.setIfInBounds_toArray,List.set_cons_zero,List.set_cons_succ,zad,zaf]
     rfl
    refine zbx (by kernel_rfl) ?_
    try go_wp2
    go_ret
    exact⟨ez,bz⟩
   replace H:=hN H am
   have ag:(I.toList==([]:List UInt8))=false:=beq_eq_false_iff_ne.mpr am
   have an:(I.toList !=([]:List UInt8))=true:=bne_iff_ne.mpr am
   have ao:I.toList.isEmpty=false:=by simpa using ag
   try first|rw[ag]|rw[an]|rw[ao]
   by_cases ar:aa≤0
   ·replace H:=hE H ar
    have aP:=decide_eq_true ar
    clear ar
    replace H:=bs H
    obtain⟨ak,bw,H⟩:=H
    by_cases ax:ak.size+I.size≤9223372036854775807
    ·replace H:=hE H ax
     have bA:=eq_true ax
     have bB:decide (ak.size+I.size≤9223372036854775807)=true:=decide_eq_true ax
     try have bC:(9223372036854775807<ak.size+I.size)=False:=eq_false (Nat.not_lt.2 ax)
     replace H:=bs H
     obtain⟨ay,bD,H⟩:=H
     replace H:=bs H
     obtain⟨aX,bE,H⟩:=H
     obtain rfl:=Option.some.inj H
     have bG:=af.out
     have bH:=ae.out
     obtain⟨aY,aZ,a1,a2⟩:=cz2 (W:=ad) B
     try go_wp2
     have ah:zaa (((ad.setCell ⟨D,0,none⟩ (.string I)).setCell ⟨D,1,none⟩ (.int .i64 aa)).heap[E]? =some (.cells #[.int .u64 M,.int .i64 O,.int .u64 U,.int .i64 X,.int .i64 J,.bool Y,.int .i32 Z] 74 (0,0))):=⟨bk⟩
     have ai:zaa (((ad.setCell ⟨D,0,none⟩ (.string I)).setCell ⟨D,1,none⟩ (.int .i64 aa)).heap[D]? =some (.cells #[.string I,.int .i64 aa] 42 (0,0))):=⟨bk⟩
     have aj:zaa (Below w.heap.size w ((ad.setCell ⟨D,0,none⟩ (.string I)).setCell ⟨D,1,none⟩ (.int .i64 aa))):=⟨bz⟩
     (try clear A)
     (try clear B)
     (try clear HB)
     generalize ((ad.setCell ⟨D,0,none⟩ (.string I)).setCell ⟨D,1,none⟩ (.int .i64 aa))=bI at ah ai aj ⊢
     have A:=ah
     have B:=ai
     have HB:=aj
     clear ah ai aj
     replace A:=zaa.mk (zaw A.out)
     replace B:=zaa.mk (zaw B.out)
     replace HB:=zaa.mk (zaT HB.out)
     refine zbo (n:=12) (S:=fun w'=>w'.cell? ⟨E,0,none⟩=some (.int .u64 M)∧w'.cell? ⟨E,1,none⟩=some (.int .i64 O)∧w'.cell? ⟨E,2,none⟩=some (.int .u64 U)∧w'.cell? ⟨E,3,none⟩=some (.int .i64 X)∧w'.cell? ⟨E,4,none⟩=some (.int .i64 J)∧w'.cell? ⟨E,5,none⟩=some (.bool Y)∧w'.cell? ⟨E,6,none⟩=some (.int .i32 Z)∧w'.cell? ⟨D,0,none⟩=some (.string I)∧w'.cell? ⟨D,1,none⟩=some (.int .i64 aa)) (ds:=[]) #[false,false,false,false,false,false,false,false,false,false,false,false] (by kernel_rfl) rfl rfl ⟨(zab A.out 0).trans rfl,(zab A.out 1).trans rfl,(zab A.out 2).trans rfl,(zab A.out 3).trans rfl,(zab A.out 4).trans rfl,(zab A.out 5).trans rfl,(zab A.out 6).trans rfl,(zab B.out 0).trans rfl,(zab B.out 1).trans rfl⟩ (fun hHeld=>?_);refine zbf zat.tab8 zat.bits8 (fun ab HW_=>?_)
     generalize bI.drew=bX at A B HB hHeld ⊢
     refine zau (i:=1) (N:=some 30) (v:=?_) (a':=?_) #[false,true,false,false,false,false,false,false,false,false,false,false] rfl rfl (zas ab.out (by kernel_rfl)) (fun _ _ _ h=>h) (Or.inl ⟨by rfl,?_⟩) ?_ ?_
     rotate_left
     ·intro w'
      go_simp
      with_reducible rfl
     rotate_left
     ·simp only[Act.put,List.setIfInBounds_toArray,List.set_cons_zero,List.set_cons_succ,zad,zaf]
      rfl
     refine zau (i:=5) (N:=some 34) (v:=?_) (a':=?_) #[false,true,false,false,false,true,false,false,false,false,false,false] rfl rfl (zas ab.out (by kernel_rfl)) (fun _ _ _ h=>h) (Or.inl ⟨by rfl,?_⟩) ?_ ?_
     rotate_left
     ·intro w'
      go_simp
      with_reducible rfl
     rotate_left
     ·simp only[Act.put,List.setIfInBounds_toArray,List.set_cons_zero,List.set_cons_succ,zad,zaf]
      rfl
     refine zau (i:=8) (N:=some 37) (v:=?_) (a':=?_) #[false,true,false,false,false,true,false,false,true,false,false,false] rfl rfl (zas ab.out (by kernel_rfl)) (fun _ _ _ h=>h) (Or.inl ⟨by rfl,?_⟩) ?_ ?_
     rotate_left
     ·intro w'
      go_simp
      with_reducible rfl
     rotate_left
     ·simp only[Act.put,List.setIfInBounds_toArray,List.set_cons_zero,List.set_cons_succ,zad,zaf]
      rfl
     refine zaW (i:=0) (N:=some 29) (v:=?_) (a':=?_) #[true,true,false,false,false,true,false,false,true,false,false,false] rfl rfl (zaH ab.out HW_.out (by kernel_rfl)) (fun _ _ _ h=>h) (Or.inl ⟨by rfl,?_⟩) hHeld ?_ ?_
     rotate_left
     ·rintro w' ⟨s0,s1,s2,s3,s4,s5,s6,s7,s8⟩
      go_simp
      with_reducible rfl
     rotate_left
     ·simp only[Act.put,List.setIfInBounds_toArray,List.set_cons_zero,List.set_cons_succ,zad,zaf]
      rfl
     refine zaW (i:=2) (N:=some 31) (v:=?_) (a':=?_) #[true,true,true,false,false,true,false,false,true,false,false,false] rfl rfl (zaH ab.out HW_.out (by kernel_rfl)) (fun _ _ _ h=>h) (Or.inl ⟨by rfl,?_⟩) hHeld ?_ ?_
     rotate_left
     ·rintro w' ⟨s0,s1,s2,s3,s4,s5,s6,s7,s8⟩
      go_simp
      with_reducible rfl
     rotate_left
     ·simp only[Act.put,List.setIfInBounds_toArray,List.set_cons_zero,List.set_cons_succ,zad,zaf]
      rfl
     refine zau (i:=3) (N:=some 32) (v:=?_) (a':=?_) #[true,true,true,true,false,true,false,false,true,false,false,false] rfl rfl (zas ab.out (by kernel_rfl)) (fun _ _ _ h=>h) (Or.inl ⟨by rfl,?_⟩) ?_ ?_
     rotate_left
     ·intro w'
      go_simp
      with_reducible rfl
     rotate_left
     ·simp only[Act.put,List.setIfInBounds_toArray,List.set_cons_zero,List.set_cons_succ,zad,zaf]
      rfl
     refine zaW (i:=6) (N:=some 35) (v:=?_) (a':=?_) #[true,true,true,true,false,true,true,false,true,false,false,false] rfl rfl (zaH ab.out HW_.out (by kernel_rfl)) (fun _ _ _ h=>h) (Or.inl ⟨by rfl,?_⟩) hHeld ?_ ?_
     rotate_left
     ·rintro w' ⟨s0,s1,s2,s3,s4,s5,s6,s7,s8⟩
      go_simp
      with_reducible rfl
     rotate_left
     ·simp only[Act.put,List.setIfInBounds_toArray,List.set_cons_zero,List.set_cons_succ,zad,zaf]
      rfl
     refine one_ (i:=4) (N:=some 33) #[true,true,true,true,true,true,true,false,true,false,false,false] rfl rfl (zaZ ab.out (by kernel_rfl)) (by decide) (fun K hK=>?_)
     refine za5 Tryz.func46 (by kernel_rfl) rfl #[.string (⟨#[48]⟩:ByteArray),.int .i64 (wrap64 (-aa))] (by rfl) rfl rfl lz ?_
     with_reducible refine(strings_Repeat.calls (⟨#[48]⟩:ByteArray) (wrap64 (-aa)) ak _ bw.out).mono ?_
     rintro e bY ⟨rfl,hb⟩
     refine⟨_,rfl,?_⟩
     replace A:=zaa.mk (zag (g:=E) (o:=.cells #[.int .u64 M,.int .i64 O,.int .u64 U,.int .i64 X,.int .i64 J,.bool Y,.int .i32 Z] 74 (0,0)) bk hb)
     replace B:=zaa.mk (zag (g:=D) (o:=.cells #[.string I,.int .i64 aa] 42 (0,0)) bk hb)
     replace HB:=zaa.mk (zam bz hb)
     (try clear hb)
     (try clear al)
     (try clear hk)
     (try clear hi)
     refine hK.out _ _ ⟨(zab A.out 0).trans rfl,(zab A.out 1).trans rfl,(zab A.out 2).trans rfl,(zab A.out 3).trans rfl,(zab A.out 4).trans rfl,(zab A.out 5).trans rfl,(zab A.out 6).trans rfl,(zab B.out 0).trans rfl,(zab B.out 1).trans rfl⟩ (fun hHeld=>?_)
     clear hK K
     refine zaY (a':=?_) ?_ ?_
     rotate_left
     ·show Act.put _ (some 33) _=_
      simp only[Act.put,List.setIfInBounds_toArray,List.set_cons_zero,List.set_cons_succ,zad,zaf]
      rfl
     refine zau (i:=7) (N:=some 36) (v:=?_) (a':=?_) #[true,true,true,true,true,true,true,true,true,false,false,false] rfl rfl (zas ab.out (by kernel_rfl)) (fun _ _ _ h=>h) (Or.inl ⟨by rfl,?_⟩) ?_ ?_
     rotate_left
     ·intro w'
      go_simp
      with_reducible rfl
     rotate_left
     ·simp only[Act.put,List.setIfInBounds_toArray,List.set_cons_zero,List.set_cons_succ,zad,zaf]
      rfl
     refine one_ (i:=9) (N:=some 38) #[true,true,true,true,true,true,true,true,true,true,false,false] rfl rfl (zaZ ab.out (by kernel_rfl)) (by decide) (fun K hK=>?_)
     refine za5 Tryz.func105 (by kernel_rfl) rfl #[.string (ak++I),.int .i64 ac] (by rfl) rfl rfl lz ?_
     with_reducible refine(za7.calls (ak++I) ac ay _ bD.out).mono ?_
     rintro e bZ ⟨rfl,hb⟩
     refine⟨_,rfl,?_⟩
     replace A:=zaa.mk (zag (g:=E) (o:=.cells #[.int .u64 M,.int .i64 O,.int .u64 U,.int .i64 X,.int .i64 J,.bool Y,.int .i32 Z] 74 (0,0)) bk hb)
     replace B:=zaa.mk (zag (g:=D) (o:=.cells #[.string I,.int .i64 aa] 42 (0,0)) bk hb)
     replace HB:=zaa.mk (zam bz hb)
     (try clear hb)
     (try clear al)
     (try clear hk)
     (try clear hi)
     refine hK.out _ _ ⟨(zab A.out 0).trans rfl,(zab A.out 1).trans rfl,(zab A.out 2).trans rfl,(zab A.out 3).trans rfl,(zab A.out 4).trans rfl,(zab A.out 5).trans rfl,(zab A.out 6).trans rfl,(zab B.out 0).trans rfl,(zab B.out 1).trans rfl⟩ (fun hHeld=>?_)
     clear hK K
     refine zaY (a':=?_) ?_ ?_
     rotate_left
     ·show Act.put _ (some 38) _=_
      simp only[Act.put,List.setIfInBounds_toArray,List.set_cons_zero,List.set_cons_succ,zad,zaf]
      rfl
     refine one_ (i:=10) (N:=some 39) #[true,true,true,true,true,true,true,true,true,true,true,false] rfl rfl (zaZ ab.out (by kernel_rfl)) (by decide) (fun K hK=>?_)
     refine za5 Tryz.func107 (by kernel_rfl) rfl #[.agg #[.int .u64 M,.int .i64 O,.int .u64 U,.int .i64 X,.int .i64 J,.bool Y,.int .i32 Z],.string (⟨#[48]⟩:ByteArray),.string ay] (by rfl) rfl rfl lz ?_
     with_reducible refine(zaJ.calls M O U X J Y Z (⟨#[48]⟩:ByteArray) ay aX _ bE.out).mono ?_
     rintro e b0 ⟨rfl,hb⟩
     refine⟨_,rfl,?_⟩
     replace A:=zaa.mk (zag (g:=E) (o:=.cells #[.int .u64 M,.int .i64 O,.int .u64 U,.int .i64 X,.int .i64 J,.bool Y,.int .i32 Z] 74 (0,0)) bk hb)
     replace B:=zaa.mk (zag (g:=D) (o:=.cells #[.string I,.int .i64 aa] 42 (0,0)) bk hb)
     replace HB:=zaa.mk (zam bz hb)
     (try clear hb)
     (try clear al)
     (try clear hk)
     (try clear hi)
     refine hK.out _ _ ⟨(zab A.out 0).trans rfl,(zab A.out 1).trans rfl,(zab A.out 2).trans rfl,(zab A.out 3).trans rfl,(zab A.out 4).trans rfl,(zab A.out 5).trans rfl,(zab A.out 6).trans rfl,(zab B.out 0).trans rfl,(zab B.out 1).trans rfl⟩ (fun hHeld=>?_)
     clear hK K
     refine zaY (a':=?_) ?_ ?_
     rotate_left
     ·show Act.put _ (some 39) _=_
      simp only[Act.put,List.setIfInBounds_toArray,List.set_cons_zero,List.set_cons_succ,zad,zaf]
      rfl
     refine zau (i:=11) (N:=some 2) (v:=?_) (a':=?_) #[true,true,true,true,true,true,true,true,true,true,true,true] rfl rfl (zas ab.out (by kernel_rfl)) (fun _ _ _ h=>h) (Or.inl ⟨by rfl,?_⟩) ?_ ?_
     rotate_left
     ·intro w'
      go_simp
      with_reducible rfl
     rotate_left
     ·simp only[Act.put,List.setIfInBounds_toArray,List.set_cons_zero,List.set_cons_succ,zad,zaf]
      rfl
     refine zbx (zbs ab.out (by kernel_rfl)) ?_
     try go_wp2
     go_ret
     exact⟨ez,bz⟩
    replace H:=hN H ax
    exact absurd H (by simp)
   replace H:=hN H ar
   have aP:=decide_eq_false ar
   clear ar
   replace H:=bs H
   obtain⟨az,bJ,H⟩:=H
   replace H:=bs H
   obtain⟨a3,bK,H⟩:=H
   obtain rfl:=Option.some.inj H
   have bL:=af.out
   have bM:=ae.out
   obtain⟨a4,a5,a6,a7⟩:=cz2 (W:=ad) B
   try go_wp2
   have ah:zaa (((ad.setCell ⟨D,0,none⟩ (.string I)).setCell ⟨D,1,none⟩ (.int .i64 aa)).heap[E]? =some (.cells #[.int .u64 M,.int .i64 O,.int .u64 U,.int .i64 X,.int .i64 J,.bool Y,.int .i32 Z] 74 (0,0))):=⟨bk⟩
   have ai:zaa (((ad.setCell ⟨D,0,none⟩ (.string I)).setCell ⟨D,1,none⟩ (.int .i64 aa)).heap[D]? =some (.cells #[.string I,.int .i64 aa] 42 (0,0))):=⟨bk⟩
   have aj:zaa (Below w.heap.size w ((ad.setCell ⟨D,0,none⟩ (.string I)).setCell ⟨D,1,none⟩ (.int .i64 aa))):=⟨bz⟩
   (try clear A)
   (try clear B)
   (try clear HB)
   generalize ((ad.setCell ⟨D,0,none⟩ (.string I)).setCell ⟨D,1,none⟩ (.int .i64 aa))=bO at ah ai aj ⊢
   have A:=ah
   have B:=ai
   have HB:=aj
   clear ah ai aj
   replace A:=zaa.mk (zaw A.out)
   replace B:=zaa.mk (zaw B.out)
   replace HB:=zaa.mk (zaT HB.out)
   refine zbo (n:=12) (S:=fun w'=>w'.cell? ⟨E,0,none⟩=some (.int .u64 M)∧w'.cell? ⟨E,1,none⟩=some (.int .i64 O)∧w'.cell? ⟨E,2,none⟩=some (.int .u64 U)∧w'.cell? ⟨E,3,none⟩=some (.int .i64 X)∧w'.cell? ⟨E,4,none⟩=some (.int .i64 J)∧w'.cell? ⟨E,5,none⟩=some (.bool Y)∧w'.cell? ⟨E,6,none⟩=some (.int .i32 Z)∧w'.cell? ⟨D,0,none⟩=some (.string I)∧w'.cell? ⟨D,1,none⟩=some (.int .i64 aa)) (ds:=[]) #[false,false,false,false,false,false,false,false,false,false,false,false] (by kernel_rfl) rfl rfl ⟨(zab A.out 0).trans rfl,(zab A.out 1).trans rfl,(zab A.out 2).trans rfl,(zab A.out 3).trans rfl,(zab A.out 4).trans rfl,(zab A.out 5).trans rfl,(zab A.out 6).trans rfl,(zab B.out 0).trans rfl,(zab B.out 1).trans rfl⟩ (fun hHeld=>?_);refine zbf zat.tab9 zat.bits9 (fun ab HW_=>?_)
   generalize bO.drew=b1 at A B HB hHeld ⊢
   refine zau (i:=1) (N:=some 41) (v:=?_) (a':=?_) #[false,true,false,false,false,false,false,false,false,false,false,false] rfl rfl (zas ab.out (by kernel_rfl)) (fun _ _ _ h=>h) (Or.inl ⟨by rfl,?_⟩) ?_ ?_
   rotate_left
   ·intro w'
    go_simp
    with_reducible rfl
   rotate_left
   ·simp only[Act.put,List.setIfInBounds_toArray,List.set_cons_zero,List.set_cons_succ,zad,zaf]
    rfl
   refine zau (i:=3) (N:=some 43) (v:=?_) (a':=?_) #[false,true,false,true,false,false,false,false,false,false,false,false] rfl rfl (zas ab.out (by kernel_rfl)) (fun _ _ _ h=>h) (Or.inl ⟨by rfl,?_⟩) ?_ ?_
   rotate_left
   ·intro w'
    go_simp
    with_reducible rfl
   rotate_left
   ·simp only[Act.put,List.setIfInBounds_toArray,List.set_cons_zero,List.set_cons_succ,zad,zaf]
    rfl
   refine zau (i:=5) (N:=some 45) (v:=?_) (a':=?_) #[false,true,false,true,false,true,false,false,false,false,false,false] rfl rfl (zas ab.out (by kernel_rfl)) (fun _ _ _ h=>h) (Or.inl ⟨by rfl,?_⟩) ?_ ?_
   rotate_left
   ·intro w'
    go_simp
    with_reducible rfl
   rotate_left
   ·simp only[Act.put,List.setIfInBounds_toArray,List.set_cons_zero,List.set_cons_succ,zad,zaf]
    rfl
   refine zau (i:=8) (N:=some 48) (v:=?_) (a':=?_) #[false,true,false,true,false,true,false,false,true,false,false,false] rfl rfl (zas ab.out (by kernel_rfl)) (fun _ _ _ h=>h) (Or.inl ⟨by rfl,?_⟩) ?_ ?_
   rotate_left
   ·intro w'
    go_simp
    with_reducible rfl
   rotate_left
   ·simp only[Act.put,List.setIfInBounds_toArray,List.set_cons_zero,List.set_cons_succ,zad,zaf]
    rfl
   refine zaW (i:=0) (N:=some 40) (v:=?_) (a':=?_) #[true,true,false,true,false,true,false,false,true,false,false,false] rfl rfl (zaH ab.out HW_.out (by kernel_rfl)) (fun _ _ _ h=>h) (Or.inl ⟨by rfl,?_⟩) hHeld ?_ ?_
   rotate_left
   ·rintro w' ⟨s0,s1,s2,s3,s4,s5,s6,s7,s8⟩
    go_simp
    with_reducible rfl
   rotate_left
   ·simp only[Act.put,List.setIfInBounds_toArray,List.set_cons_zero,List.set_cons_succ,zad,zaf]
    rfl
   refine zaW (i:=2) (N:=some 42) (v:=?_) (a':=?_) #[true,true,true,true,false,true,false,false,true,false,false,false] rfl rfl (zaH ab.out HW_.out (by kernel_rfl)) (fun _ _ _ h=>h) (Or.inl ⟨by rfl,?_⟩) hHeld ?_ ?_
   rotate_left
   ·rintro w' ⟨s0,s1,s2,s3,s4,s5,s6,s7,s8⟩
    go_simp
    with_reducible rfl
   rotate_left
   ·simp only[Act.put,List.setIfInBounds_toArray,List.set_cons_zero,List.set_cons_succ,zad,zaf]
    rfl
   refine zaW (i:=4) (N:=some 44) (v:=?_) (a':=?_) #[true,true,true,true,true,true,false,false,true,false,false,false] rfl rfl (zaH ab.out HW_.out (by kernel_rfl)) (fun _ _ _ h=>h) (Or.inl ⟨by rfl,?_⟩) hHeld ?_ ?_
   rotate_left
   ·rintro w' ⟨s0,s1,s2,s3,s4,s5,s6,s7,s8⟩
    go_simp
    with_reducible rfl
   rotate_left
   ·simp only[Act.put,List.setIfInBounds_toArray,List.set_cons_zero,List.set_cons_succ,zad,zaf]
    rfl
   refine zau (i:=6) (N:=some 46) (v:=?_) (a':=?_) #[true,true,true,true,true,true,true,false,true,false,false,false] rfl rfl (zas ab.out (by kernel_rfl)) (fun _ _ _ h=>h) (Or.inl ⟨by rfl,?_⟩) ?_ ?_
   rotate_left
   ·intro w'
    go_simp
    with_reducible rfl
   rotate_left
   ·simp only[Act.put,List.setIfInBounds_toArray,List.set_cons_zero,List.set_cons_succ,zad,zaf]
    rfl
   refine zaW (i:=9) (N:=some 49) (v:=?_) (a':=?_) #[true,true,true,true,true,true,true,false,true,true,false,false] rfl rfl (zaH ab.out HW_.out (by kernel_rfl)) (fun _ _ _ h=>h) (Or.inl ⟨by rfl,?_⟩) hHeld ?_ ?_
   rotate_left
   ·rintro w' ⟨s0,s1,s2,s3,s4,s5,s6,s7,s8⟩
    go_simp
    with_reducible rfl
   rotate_left
   ·simp only[Act.put,List.setIfInBounds_toArray,List.set_cons_zero,List.set_cons_succ,zad,zaf]
    rfl
   refine one_ (i:=7) (N:=some 47) #[true,true,true,true,true,true,true,true,true,true,false,false] rfl rfl (zaZ ab.out (by kernel_rfl)) (by decide) (fun K hK=>?_)
   refine za5 Tryz.func105 (by kernel_rfl) rfl #[.string I,.int .i64 (wrap64 (aa+ac))] (by rfl) rfl rfl lz ?_
   with_reducible refine(za7.calls I (wrap64 (aa+ac)) az _ bJ.out).mono ?_
   rintro e b2 ⟨rfl,hb⟩
   refine⟨_,rfl,?_⟩
   replace A:=zaa.mk (zag (g:=E) (o:=.cells #[.int .u64 M,.int .i64 O,.int .u64 U,.int .i64 X,.int .i64 J,.bool Y,.int .i32 Z] 74 (0,0)) bk hb)
   replace B:=zaa.mk (zag (g:=D) (o:=.cells #[.string I,.int .i64 aa] 42 (0,0)) bk hb)
   replace HB:=zaa.mk (zam bz hb)
   (try clear hb)
   (try clear al)
   (try clear hk)
   (try clear hi)
   refine hK.out _ _ ⟨(zab A.out 0).trans rfl,(zab A.out 1).trans rfl,(zab A.out 2).trans rfl,(zab A.out 3).trans rfl,(zab A.out 4).trans rfl,(zab A.out 5).trans rfl,(zab A.out 6).trans rfl,(zab B.out 0).trans rfl,(zab B.out 1).trans rfl⟩ (fun hHeld=>?_)
   clear hK K
   refine zaY (a':=?_) ?_ ?_
   rotate_left
   ·show Act.put _ (some 47) _=_
    simp only[Act.put,List.setIfInBounds_toArray,List.set_cons_zero,List.set_cons_succ,zad,zaf]
    rfl
   refine one_ (i:=10) (N:=some 50) #[true,true,true,true,true,true,true,true,true,true,true,false] rfl rfl (zaZ ab.out (by kernel_rfl)) (by decide) (fun K hK=>?_)
   refine za5 Tryz.func108 (by kernel_rfl) rfl #[.agg #[.int .u64 M,.int .i64 O,.int .u64 U,.int .i64 X,.int .i64 J,.bool Y,.int .i32 Z],.string az,.int .i64 aa] (by rfl) rfl rfl lz ?_
   with_reducible refine(zaB.calls M O U X J Y Z az aa a3 _ bK.out).mono ?_
   rintro e b3 ⟨rfl,hb⟩
   refine⟨_,rfl,?_⟩
   replace A:=zaa.mk (zag (g:=E) (o:=.cells #[.int .u64 M,.int .i64 O,.int .u64 U,.int .i64 X,.int .i64 J,.bool Y,.int .i32 Z] 74 (0,0)) bk hb)
   replace B:=zaa.mk (zag (g:=D) (o:=.cells #[.string I,.int .i64 aa] 42 (0,0)) bk hb)
   replace HB:=zaa.mk (zam bz hb)
   (try clear hb)
   (try clear al)
   (try clear hk)
   (try clear hi)
   refine hK.out _ _ ⟨(zab A.out 0).trans rfl,(zab A.out 1).trans rfl,(zab A.out 2).trans rfl,(zab A.out 3).trans rfl,(zab A.out 4).trans rfl,(zab A.out 5).trans rfl,(zab A.out 6).trans rfl,(zab B.out 0).trans rfl,(zab B.out 1).trans rfl⟩ (fun hHeld=>?_)
   clear hK K
   refine zaY (a':=?_) ?_ ?_
   rotate_left
   ·show Act.put _ (some 50) _=_
    simp only[Act.put,List.setIfInBounds_toArray,List.set_cons_zero,List.set_cons_succ,zad,zaf]
    rfl
   refine zau (i:=11) (N:=some 2) (v:=?_) (a':=?_) #[true,true,true,true,true,true,true,true,true,true,true,true] rfl rfl (zas ab.out (by kernel_rfl)) (fun _ _ _ h=>h) (Or.inl ⟨by rfl,?_⟩) ?_ ?_
   rotate_left
   ·intro w'
    go_simp
    with_reducible rfl
   rotate_left
   ·simp only[Act.put,List.setIfInBounds_toArray,List.set_cons_zero,List.set_cons_succ,zad,zaf]
    rfl
   refine zbx (zbs ab.out (by kernel_rfl)) ?_
   try go_wp2
   go_ret
   exact⟨ez,bz⟩
end
end Go.Proofs.YtecpgdfnamkfdaaGreatDoor.Fn
end
section
namespace Go.Proofs.YtecpgdfnamkfdaaGreatDoor.Fn
open Go.RowKit Go.Proofs.YtecpgdfnamkfdaaGreatDoorW.PrintWords Go.Proofs.YtecpgdfnamkfdaaGreatDoorW.PrintLast Go.Proofs.YtecpgdfnamkfdaaGreatDoorW.PrintMore
attribute [local go_sem] fnW_0 fnW_1 fnW_2 fnW_3 fnW_4 fnW_5 fnW_guard fnW_eql zaK zaL zaQ zaR
set_option linter.unusedVariables false
set_option linter.unusedSimpArgs false
mutual
def zap.j0:Nat→Int→Int→Int→Int→Int→Int→Int→Bool→Int→ByteArray→Int→Option (ByteArray)
 |0,_,_,_,_,_,_,_,_,_,_,_=>none
 |k+1,x4,x5,B,D,E,I,J,K,M,A,O=>if A.toList=([]:List UInt8) then(zap.j1 k x4 x5 (⟨#[48]⟩:ByteArray) B D E I J K M A O) else(zap.j1 k x4 x5 A B D E I J K M A O)
def zap.j1:Nat→Int→Int→ByteArray→Int→Int→Int→Int→Int→Bool→Int→ByteArray→Int→Option (ByteArray)
 |0,_,_,_,_,_,_,_,_,_,_,_,_=>none
 |k+1,x4,x5,x6,B,D,E,I,J,A,K,M,O=>if A=true then((za7.f x6 x5).bind fun U=>(zap.j2 k x4 U B D E I J A K M O)) else(zap.j2 k x4 x6 B D E I J A K M O)
def zap.j2:Nat→Int→ByteArray→Int→Int→Int→Int→Int→Bool→Int→ByteArray→Int→Option (ByteArray)
 |0,_,_,_,_,_,_,_,_,_,_,_=>none
 |k+1,x4,x6,D,E,I,J,K,M,O,A,B=>(zbB.f A B).bind fun U=>(if U<(-4) then(zap.j3 k x6 U true D E I J K M O A B) else(zap.j3 k x6 U (decide (U≥x4)) D E I J K M O A B))
def zap.j3:Nat→ByteArray→Int→Bool→Int→Int→Int→Int→Int→Bool→Int→ByteArray→Int→Option (ByteArray)
 |0,_,_,_,_,_,_,_,_,_,_,_,_=>none
 |k+1,x6,x7,Z,A,B,D,E,I,J,K,M,O=>if Z=true then((zar.f k A B D E I J K x6 x7).bind fun U=>(some U)) else((zbB.f M O).bind fun X=>((zaB.f A B D E I J K x6 (wrap64 (X+1))).bind fun Y=>(some Y)))
end
def zap.f(k:Nat)(B:Int)(D:Int)(E:Int)(I:Int)(A:Int)(J:Bool)(K:Int):Option (ByteArray):=if A<0 then((zav.f k B D).bind fun M=>(zap.j0 k 21 6 B D E I A J K M.1 M.2.1)) else((zbc.f k B D E I A J K).bind fun O=>((zbp.f k O.1 O.2 (mx A 1)).bind fun U=>(zap.j0 k (mx A 1) (mx A 1) B D E I A J K U.1 U.2.1)))
set_option maxHeartbeats 8000000 in
set_option maxRecDepth 100000 in
theorem zap.calls(k:Nat)(I:Int)(J:Int)(O:Int)(U:Int)(E:Int)(X:Bool)(Y:Int)(r:ByteArray)(w:World)(h:zap.f k I J O U E X Y=some r):
  Calls Tryz.prog 68 #[.agg #[.int .u64 I,.int .i64 J,.int .u64 O,.int .i64 U,.int .i64 E,.bool X,.int .i32 Y]] w fun e w'=>e= .returned (.string r)∧Below w.heap.size w w':=by
 have c6:=Tryz.underlying74
 have c8:=Tryz.underlying42
 have HB:=zaa.mk (Below.refl w.heap.size w)
 have H:(if E<0 then((zav.f k I J).bind fun bO=>(zap.j0 k 21 6 I J O U E X Y bO.1 bO.2.1)) else((zbc.f k I J O U E X Y).bind fun bP=>((zbp.f k bP.1 bP.2 (mx E 1)).bind fun bQ=>(zap.j0 k (mx E 1) (mx E 1) I J O U E X Y bQ.1 bQ.2.1))))=some r:=h
 clear h
 have ca:=zaa.mk H
 clear H
 go_enter Tryz.func68,Tryz.ntmps68
 go_upto_if 10 with(first|((with_reducible refine zak (N:=1) rfl ?_);refine zaj rfl (N:=1) rfl (cs:=#[.int .u64 I,.int .i64 J,.int .u64 O,.int .i64 U,.int .i64 E,.bool X,.int .i32 Y]) (t:=74) gz ?_;intro Z hg w3 hbox hb;have cC:=gN bz hg;have B:=zaa.mk hbox;replace HB:=bN bz hb;clear hb hbox hg)|((with_reducible refine zak (N:=3) rfl ?_);refine zaj rfl (N:=3) rfl (cs:=#[.string (⟨#[]⟩:ByteArray),.int .i64 0]) (t:=42) gz ?_;intro ac hg w4 hbox hb;have cD:=gN bz hg;have aa:=lN (g:=Z) (cs:=#[.int .u64 I,.int .i64 J,.int .u64 O,.int .i64 U,.int .i64 E,.bool X,.int .i32 Y]) hg bk;have ab:=rN (g:=Z) (cs:=#[.int .u64 I,.int .i64 J,.int .u64 O,.int .i64 U,.int .i64 E,.bool X,.int .i32 Y]) hg bk;replace B:=kN (g:=Z) (cs:=#[.int .u64 I,.int .i64 J,.int .u64 O,.int .i64 U,.int .i64 E,.bool X,.int .i32 Y]) hb bk;have M:=zaa.mk hbox;replace HB:=bN bz hb;clear hb hbox hg;have c9:=aa.out;have da:=ab.out;obtain⟨aV,aW,aX,aY,aZ,a1,a2,a3,a4,a5,a6,a7,a8,a9⟩:=cz7 (W:=w4) B))
 (try simp only[Act.put,List.setIfInBounds_toArray,List.set_cons_zero,List.set_cons_succ])
 go_cut [4,5] (fun v4 v5 wc=> ∃(kq:Nat) (bi:Int) (bj:Int) (A:ByteArray) (D:Int),v4= .int .i64 bi∧v5= .int .i64 bj∧zaa (zap.j0 kq bi bj I J O U E X Y A D=some r)∧zaa (kq≤k)∧zaa (wc.heap[Z]? =some (.cells #[.int .u64 I,.int .i64 J,.int .u64 O,.int .i64 U,.int .i64 E,.bool X,.int .i32 Y] 74 (0,0)))∧zaa (wc.heap[ac]? =some (.cells #[.string A,.int .i64 D] 42 (0,0)))∧zaa (Below w.heap.size w wc))
 case first=>
  have H:=ca.out
  clear ca
  by_cases c7:E<0
  ·replace H:=hE H c7
   have bb:=decide_eq_true c7
   clear c7
   try rw[bb]
   replace H:=bs H
   obtain⟨⟨b3,b4,cb⟩,A8,H⟩:=H
   dsimp only at H
   have H':=zaa.mk H
   clear H
   have db:=aa.out
   have dc:=ab.out
   obtain⟨ag,ah,ai,aj,ak,al,am,an,ao,ap,ar,au,av,aw⟩:=cz7 (W:=w4) B
   go_wp2_with (first|((with_reducible refine zac (f:=35) rfl ?_);refine zal (some 16) rfl rfl Tryz.func35 (by kernel_rfl) rfl #[.int .u64 I,.int .i64 J] rfl lz ?_;(with_reducible refine(zav.calls k I J b3 b4 cb _ A8.out).mono ?_);rintro e cF ⟨rfl,hb⟩;refine⟨_,rfl,?_⟩;replace B:=kN (g:=Z) (cs:=#[.int .u64 I,.int .i64 J,.int .u64 O,.int .i64 U,.int .i64 E,.bool X,.int .i32 Y]) hb bk;replace M:=kN (g:=ac) (cs:=#[.string (⟨#[]⟩:ByteArray),.int .i64 0]) hb bk;replace HB:=bN bz hb;(try clear hb);(try clear bH);(try clear hk);(try clear hi);obtain⟨ax,ay,az,aA⟩:=cz2 (W:=cF) M))
   go_meet
   case rel=>exact⟨_,(21),(6),(b3),(b4),rz,rz,H',⟨by first|omega|exact Nat.le_refl _⟩,⟨bk⟩,⟨bk⟩,⟨bz⟩⟩
  replace H:=hN H c7
  have bb:=decide_eq_false c7
  clear c7
  try rw[bb]
  obtain⟨bc,af⟩: ∃j_:Int,(mx E 1)=j_:=⟨_,rfl⟩
  (first|rw[af] at H|simp only[af] at H)
  (try(have cz:1≤bc:=by(rw[←af];unfold mx;(repeat' split)<;>omega)))
  (try(have cA:0≤bc:=by omega))
  have cB:(if E<1 then 1 else E)=bc:=af
  replace H:=bs H
  obtain⟨⟨bR,bS⟩,cG,H⟩:=H
  dsimp only at H
  replace H:=bs H
  obtain⟨⟨b5,b6,cc⟩,cH,H⟩:=H
  dsimp only at H
  have H':=zaa.mk H
  clear H
  have cI:=aa.out
  have cJ:=ab.out
  obtain⟨aB,aC,aD,aE,aF,aG,aH,aI,aJ,aK,aL,aM,aN,aO⟩:=cz7 (W:=w4) B
  go_wp2_with (first|((with_reducible refine zac (f:=103) rfl ?_);refine zal (some 25) rfl rfl Tryz.func103 (by kernel_rfl) rfl #[.agg #[.int .u64 I,.int .i64 J,.int .u64 O,.int .i64 U,.int .i64 E,.bool X,.int .i32 Y]] rfl lz ?_;(with_reducible refine(zbc.calls k I J O U E X Y bR bS _ cG.out).mono ?_);rintro e de ⟨rfl,hb⟩;refine⟨_,rfl,?_⟩;replace B:=kN (g:=Z) (cs:=#[.int .u64 I,.int .i64 J,.int .u64 O,.int .i64 U,.int .i64 E,.bool X,.int .i32 Y]) hb bk;replace M:=kN (g:=ac) (cs:=#[.string (⟨#[]⟩:ByteArray),.int .i64 0]) hb bk;replace HB:=bN bz hb;(try clear hb);(try clear bH);(try clear hk);(try clear hi))|((with_reducible refine zac (f:=32) rfl ?_);refine zal (some 27) rfl rfl Tryz.func32 (by kernel_rfl) rfl #[.agg #[.string bR,.int .i64 bS],.int .i64 bc] rfl (by(try simp only[List.map_toArray,List.map_cons,List.map_nil]);first|done|(simp only[af];rfl)|rfl|(simp only[List.length_drop,List.length_take];rfl)) ?_;(with_reducible refine(zbp.calls k bR bS bc b5 b6 cc _ cH.out).mono ?_);rintro e cK ⟨rfl,hb⟩;refine⟨_,rfl,?_⟩;replace B:=kN (g:=Z) (cs:=#[.int .u64 I,.int .i64 J,.int .u64 O,.int .i64 U,.int .i64 E,.bool X,.int .i32 Y]) hb bk;replace M:=kN (g:=ac) (cs:=#[.string (⟨#[]⟩:ByteArray),.int .i64 0]) hb bk;replace HB:=bN bz hb;(try clear hb);(try clear bH);(try clear hk);(try clear hi);obtain⟨aP,aQ,aR,aS⟩:=cz2 (W:=cK) M))
  go_meet
  case rel=>exact⟨_,(bc),(bc),(b5),(b6),(by first|rfl|(simp;done)|(simp only[←af]<;>(first|rfl|simp))|(simp[*];done)),(by first|rfl|(simp;done)|(simp only[←af]<;>(first|rfl|simp))|(simp[*];done)),H',⟨by first|omega|exact Nat.le_refl _⟩,⟨bk⟩,⟨bk⟩,⟨bz⟩⟩
 case rest=>
  clear ca
  try clear c7
  try clear bb
  try clear ag ah ai aj ak al am an ao ap ar au av aw
  try clear ax ay az aA
  try clear aB aC aD aE aF aG aH aI aJ aK aL aM aN aO
  try clear aP aQ aR aS
  try clear aV aW aX aY aZ a1 a2 a3 a4 a5 a6 a7 a8 a9
  obtain⟨kq,bi,bj,A,D,rfl,rfl,HA,bL,B,M,HB⟩:=hcut
  cases kq with
  |zero=>exact absurd HA.out (by simp[zap.j0])
  |succ cL=>
   have H:=HA.out
   clear HA
   simp only[zap.j0] at H
   have bU:=zaa.mk H
   clear H
   have cM:=ab.out
   have cN:=aa.out
   obtain⟨bd,be,bf,bg⟩:=cz2 (W:=wc) M
   go_upto_if 33 with(fail)
   go_cut [6] (fun v6 wc=> ∃(kq:Nat) (aT:ByteArray),v6= .string aT∧zaa (zap.j1 kq bi bj aT I J O U E X Y A D=some r)∧zaa (kq≤cL)∧zaa (wc.heap[Z]? =some (.cells #[.int .u64 I,.int .i64 J,.int .u64 O,.int .i64 U,.int .i64 E,.bool X,.int .i32 Y] 74 (0,0)))∧zaa (wc.heap[ac]? =some (.cells #[.string A,.int .i64 D] 42 (0,0)))∧zaa (Below w.heap.size w wc))
   case first=>
    have H:=bU.out
    clear bU
    by_cases bh:A.toList=([]:List UInt8)
    ·replace H:=hE H bh
     have ad:(A.toList==([]:List UInt8))=true:=beq_iff_eq.mpr bh
     have aU:(A.toList !=([]:List UInt8))=false:=bne_eq_false_iff_eq.mpr bh
     have bI:A.toList.isEmpty=true:=by simpa using ad
     clear bh
     try first|rw[ad]|rw[aU]|rw[bI]
     have H':=zaa.mk H
     clear H
     go_wp2
     go_meet
     case rel=>exact⟨_,((⟨#[48]⟩:ByteArray)),rz,H',⟨by have:=bL.out;first|omega|exact Nat.le_refl _⟩,⟨bk⟩,⟨bk⟩,⟨bz⟩⟩
    replace H:=hN H bh
    have ad:(A.toList==([]:List UInt8))=false:=beq_eq_false_iff_ne.mpr bh
    have aU:(A.toList !=([]:List UInt8))=true:=bne_iff_ne.mpr bh
    have bI:A.toList.isEmpty=false:=by simpa using ad
    try first|rw[ad]|rw[aU]|rw[bI]
    have H':=zaa.mk H
    clear H
    go_wp2
    go_meet
    case rel=>exact⟨_,(A),rz,H',⟨by have:=bL.out;first|omega|exact Nat.le_refl _⟩,⟨bk⟩,⟨bk⟩,⟨bz⟩⟩
   case rest=>
    clear bU
    try clear c7
    try clear bb
    try clear bh
    try clear ad
    try clear aU
    try clear ag ah ai aj ak al am an ao ap ar au av aw
    try clear ax ay az aA
    try clear aB aC aD aE aF aG aH aI aJ aK aL aM aN aO
    try clear aP aQ aR aS
    try clear bd be bf bg
    try clear aV aW aX aY aZ a1 a2 a3 a4 a5 a6 a7 a8 a9
    obtain⟨kq,aT,rfl,HA,bK,B,M,HB⟩:=hcut
    cases kq with
    |zero=>exact absurd HA.out (by simp[zap.j1])
    |succ cd=>
     have H:=HA.out
     clear HA
     simp only[zap.j1] at H
     have bV:=zaa.mk H
     clear H
     have cO:=aa.out
     have cP:=ab.out
     obtain⟨bn,bo,bp,bq,br,bu,bv,bw,bA,bB,bC,bD,bE,bG⟩:=cz7 (W:=wc) B
     go_upto_if 35 with(fail)
     go_cut [6] (fun v6 wc=> ∃(kq:Nat) (ae:ByteArray),v6= .string ae∧zaa (zap.j2 kq bi ae I J O U E X Y A D=some r)∧zaa (kq≤cd)∧zaa (wc.heap[Z]? =some (.cells #[.int .u64 I,.int .i64 J,.int .u64 O,.int .i64 U,.int .i64 E,.bool X,.int .i32 Y] 74 (0,0)))∧zaa (wc.heap[ac]? =some (.cells #[.string A,.int .i64 D] 42 (0,0)))∧zaa (Below w.heap.size w wc))
     case first=>
      have H:=bV.out
      clear bV
      by_cases bM:X=true
      ·subst bM
       replace H:=hT H
       replace H:=bs H
       obtain⟨b7,cQ,H⟩:=H
       have H':=zaa.mk H
       clear H
       go_wp2_with (first|((with_reducible refine zac (f:=105) rfl ?_);refine zal (some 38) rfl rfl Tryz.func105 (by kernel_rfl) rfl #[.string aT,.int .i64 bj] rfl lz ?_;(with_reducible refine(za7.calls aT bj b7 _ cQ.out).mono ?_);rintro e df ⟨rfl,hb⟩;refine⟨_,rfl,?_⟩;replace B:=kN (g:=Z) (cs:=#[.int .u64 I,.int .i64 J,.int .u64 O,.int .i64 U,.int .i64 E,.bool true,.int .i32 Y]) hb bk;replace M:=kN (g:=ac) (cs:=#[.string A,.int .i64 D]) hb bk;replace HB:=bN bz hb;(try clear hb);(try clear bH);(try clear hk);(try clear hi)))
       go_meet
       case rel=>exact⟨_,(b7),rz,H',⟨by have:=bL.out;have:=bK.out;first|omega|exact Nat.le_refl _⟩,⟨bk⟩,⟨bk⟩,⟨bz⟩⟩
      replace bM:=Bool.eq_false_iff.mpr bM
      subst bM
      replace H:=hF H
      have H':=zaa.mk H
      clear H
      go_wp2
      go_meet
      case rel=>exact⟨_,(aT),rz,H',⟨by have:=bL.out;have:=bK.out;first|omega|exact Nat.le_refl _⟩,⟨bk⟩,⟨bk⟩,⟨bz⟩⟩
     case rest=>
      clear bV
      try clear c7
      try clear bb
      try clear bh
      try clear ad
      try clear aU
      try clear bM
      try clear ag ah ai aj ak al am an ao ap ar au av aw
      try clear ax ay az aA
      try clear aB aC aD aE aF aG aH aI aJ aK aL aM aN aO
      try clear aP aQ aR aS
      try clear bd be bf bg
      try clear bn bo bp bq br bu bv bw bA bB bC bD bE bG
      try clear aV aW aX aY aZ a1 a2 a3 a4 a5 a6 a7 a8 a9
      obtain⟨kq,ae,rfl,HA,b8,B,M,HB⟩:=hcut
      cases kq with
      |zero=>exact absurd HA.out (by simp[zap.j2])
      |succ ce=>
       have H:=HA.out
       clear HA
       simp only[zap.j2] at H
       replace H:=bs H
       obtain⟨bl,cR,H⟩:=H
       have bW:=zaa.mk H
       clear H
       have cS:=ab.out
       have cT:=aa.out
       obtain⟨bX,bY,bZ,b0⟩:=cz2 (W:=wc) M
       go_upto_region 14 with(first|((with_reducible refine zac (f:=106) rfl ?_);refine zal (some 40) rfl rfl Tryz.func106 (by kernel_rfl) rfl #[.agg #[.string A,.int .i64 D]] rfl lz ?_;(with_reducible refine(zbB.calls A D bl _ cR.out).mono ?_);rintro e dh ⟨rfl,hb⟩;refine⟨_,rfl,?_⟩;replace B:=kN (g:=Z) (cs:=#[.int .u64 I,.int .i64 J,.int .u64 O,.int .i64 U,.int .i64 E,.bool X,.int .i32 Y]) hb bk;replace M:=kN (g:=ac) (cs:=#[.string A,.int .i64 D]) hb bk;replace HB:=bN bz hb;(try clear hb);(try clear bH);(try clear hk);(try clear hi)))
       (try simp only[Act.put,List.setIfInBounds_toArray,List.set_cons_zero,List.set_cons_succ])
       go_cut [47] (fun cV wc=> ∃(kq:Nat) (ba:Bool),cV= .bool ba∧zaa (zap.j3 kq ae bl ba I J O U E X Y A D=some r)∧zaa (kq≤ce)∧zaa (wc.heap[Z]? =some (.cells #[.int .u64 I,.int .i64 J,.int .u64 O,.int .i64 U,.int .i64 E,.bool X,.int .i32 Y] 74 (0,0)))∧zaa (wc.heap[ac]? =some (.cells #[.string A,.int .i64 D] 42 (0,0)))∧zaa (Below w.heap.size w wc))
       case first=>
        have H:=bW.out
        clear bW
        by_cases bJ:bl<(-4)
        ·replace H:=hE H bJ
         have bm:=decide_eq_true bJ
         clear bJ
         try rw[bm]
         have H':=zaa.mk H
         clear H
         go_wp2
         go_meet
         case rel=>exact⟨_,(true),rz,H',⟨by have:=bL.out;have:=bK.out;have:=b8.out;first|omega|exact Nat.le_refl _⟩,⟨bk⟩,⟨bk⟩,⟨bz⟩⟩
        replace H:=hN H bJ
        have bm:=decide_eq_false bJ
        clear bJ
        try rw[bm]
        have H':=zaa.mk H
        clear H
        go_wp2
        go_meet
        case rel=>exact⟨_,(decide (bl≥bi)),rz,H',⟨by have:=bL.out;have:=bK.out;have:=b8.out;first|omega|exact Nat.le_refl _⟩,⟨bk⟩,⟨bk⟩,⟨bz⟩⟩
       case rest=>
        clear bW
        try clear c7
        try clear bb
        try clear bh
        try clear ad
        try clear aU
        try clear bM
        try clear bJ
        try clear bm
        try clear ag ah ai aj ak al am an ao ap ar au av aw
        try clear ax ay az aA
        try clear aB aC aD aE aF aG aH aI aJ aK aL aM aN aO
        try clear aP aQ aR aS
        try clear bd be bf bg
        try clear bn bo bp bq br bu bv bw bA bB bC bD bE bG
        try clear bX bY bZ b0
        try clear aV aW aX aY aZ a1 a2 a3 a4 a5 a6 a7 a8 a9
        obtain⟨kq,ba,rfl,HA,dd,B,M,HB⟩:=hcut
        cases kq with
        |zero=>exact absurd HA.out (by simp[zap.j3])
        |succ cf=>
         have H:=HA.out
         clear HA
         simp only[zap.j3] at H
         by_cases b2:ba=true
         ·subst b2
          replace H:=hT H
          replace H:=bs H
          obtain⟨cg,cW,H⟩:=H
          obtain rfl:=Option.some.inj H
          have cX:=aa.out
          have cY:=ab.out
          obtain⟨ci,cj,ck,cm,cn,co,cp,cq,cr,ct,cu,cv,cw,cx⟩:=cz7 (W:=wc) B
          go_wp2_with (first|((with_reducible refine zac (f:=104) rfl ?_);refine zal (some 51) rfl rfl Tryz.func104 (by kernel_rfl) rfl #[.agg #[.int .u64 I,.int .i64 J,.int .u64 O,.int .i64 U,.int .i64 E,.bool X,.int .i32 Y],.string ae,.int .i64 bl] rfl lz ?_;(with_reducible refine(zar.calls cf I J O U E X Y ae bl cg _ cW.out).mono ?_);rintro e di ⟨rfl,hb⟩;refine⟨_,rfl,?_⟩;replace B:=kN (g:=Z) (cs:=#[.int .u64 I,.int .i64 J,.int .u64 O,.int .i64 U,.int .i64 E,.bool X,.int .i32 Y]) hb bk;replace M:=kN (g:=ac) (cs:=#[.string A,.int .i64 D]) hb bk;replace HB:=bN bz hb;(try clear hb);(try clear bH);(try clear hk);(try clear hi)))
          go_ret
          exact⟨ez,bz⟩
         replace b2:=Bool.eq_false_iff.mpr b2
         subst b2
         replace H:=hF H
         replace H:=bs H
         obtain⟨b1,cZ,H⟩:=H
         replace H:=bs H
         obtain⟨cy,c5,H⟩:=H
         obtain rfl:=Option.some.inj H
         try go_wp2
         replace B:=zaa.mk (zaw B.out)
         replace M:=zaa.mk (zaw M.out)
         replace HB:=zaa.mk (zaT HB.out)
         refine zbo (n:=7) (S:=fun w'=>w'.cell? ⟨Z,0,none⟩=some (.int .u64 I)∧w'.cell? ⟨Z,1,none⟩=some (.int .i64 J)∧w'.cell? ⟨Z,2,none⟩=some (.int .u64 O)∧w'.cell? ⟨Z,3,none⟩=some (.int .i64 U)∧w'.cell? ⟨Z,4,none⟩=some (.int .i64 E)∧w'.cell? ⟨Z,5,none⟩=some (.bool X)∧w'.cell? ⟨Z,6,none⟩=some (.int .i32 Y)∧w'.cell? ⟨ac,0,none⟩=some (.string A)∧w'.cell? ⟨ac,1,none⟩=some (.int .i64 D)) (ds:=[]) #[false,false,false,false,false,false,false] (by kernel_rfl) rfl rfl ⟨(zab B.out 0).trans rfl,(zab B.out 1).trans rfl,(zab B.out 2).trans rfl,(zab B.out 3).trans rfl,(zab B.out 4).trans rfl,(zab B.out 5).trans rfl,(zab B.out 6).trans rfl,(zab M.out 0).trans rfl,(zab M.out 1).trans rfl⟩ (fun hHeld=>?_)
         generalize wc.drew=dj at B M HB hHeld ⊢
         refine zau (i:=1) (N:=some 53) (v:=?_) (a':=?_) #[false,true,false,false,false,false,false] rfl rfl (by kernel_rfl) (fun _ _ _ h=>h) (Or.inl ⟨by rfl,?_⟩) ?_ ?_
         rotate_left
         ·intro w'
          go_simp
          with_reducible rfl
         rotate_left
         ·simp only[Act.put,List.setIfInBounds_toArray,List.set_cons_zero,List.set_cons_succ,zad,zaf]
          rfl
         refine zaW (i:=0) (N:=some 52) (v:=?_) (a':=?_) #[true,true,false,false,false,false,false] rfl rfl (by kernel_rfl) (fun _ _ _ h=>h) (Or.inl ⟨by rfl,?_⟩) hHeld ?_ ?_
         rotate_left
         ·rintro w' ⟨s0,s1,s2,s3,s4,s5,s6,s7,s8⟩
          go_simp
          with_reducible rfl
         rotate_left
         ·simp only[Act.put,List.setIfInBounds_toArray,List.set_cons_zero,List.set_cons_succ,zad,zaf]
          rfl
         refine zaW (i:=2) (N:=some 54) (v:=?_) (a':=?_) #[true,true,true,false,false,false,false] rfl rfl (by kernel_rfl) (fun _ _ _ h=>h) (Or.inl ⟨by rfl,?_⟩) hHeld ?_ ?_
         rotate_left
         ·rintro w' ⟨s0,s1,s2,s3,s4,s5,s6,s7,s8⟩
          go_simp
          with_reducible rfl
         rotate_left
         ·simp only[Act.put,List.setIfInBounds_toArray,List.set_cons_zero,List.set_cons_succ,zad,zaf]
          rfl
         refine one_ (i:=3) (N:=some 55) #[true,true,true,true,false,false,false] rfl rfl (by kernel_rfl) (by decide) (fun K hK=>?_)
         refine za5 Tryz.func106 (by kernel_rfl) rfl #[.agg #[.string A,.int .i64 D]] (by rfl) rfl rfl lz ?_
         with_reducible refine(zbB.calls A D b1 _ cZ.out).mono ?_
         rintro e dk ⟨rfl,hb⟩
         refine⟨_,rfl,?_⟩
         replace B:=zaa.mk (zag (g:=Z) (o:=.cells #[.int .u64 I,.int .i64 J,.int .u64 O,.int .i64 U,.int .i64 E,.bool X,.int .i32 Y] 74 (0,0)) bk hb)
         replace M:=zaa.mk (zag (g:=ac) (o:=.cells #[.string A,.int .i64 D] 42 (0,0)) bk hb)
         replace HB:=zaa.mk (zam bz hb)
         (try clear hb)
         (try clear bH)
         (try clear hk)
         (try clear hi)
         refine hK.out _ _ ⟨(zab B.out 0).trans rfl,(zab B.out 1).trans rfl,(zab B.out 2).trans rfl,(zab B.out 3).trans rfl,(zab B.out 4).trans rfl,(zab B.out 5).trans rfl,(zab B.out 6).trans rfl,(zab M.out 0).trans rfl,(zab M.out 1).trans rfl⟩ (fun hHeld=>?_)
         clear hK K
         refine zaY (a':=?_) ?_ ?_
         rotate_left
         ·show Act.put _ (some 55) _=_
          simp only[Act.put,List.setIfInBounds_toArray,List.set_cons_zero,List.set_cons_succ,zad,zaf]
          rfl
         refine zau (i:=4) (N:=some 56) (v:=?_) (a':=?_) #[true,true,true,true,true,false,false] rfl rfl (by kernel_rfl) (fun _ _ _ h=>h) (Or.inl ⟨by rfl,?_⟩) ?_ ?_
         rotate_left
         ·intro w'
          go_simp
          with_reducible rfl
         rotate_left
         ·simp only[Act.put,List.setIfInBounds_toArray,List.set_cons_zero,List.set_cons_succ,zad,zaf]
          rfl
         refine one_ (i:=5) (N:=some 57) #[true,true,true,true,true,true,false] rfl rfl (by kernel_rfl) (by decide) (fun K hK=>?_)
         refine za5 Tryz.func108 (by kernel_rfl) rfl #[.agg #[.int .u64 I,.int .i64 J,.int .u64 O,.int .i64 U,.int .i64 E,.bool X,.int .i32 Y],.string ae,.int .i64 (wrap64 (b1+1))] (by rfl) rfl rfl lz ?_
         with_reducible refine(zaB.calls I J O U E X Y ae (wrap64 (b1+1)) cy _ c5.out).mono ?_
         rintro e dl ⟨rfl,hb⟩
         refine⟨_,rfl,?_⟩
         replace B:=zaa.mk (zag (g:=Z) (o:=.cells #[.int .u64 I,.int .i64 J,.int .u64 O,.int .i64 U,.int .i64 E,.bool X,.int .i32 Y] 74 (0,0)) bk hb)
         replace M:=zaa.mk (zag (g:=ac) (o:=.cells #[.string A,.int .i64 D] 42 (0,0)) bk hb)
         replace HB:=zaa.mk (zam bz hb)
         (try clear hb)
         (try clear bH)
         (try clear hk)
         (try clear hi)
         refine hK.out _ _ ⟨(zab B.out 0).trans rfl,(zab B.out 1).trans rfl,(zab B.out 2).trans rfl,(zab B.out 3).trans rfl,(zab B.out 4).trans rfl,(zab B.out 5).trans rfl,(zab B.out 6).trans rfl,(zab M.out 0).trans rfl,(zab M.out 1).trans rfl⟩ (fun hHeld=>?_)
         clear hK K
         refine zaY (a':=?_) ?_ ?_
         rotate_left
         ·show Act.put _ (some 57) _=_
          simp only[Act.put,List.setIfInBounds_toArray,List.set_cons_zero,List.set_cons_succ,zad,zaf]
          rfl
         refine zau (i:=6) (N:=some 2) (v:=?_) (a':=?_) #[true,true,true,true,true,true,true] rfl rfl (by kernel_rfl) (fun _ _ _ h=>h) (Or.inl ⟨by rfl,?_⟩) ?_ ?_
         rotate_left
         ·intro w'
          go_simp
          with_reducible rfl
         rotate_left
         ·simp only[Act.put,List.setIfInBounds_toArray,List.set_cons_zero,List.set_cons_succ,zad,zaf]
          rfl
         refine zbx (by kernel_rfl) ?_
         try go_wp2
         go_ret
         exact⟨ez,bz⟩
end Go.Proofs.YtecpgdfnamkfdaaGreatDoor.Fn
end
section
namespace Go.Proofs.YtecpgdfnamkfdaaGreatDoor.Pure
open Go.RowKit Go.Proofs.YtecpgdfnamkfdaaGreatDoorW.PrintWords Go.Proofs.YtecpgdfnamkfdaaGreatDoorW.PrintLast Go.Proofs.YtecpgdfnamkfdaaGreatDoorW.PrintMore Go.Proofs.YtecpgdfnamkfdaaGreatDoor.Fn
set_option linter.unusedVariables false
set_option linter.unusedSimpArgs false
structure Near (v : List UInt8 × Int) : Prop where
  form : InForm v.1 v.2
  len : v.1.length ≤ 1300
  lo : -2600 ≤ v.2
  hi : v.2 ≤ 1400
theorem Near.five{v:List UInt8×Int}(h:Near v):v.1.length≤2000∧ -5000≤v.2∧v.2≤5000:=by
  have:=h.len
  have:=h.lo
  have:=h.hi
  omega
theorem zcZ{m:Nat}(hm:m<18446744073709551616){e:Int}(h: -1200≤e∧e≤1200):Near (exD m e):=by
  have h1:=zb8 hm h
  exact⟨zcj m e,h1.1,by omega,by omega⟩
theorem zdO(b s:Int){m:Nat}(hm:m<18446744073709551616){e:Int}(h: -1200≤e∧e≤1200)(prec v:Int)(dot:Bool):
    Ev (fun k=>zbc.f k b s (m:Int) e prec dot v) (S (exD m e).1,(exD m e).2):=by
  have hx:=zcx m e hm
  rw[zcc m h] at hx
  unfold zbc.f
  exact Ev.bind hx (Ev.now _)
theorem zez{v:List UInt8×Int}(h:Near v)(n:Int):Ev (fun k=>zbp.f k (S v.1) v.2 n) (S (roundN v.1 v.2 n).1,(roundN v.1 v.2 n).2,0):=by
  have hr:=ze6 (S v.1) v.2 n
  have h5:=h.five
  unfold roundS at hr
  rw[zb1 h.form h5.1 h5.2,if_pos rfl] at hr
  simp only[L_S] at hr
  exact hr
theorem zfT{v:List UInt8×Int}(h:Near v){n:Int}(hn: -20000≤n∧n≤20000):Ev (fun k=>zbJ.f k (S v.1) v.2 n) (S (roundN v.1 v.2 (v.2+n)).1,(roundN v.1 v.2 (v.2+n)).2,0):=by
  have hr:=zgm (S v.1) v.2 n
  have h5:=h.five
  unfold roundS at hr
  rw[zb1 h.form h5.1 h5.2,if_pos rfl,show max (-20000) (min n 20000)=n by omega] at hr
  simp only[L_S] at hr
  exact hr
theorem zdy{v:List UInt8×Int}(h:InForm v.1 v.2)(n:Int):InForm (roundN v.1 v.2 n).1 (roundN v.1 v.2 n).2:=by
  unfold roundN
  split
  · exact⟨AllD.nil,fun c t e=>(by cases e),rfl,fun _=>rfl⟩
  · split
    · exact h
    · split<;>exact zbr _ _
theorem zb5{v:List UInt8×Int}(h:Near v)(n:Int):(roundN v.1 v.2 n).1.length≤1300∧ -4000≤(roundN v.1 v.2 n).2∧(roundN v.1 v.2 n).2≤1500:=by
  have h1:=h.len
  have h2:=h.lo
  have h3:=h.hi
  unfold roundN
  by_cases c1:n<0
  · rw[if_pos c1];exact⟨Nat.zero_le _,by decide,by decide⟩
  · rw[if_neg c1]
    by_cases c2:(v.1.length:Int)≤n
    · rw[if_pos c2];exact⟨h1,by omega,by omega⟩
    · rw[if_neg c2]
      have hn:n.toNat<v.1.length:=by omega
      have hv:=zcf (h.form.1.take n.toNat)
      rw[List.length_take,Nat.min_eq_left (Nat.le_of_lt hn)] at hv
      have hp:10^n.toNat≤10^(n.toNat+1):=Nat.pow_le_pow_right (by decide) (Nat.le_succ _)
      have b1:=zbT (n:=val (v.1.take n.toNat)) (m:=n.toNat+1) (by omega) (v.2-n)
      have A:10^n.toNat+1≤10^(n.toNat+1):=by
        rw[Nat.pow_succ]
        have:1≤10^n.toNat:=Nat.pow_pos (by decide)
        omega
      have b2:=zbT (n:=val (v.1.take n.toNat)+1) (m:=n.toNat+1) (by omega) (v.2-n)
      split
      · exact⟨by omega,by omega,by omega⟩
      · exact⟨by omega,by omega,by omega⟩
theorem zgb{l:List UInt8}{n:Int}(h:1≤n):fillL l n≠[]:=by
  intro e
  have:=zbA l n
  rw[e] at this
  simp at this
  omega
theorem zcu{d:List UInt8×Int}(h: -4000≤d.2∧d.2≤1500): -4001≤firstL d∧firstL d≤1500:=by
  unfold firstL
  split<;>omega
def six(prec:Int):Int:=if prec<0 then 6 else prec
theorem zg5(b s:Int){m:Nat}(hm:m<18446744073709551616){e:Int}(h: -1200≤e∧e≤1200){prec:Int}(hp: -1≤prec∧prec≤1000)(v:Int)(dot:Bool):
    Ev (fun k=>zax.f k b s (m:Int) e prec dot v) (S (scaledL dot (bigV v) (exD m e) (six prec))):=by
  have hx:=zcZ hm h
  have key: ∀p:Int,0≤p→p≤1000→Ev (fun k=>zax.j0 k p b s (m:Int) e prec dot v) (S (scaledL dot (bigV v) (exD m e) p)):=by
    intro p p0 p1
    have hb:=zb5 hx (p+1)
    have hfl:=zbA (roundN (exD m e).1 (exD m e).2 (p+1)).1 (p+1)
    have hfb:=zcu (d:=roundN (exD m e).1 (exD m e).2 (p+1)) hb.2
    refine Ev.step (fun k=>by simp only[zax.j0];rfl) ?_
    refine Ev.bind (zdO b s hm h prec v dot) ?_
    rw[w64 (x:=p+1) (by omega) (by omega)]
    refine Ev.bind (zez hx (p+1)) ?_
    unfold scaledL
    generalize roundN (exD m e).1 (exD m e).2 (p+1)=d at*
    obtain⟨l,q⟩:=d
    dsimp only at hb hfl hfb ⊢
    rw[zcn (by omega) (by omega)]
    simp only[Option.bind_some]
    rw[zeg _ (by omega)]
    simp only[Option.bind_some]
    exact Ev.bind (zgW b s (m:Int) e prec v dot (zgb (by omega)) (by omega) (by omega)) (Ev.now _)
  unfold zax.f six
  by_cases c:prec<0
  · rw[if_pos c]
    exact Ev.congr (fun k=>if_pos c) (key 6 (by decide) (by decide))
  · rw[if_neg c]
    exact Ev.congr (fun k=>if_neg c) (key prec (by omega) hp.2)
theorem zhO(b s:Int){m:Nat}(hm:m<18446744073709551616){e:Int}(h: -1200≤e∧e≤1200){prec:Int}(hp: -1≤prec∧prec≤1000)(v:Int)(dot:Bool):
    Ev (fun k=>zat.f k b s (m:Int) e prec dot v) (S (fixedL dot (exD m e) (six prec))):=by
  have hx:=zcZ hm h
  have key: ∀p:Int,0≤p→p≤1000→Ev (fun k=>zat.j0 k p b s (m:Int) e prec dot v) (S (fixedL dot (exD m e) p)):=by
    intro p p0 p1
    have hb:=zb5 hx ((exD m e).2+p)
    refine Ev.step (fun k=>by simp only[zat.j0];rfl) ?_
    refine Ev.bind (zdO b s hm h prec v dot) ?_
    refine Ev.bind (zfT hx (by omega)) ?_
    unfold fixedL
    generalize roundN (exD m e).1 (exD m e).2 ((exD m e).2+p)=d at*
    obtain⟨l,q⟩:=d
    dsimp only at hb ⊢
    by_cases c1:l=[]
    · refine Ev.congr (fun k=>if_pos ((zbY l).2 c1)) ?_
      rw[if_pos c1,zcA (by omega) (by omega)]
      simp only[Option.bind_some]
      rw[show(⟨#[48]⟩:ByteArray)=S [48] from rfl,zca _ _ _ _ _ _ _ (by rw[zbu];simp;omega)]
      exact Ev.now _
    · refine Ev.congr (fun k=>if_neg (fun e=>c1 ((zbY l).1 e))) ?_
      rw[if_neg c1]
      by_cases c2:q≤0
      · refine Ev.congr (fun k=>if_pos c2) ?_
        rw[if_pos c2,w64 (x:= -q) (by omega) (by omega),zcA (by omega) (by omega)]
        simp only[Option.bind_some]
        refine Ev.congr (fun k=>if_pos (by rw[zaE,zaE,zbu];omega)) ?_
        have hfl:=zbA (zsL (-q).toNat++l) p
        rw[List.length_append,zbu] at hfl
        rw[zb7,zcn (by rw[List.length_append,zbu];omega) (by omega)]
        simp only[Option.bind_some]
        rw[show(⟨#[48]⟩:ByteArray)=S [48] from rfl,zca _ _ _ _ _ _ _ (by simp;omega)]
        exact Ev.now _
      · refine Ev.congr (fun k=>if_neg c2) ?_
        have hfl:=zbA l (q+p)
        rw[if_neg c2,w64 (x:=q+p) (by omega) (by omega),zcn (by omega) (by omega)]
        simp only[Option.bind_some]
        rw[ze9 _ _ _ _ _ _ _ (by omega) (by omega)]
        exact Ev.now _
  unfold zat.f six
  by_cases c:prec<0
  · rw[if_pos c]
    exact Ev.congr (fun k=>if_pos c) (key 6 (by decide) (by decide))
  · rw[if_neg c]
    exact Ev.congr (fun k=>if_neg c) (key prec (by omega) hp.2)
theorem zfJ(b s m e prec v:Int)(dot:Bool){d:List UInt8×Int}(hd:d.1.length≤2000∧ -4000≤d.2∧d.2≤1500){keep top:Int}(hk:1≤keep∧keep≤1000):
    Ev (fun k=>zap.j0 k top keep b s m e prec dot v (S d.1) d.2) (S (genL dot (bigV v) d keep top)):=by
  obtain⟨l,q⟩:=d
  dsimp only at hd ⊢
  have hfb:=zcu (d:=(l,q)) hd.2
  have h3: ∀(x:List UInt8),x≠[]→x.length≤5000→Ev (fun k=>zap.j2 k top (S x) b s m e prec dot v (S l) q) (S (if firstL (l,q)< -4∨firstL (l,q)≥top then sciL dot (bigV v) x (firstL (l,q)) else aroundL dot x (firstL (l,q)+1))):=by
    intro x hx hxl
    refine Ev.step (fun k=>by simp only[zap.j2];rfl) ?_
    rw[zeg l (by omega)]
    simp only[Option.bind_some]
    obtain⟨z,hzz⟩: ∃z,firstL (l,q)=z:=⟨_,rfl⟩
    rw[hzz] at hfb ⊢
    have hs:Ev (fun k=>zap.j3 k (S x) z true b s m e prec dot v (S l) q) (S (sciL dot (bigV v) x z)):=by
      refine Ev.step (fun k=>by simp only[zap.j3];rfl) ?_
      refine Ev.congr (fun k=>if_pos trivial) ?_
      exact Ev.bind (zgW b s m e prec v dot hx (by omega) (by omega)) (Ev.now _)
    by_cases c1:z< -4
    · rw[if_pos (.inl c1)]
      exact Ev.congr (fun k=>if_pos c1) hs
    · refine Ev.congr (fun k=>if_neg c1) ?_
      by_cases c2:z≥top
      · rw[if_pos (.inr c2),decide_eq_true c2]
        exact hs
      · rw[if_neg (by omega),decide_eq_false c2]
        refine Ev.step (fun k=>by simp only[zap.j3];rfl) ?_
        refine Ev.congr (fun k=>if_neg (by simp)) ?_
        rw[zeg l (by omega)]
        simp only[Option.bind_some]
        have hz: -100000≤firstL (l,q)+1∧firstL (l,q)+1≤100000:=by have:=zcu (d:=(l,q)) hd.2;omega
        rw[w64 (x:=firstL (l,q)+1) (by omega) (by omega),ze9 b s m e prec v dot (by omega) hz,hzz]
        exact Ev.now _
  have h2: ∀(x:List UInt8),x≠[]→x.length≤2000→Ev (fun k=>zap.j1 k top keep (S x) b s m e prec dot v (S l) q) (S (if firstL (l,q)< -4∨firstL (l,q)≥top then sciL dot (bigV v) (if dot then fillL x keep else x) (firstL (l,q)) else aroundL dot (if dot then fillL x keep else x) (firstL (l,q)+1))):=by
    intro x hx hxl
    refine Ev.step (fun k=>by simp only[zap.j1];rfl) ?_
    cases dot with
    |true=>
      refine Ev.congr (fun k=>if_pos rfl) ?_
      have hfl:=zbA x keep
      rw[zcn (by omega) (by omega)]
      simp only[Option.bind_some]
      exact h3 _ (zgb hk.1) (by omega)
    |false=>
      refine Ev.congr (fun k=>if_neg (by simp)) ?_
      exact h3 x hx (by omega)
  refine Ev.step (fun k=>by simp only[zap.j0];rfl) ?_
  unfold genL
  dsimp only
  by_cases c:l=[]
  · refine Ev.congr (fun k=>if_pos ((zbY l).2 c)) ?_
    rw[if_pos c]
    exact h2 [48] (by simp) (by simp)
  · refine Ev.congr (fun k=>if_neg (fun e=>c ((zbY l).1 e))) ?_
    rw[if_neg c]
    exact h2 l c hd.1
def shortL(wide:Bool)(p:Nat):List UInt8×Int:=if p=0 then([],0) else shortD wide p
def genOf(wide:Bool)(p:Nat)(m:Nat)(e prec:Int)(dot big:Bool):List UInt8:=
  if prec<0 then genL dot big (shortL wide p) 6 21 else genL dot big (roundN (exD m e).1 (exD m e).2 (max prec 1)) (max prec 1) (max prec 1)
theorem zjv(wide:Bool){a p:Nat}(ha:a<18446744073709551616)(hb:bareN wide a=p)(hp:p<ii wide)(hs:(shortL wide p).1.length≤2000∧ -4000≤(shortL wide p).2∧(shortL wide p).2≤1500){m:Nat}(hm:m<18446744073709551616){e:Int}(h: -1200≤e∧e≤1200){prec:Int}(hq: -1≤prec∧prec≤1000)(v:Int)(dot:Bool):
    Ev (fun k=>zap.f k (a:Int) (szB wide) (m:Int) e prec dot v) (S (genOf wide p m e prec dot (bigV v))):=by
  unfold zap.f genOf
  by_cases c:prec<0
  · rw[if_pos c]
    refine Ev.congr (fun k=>if_pos c) ?_
    have hx:=zd4 wide a ha
    have e1:shortS wide a=(S (shortL wide p).1,(shortL wide p).2,0):=by
      unfold shortS shortL
      rw[hb,if_neg (by omega)]
      split<;>rfl
    rw[e1] at hx
    refine Ev.bind hx ?_
    exact zfJ _ _ _ _ _ v dot hs (by decide)
  · rw[if_neg c]
    refine Ev.congr (fun k=>if_neg c) ?_
    have hn:=zcZ hm h
    have hbd:=zb5 hn (max prec 1)
    refine Ev.bind (zdO _ _ hm h prec v dot) ?_
    rw[zc8]
    refine Ev.bind (zez hn (max prec 1)) ?_
    exact zfJ _ _ _ _ _ v dot (by omega) (by omega)
theorem zfK(x j:Nat)(hj:j≤64):shl .u64 (x:Int) (j:Int)=((x*2^j%18446744073709551616:Nat):Int):=by
  unfold shl
  rw[Int.toNat_natCast,show min j (IntKind.u64.bits)=j from Nat.min_eq_left (by simpa [IntKind.bits] using hj),IntKind.wrap_u64]
  rw[show((2:Int)^j)=((2^j:Nat):Int) by simp]
  generalize 2^j=P
  rw[←Int.natCast_mul]
  generalize x*P=y
  omega
def hexEnd(dot up:Bool)(lead ds:List UInt8)(x:Int):List UInt8:=
  if up then Lib.toUpperA ([48,120]++(ptL dot lead ds++powL [112] x 2)) else [48,120]++(ptL dot lead ds++powL [112] x 2)
theorem zdb(b s m e prec v:Int)(dot:Bool){lead ds:List UInt8}{x:Int}(hl:lead.length≤10∧Asc lead)(hd:ds.length≤2000∧Asc ds)(hx: -100000≤x∧x≤100000):
    Ev (fun k=>zai.j4 k (S lead) x (S ds) b s m e prec dot v) (S (hexEnd dot (v==88) lead ds x)):=by
  have h1:=zcb dot lead ds
  have h2:=zcB ([112]:List UInt8) (e:=x) (least:=2) (by decide)
  have ha:Asc ([48,120]++(ptL dot lead ds++powL [112] x 2)):=Asc.app (by decide) ((zcz hl.2 hd.2 dot).app (zdv (by decide) x 2))
  refine Ev.step (fun k=>by simp only[zai.j4];rfl) ?_
  rw[zca b s m e prec v dot (by omega)]
  simp only[Option.bind_some]
  rw[show(⟨#[112]⟩:ByteArray)=S [112] from rfl,zef (by decide) hx (by decide)]
  simp only[Option.bind_some]
  rw[show(⟨#[48,120]⟩:ByteArray)=S [48,120] from rfl,zf4 (by simp at h2 ⊢;omega)]
  simp only[Option.bind_some]
  unfold hexEnd
  by_cases c:v=88
  · refine Ev.congr (fun k=>if_pos c) ?_
    rw[show(v==88)=true from beq_iff_eq.mpr c,if_pos rfl]
    have hu:zbz.f (S ([48,120]++(ptL dot lead ds++powL [112] x 2)))=some (S (Lib.toUpperA ([48,120]++(ptL dot lead ds++powL [112] x 2)))):=by
      unfold zbz.f
      rw[if_pos ⟨by rw[zaE];simp at h2 ⊢;omega,List.all_eq_true.2 (fun c hc=>decide_eq_true (ha c hc))⟩]
      rfl
    rw[hu]
    exact Ev.now _
  · refine Ev.congr (fun k=>if_neg c) ?_
    rw[show(v==88)=false from beq_eq_false_iff_ne.mpr c,if_neg (by simp)]
    exact Ev.now _
def hexUp(lead:List UInt8)(part p:Nat):Prop:=
  9223372036854775808<part*2^(4*p)%18446744073709551616∨(part*2^(4*p)%18446744073709551616=9223372036854775808∧(part / 2^(64-4*p)%2=1∨(p=0∧lead=[49])))
instance (lead : List UInt8) (part p : Nat) : Decidable (hexUp lead part p) := by unfold hexUp; infer_instance
def hexKept(lead:List UInt8)(part p:Nat):Nat:=if hexUp lead part p then part / 2^(64-4*p)+1 else part / 2^(64-4*p)
def hexMid(dot up:Bool)(lead:List UInt8)(part p:Nat)(x:Int):List UInt8:=
  let over:=0<hexKept lead part p / 2^(4*p)
  hexEnd dot up lead (if p=0 then [] else(sixL (if over then 0 else hexKept lead part p*2^(64-4*p)%18446744073709551616)).take p) (if over then x+1 else x)
def hexTail(dot up:Bool)(lead:List UInt8)(part:Nat)(x prec:Int):List UInt8:=
  if prec<0 then hexEnd dot up lead (rz (sixL part)) x else if prec≥16 then hexEnd dot up lead (fillL (sixL part) prec) x else hexMid dot up lead part prec.toNat x
def hexL(m:Nat)(e prec:Int)(dot up:Bool):List UInt8:=
  if m=0 then hexTail dot up [48] 0 0 prec else hexTail dot up [49] (m*2^(64-Lib.bitLen m)%18446744073709551616*2%18446744073709551616) (e+Lib.bitLen m-1) prec
theorem zcW(n:Nat):Asc (sixL n):=(zcV _).app (zfB (by decide) n)
theorem zg6{l:List UInt8}(h:Asc l):Asc (rz l):=by
  obtain⟨k,hk⟩:=zc4 l
  intro c hc
  exact h c (by rw[hk];exact List.mem_append_left _ hc)
theorem zg7(l:List UInt8):(rz l).length≤l.length:=zcl l
theorem zeA(b s m e v:Int)(dot:Bool){lead:List UInt8}(hl:lead=[48]∨lead=[49]){part:Nat}(hp:part≤18446744073709551615){x:Int}(hx: -90000≤x∧x≤90000){prec:Int}(hq: -1≤prec∧prec≤1000):
    Ev (fun k=>zai.j0 k (S lead) (part:Int) x b s m e prec dot v) (S (hexTail dot (v==88) lead part x prec)):=by
  have A:lead.length≤10∧Asc lead:=by rcases hl with rfl|rfl<;>exact⟨by decide,by decide⟩
  have hsl:=zeh hp
  refine Ev.step (fun k=>by simp only[zai.j0];rfl) ?_
  unfold hexTail
  by_cases c1:prec<0
  · refine Ev.congr (fun k=>if_pos c1) ?_
    rw[if_pos c1,zfD hp]
    simp only[Option.bind_some]
    have hr:=zg7 (sixL part)
    rw[trimR _ (by rw[zaE];omega),L_S]
    simp only[Option.bind_some]
    exact zdb b s m e prec v dot A ⟨by omega,zg6 (zcW _)⟩ (by omega)
  · refine Ev.congr (fun k=>if_neg c1) ?_
    rw[if_neg c1]
    by_cases c2:prec≥16
    · refine Ev.congr (fun k=>if_pos c2) ?_
      have hfl:=zbA (sixL part) prec
      rw[if_pos c2,zfD hp]
      simp only[Option.bind_some]
      rw[zcn (by omega) (by omega)]
      simp only[Option.bind_some]
      exact zdb b s m e prec v dot A ⟨by omega,zbX (zcW _) _⟩ (by omega)
    · refine Ev.congr (fun k=>if_neg c2) ?_
      rw[if_neg c2]
      obtain⟨p,rfl⟩: ∃p:Nat,prec=p:=⟨prec.toNat,by omega⟩
      rw[Int.toNat_natCast]
      have O:p<16:=by omega
      have w1:IntKind.u64.wrap (wrap64 (64-wrap64 (4*(p:Int))))=((64-4*p:Nat):Int):=by
        rw[w64 (x:=4*(p:Int)) (by omega) (by omega),w64 (by omega) (by omega),show(64-4*(p:Int))=((64-4*p:Nat):Int) by omega]
        exact u64c _ (by omega)
      have w2:IntKind.u64.wrap (64-((64-4*p:Nat):Int))=((4*p:Nat):Int):=by
        rw[show(64-((64-4*p:Nat):Int))=((4*p:Nat):Int) by omega]
        exact u64c _ (by omega)
      rw[w1,w2]
      refine Ev.congr (fun k=>if_pos (by omega)) ?_
      have hlow: ∀low:Int,low=((part*2^(4*p)%18446744073709551616:Nat):Int)→Ev (fun k=>zai.j1 k (S lead) (part:Int) x (⟨#[]⟩:ByteArray) ((64-4*p:Nat):Int) low b s m e (p:Int) dot v) (S (hexMid dot (v==88) lead part p x)):=by
        intro low hlo
        have hkb:part / 2^(64-4*p)≤18446744073709551615:=Nat.le_trans (Nat.div_le_self _ _) hp
        have J:part / 2^(64-4*p)<2^(4*p):=by
          refine Nat.div_lt_of_lt_mul ?_
          rw[←Nat.pow_add,show 64-4*p+4*p=64 by omega]
          omega
        have hpw:2^(4*p)≤2^60:=Nat.pow_le_pow_right (by decide) (by omega)
        have X:(2:Nat)^60=1152921504606846976:=by decide
        have hsh:=zeu part (64-4*p) (by omega)
        have key: ∀u:Bool,u=decide (hexUp lead part p)→Ev (fun k=>zai.j3 k (S lead) x (⟨#[]⟩:ByteArray) ((64-4*p:Nat):Int) ((part / 2^(64-4*p):Nat):Int) u b s m e (p:Int) dot v) (S (hexMid dot (v==88) lead part p x)):=by
          intro u hu
          unfold hexMid hexKept
          dsimp only
          have fin: ∀(kk:Nat) (y:Int),kk≤18446744073709551615→ -90001≤y∧y≤90001→
              Ev (fun k=>if(p:Int)>0 then(if 0≤((64-4*p:Nat):Int) then((za9.f (shl .u64 (kk:Int) ((64-4*p:Nat):Int))).bind fun B=>(if 0≤(p:Int) then(if(p:Int)≤(B.size:Int) then(zai.j4 k (S lead) y (B.extract 0 ((p:Int)).toNat) b s m e (p:Int) dot v) else none) else none)) else none) else(zai.j4 k (S lead) y (⟨#[]⟩:ByteArray) b s m e (p:Int) dot v))
                (S (hexEnd dot (v==88) lead (if p=0 then [] else(sixL (kk*2^(64-4*p)%18446744073709551616)).take p) y)):=by
            intro kk y hkk hy
            by_cases c0:p=0
            · subst c0
              exact Ev.congr (fun k=>if_neg (by decide)) (zdb (ds:=[]) b s m e _ v dot A ⟨by decide,Asc.nil⟩ (by omega))
            · have D:kk*2^(64-4*p)%18446744073709551616≤18446744073709551615:=by omega
              have U:=zeh D
              refine Ev.congr (fun k=>if_pos (by omega)) ?_
              refine Ev.congr (fun k=>if_pos (by omega)) ?_
              rw[zfK kk (64-4*p) (by omega),zfD D]
              simp only[Option.bind_some]
              refine Ev.congr (fun k=>if_pos (by omega)) ?_
              refine Ev.congr (fun k=>if_pos (by rw[zaE];omega)) ?_
              rw[Int.toNat_natCast,zcH,if_neg c0]
              exact zdb b s m e _ v dot A ⟨by rw[List.length_take];omega,(zcW _).take p⟩ (by omega)
          refine Ev.step (fun k=>by simp only[zai.j3];rfl) ?_
          by_cases cu:hexUp lead part p
          · have E:u=true:=by rw[hu];exact decide_eq_true cu
            subst E
            rw[if_pos cu]
            refine Ev.congr (fun k=>if_pos rfl) ?_
            generalize hK:part / 2^(64-4*p)=K at*
            have I:K+1≤18446744073709551615:=by omega
            have w3:IntKind.u64.wrap ((K:Int)+1)=((K+1:Nat):Int):=by
              rw[show((K:Int)+1)=((K+1:Nat):Int) by omega]
              exact u64c _ I
            rw[w2,w3,zeu (K+1) (4*p) (by omega)]
            refine Ev.congr (fun k=>if_pos (by omega)) ?_
            by_cases co:0<(K+1) / 2^(4*p)
            · refine Ev.congr (fun k=>if_pos (by omega)) ?_
              rw[if_pos co,if_pos co,w64 (x:=x+1) (by omega) (by omega)]
              have:=fin 0 (x+1) (by decide) (by omega)
              rw[Nat.zero_mul,Nat.zero_mod] at this
              exact this
            · refine Ev.congr (fun k=>if_neg (by omega)) ?_
              rw[if_neg co,if_neg co]
              exact fin (K+1) x I (by omega)
          · have E:u=false:=by rw[hu];exact decide_eq_false cu
            subst E
            have hz:part / 2^(64-4*p) / 2^(4*p)=0:=Nat.div_eq_of_lt J
            rw[if_neg cu,hz]
            simp only[Nat.lt_irrefl,if_false]
            refine Ev.congr (fun k=>if_neg (by simp)) ?_
            exact fin _ x hkb (by omega)
        have j2: ∀odd:Bool,odd=decide (part / 2^(64-4*p)%2=1∨(p=0∧lead=[49]))→Ev (fun k=>zai.j2 k (S lead) x (⟨#[]⟩:ByteArray) ((64-4*p:Nat):Int) low ((part / 2^(64-4*p):Nat):Int) odd b s m e (p:Int) dot v) (S (hexMid dot (v==88) lead part p x)):=by
          intro odd hodd
          refine Ev.step (fun k=>by simp only[zai.j2];rfl) ?_
          rw[hlo]
          generalize hW:part*2^(4*p)%18446744073709551616=W at*
          by_cases d1:9223372036854775808<W
          · refine Ev.congr (fun k=>if_pos (by omega)) ?_
            exact key true (by rw[eq_comm];refine decide_eq_true ?_;unfold hexUp;rw[hW];exact .inl d1)
          · refine Ev.congr (fun k=>if_neg (by omega)) ?_
            by_cases d2:W=9223372036854775808
            · refine Ev.congr (fun k=>if_pos (by omega)) ?_
              refine key odd ?_
              rw[hodd]
              refine decide_eq_decide.2 ?_
              unfold hexUp
              rw[hW]
              exact⟨fun h=>.inr ⟨d2,h⟩,fun h=>h.elim (fun h=>absurd h d1) (fun h=>h.2)⟩
            · refine Ev.congr (fun k=>if_neg (by omega)) ?_
              exact key false (by rw[eq_comm];refine decide_eq_false ?_;unfold hexUp;rw[hW];rintro(h|h);exact d1 h;exact d2 h.1)
        refine Ev.step (fun k=>by simp only[zai.j1];rfl) ?_
        refine Ev.congr (fun k=>if_pos (by omega)) ?_
        rw[hsh,show Int.tmod ((part / 2^(64-4*p):Nat):Int) 2=((part / 2^(64-4*p)%2:Nat):Int) from tmodN _ 2]
        by_cases d:part / 2^(64-4*p)%2=1
        · refine Ev.congr (fun k=>if_pos (by omega)) ?_
          exact j2 true (by rw[eq_comm];exact decide_eq_true (.inl d))
        · refine Ev.congr (fun k=>if_neg (by omega)) ?_
          by_cases d0:p=0
          · refine Ev.congr (fun k=>if_pos (by omega)) ?_
            refine j2 _ ?_
            rw[zby,L_S,Bool.eq_iff_iff]
            simp[d0]
            intro h
            subst d0
            exact absurd h d
          · refine Ev.congr (fun k=>if_neg (by omega)) ?_
            exact j2 false (by rw[eq_comm];refine decide_eq_false ?_;rintro(h|h);exact d h;exact d0 h.1)
      by_cases c4:((64-4*p:Nat):Int)=64
      · have M:p=0:=by omega
        refine Ev.congr (fun k=>if_pos c4) ?_
        exact hlow _ (by subst M;simp;omega)
      · refine Ev.congr (fun k=>if_neg c4) ?_
        exact hlow _ (zfK part (4*p) (by omega))
theorem bitLen_le: ∀(f x:Nat),Lib.bitLenAux f x≤f
  |0,_=>Nat.le_refl _
  |f+1,x=>by
    unfold Lib.bitLenAux
    split
    · exact Nat.zero_le _
    · have:=bitLen_le f (x / 2);omega
theorem zjw(b s v:Int)(dot:Bool){m:Nat}(hm:m<18446744073709551616){e:Int}(h: -1200≤e∧e≤1200){prec:Int}(hq: -1≤prec∧prec≤1000):
    Ev (fun k=>zai.f k b s (m:Int) e prec dot v) (S (hexL m e prec dot (v==88))):=by
  unfold zai.f hexL
  by_cases c:m=0
  · rw[if_pos c]
    refine Ev.congr (fun k=>if_neg (by omega)) ?_
    exact zeA (lead:=[48]) (part:=0) b s (m:Int) e v dot (.inl rfl) (by decide) (by decide) hq
  · rw[if_neg c]
    refine Ev.congr (fun k=>if_pos (by omega)) ?_
    have hb:=bitLen_le 64 m
    have hL:bits_Len64.f (m:Int)=some (Lib.bitLen m:Int):=by
      unfold bits_Len64.f
      rw[if_pos ⟨by omega,by omega⟩,Int.toNat_natCast]
    rw[hL]
    simp only[Option.bind_some]
    change Lib.bitLen m≤64 at hb
    generalize Lib.bitLen m=n at*
    rw[w64 (x:=64-(n:Int)) (by omega) (by omega)]
    refine Ev.congr (fun k=>if_pos (by omega)) ?_
    rw[show(64-(n:Int))=((64-n:Nat):Int) by omega,zfK m (64-n) (by omega),w64 (x:=e+(n:Int)) (by omega) (by omega),w64 (by omega) (by omega)]
    have w:IntKind.u64.wrap (((m*2^(64-n)%18446744073709551616:Nat):Int)*2)=((m*2^(64-n)%18446744073709551616*2%18446744073709551616:Nat):Int):=by
      rw[IntKind.wrap_u64]
      generalize m*2^(64-n)=y
      omega
    rw[w]
    exact zeA (lead:=[49]) b s (m:Int) e v dot (.inr rfl) (by omega) (by omega) hq
end Go.Proofs.YtecpgdfnamkfdaaGreatDoor.Pure
end
section
namespace Go.Proofs.YtecpgdfnamkfdaaGreatDoor.Pure
open Go.RowKit Go.Proofs.YtecpgdfnamkfdaaGreatDoorW.PrintWords Go.Proofs.YtecpgdfnamkfdaaGreatDoor.Fn
set_option linter.unusedVariables false
set_option linter.unusedSimpArgs false
theorem zhP(wide:Bool)(n:Nat){e:Int}(he: -(vv:Int)≤e):dX wide (val (decOf n e).1) ((decOf n e).2-(decOf n e).1.length)=dX wide n e:=by
  by_cases h:n=0
  · subst h
    rw[zb9]
    unfold dX
    rw[zbl,Nat.zero_mul,Nat.zero_mul,Nat.zero_mul,Nat.zero_mul]
  · have h1:=zcy n e
    have h2:=zcK h e
    unfold sv at h1
    generalize (decOf n e).2-((decOf n e).1.length:Int)=x at*
    obtain⟨j,rfl⟩: ∃j:Nat,x=e+j:=⟨(x-e).toNat,by omega⟩
    have e1:(e+(j:Int)-e).toNat=j:=by omega
    have e2:(e+(j:Int)+(vv:Int)).toNat=j+(e+(vv:Int)).toNat:=by omega
    rw[e1] at h1
    unfold dX
    rw[e2,Nat.pow_add,←Nat.mul_assoc,h1]
theorem ziP(wide:Bool){n k:Nat}{e:Int}(h:n<10^k)(hk:k≤1400)(he: -3000≤e)(h2:e+k≤3000):rdS wide (S (decOf n e).1) (decOf n e).2=((rdX wide (dX wide n e):Int),0):=by
  have hb:=zcM h hk he h2
  have hv:=zb2
  unfold rdS
  rw[zb1 (zbr n e) hb.1 hb.2,if_pos rfl]
  simp only[L_S]
  rw[zhP wide n (by omega)]
theorem zhQ(wide:Bool){l:List UInt8}{q:Int}(hf:InForm l q)(h5:l.length≤2000∧ -5000≤q∧q≤5000):rdS wide (S l) q=((rdX wide (dX wide (val l) (q-l.length)):Int),0):=by
  unfold rdS
  rw[zb1 hf h5.1 h5.2,if_pos rfl]
  simp only[L_S]
theorem cand{wide:Bool}{p:Nat}{v:List UInt8×Int}(hv:Val wide p v){n:Nat}(hn:n<v.1.length):
    cU v n<10^n∧cU v n+1<10^(n+1)∧n≤1400∧n+1≤1400∧ -3000≤cE v n∧cE v n+(n:Int)≤3000∧cE v n+((n+1:Nat):Int)≤3000:=by
  have hl:=hv.len
  have hlo:=hv.lo
  have hhi:=hv.hi
  have hu:=zgq hv n hn
  refine⟨hu,?_,by omega,by omega,by unfold cE;omega,by unfold cE;omega,by unfold cE;omega⟩
  rw[Nat.pow_succ]
  have:1≤10^n:=Nat.pow_pos (by omega)
  omega
theorem zdP(wide:Bool)(p:Nat)(v:List UInt8×Int)(d n:Nat):shortGo wide p v (d+1) n=(bestD wide p v n).getD (shortGo wide p v d (n+1)):=by
  conv=>lhs;unfold shortGo
  cases bestD wide p v n<;>rfl
theorem ziQ: ∃p,p+1=4591870180066957722∧p<9218868437227405312∧fW 52 p*20≤2^1075∧2^1075<fW 52 (p+1)*20∧(fW 52 p+fW 52 (p+1))*10<2^1075:=⟨4591870180066957721,by decide+kernel⟩
theorem ziR(wide:Bool):dX wide 1 (-1)*10=CC*2^uu wide:=by
  have hv:=zb2
  obtain⟨u,hu⟩: ∃u,vv=u+1:=⟨vv-1,by omega⟩
  unfold dX CC
  rw[hu,show(-1+((u+1:Nat):Int)).toNat=u by omega,Nat.pow_succ,Nat.one_mul]
  rw[Nat.mul_assoc,Nat.mul_comm (2^uu wide),←Nat.mul_assoc]
theorem zeP{a X C L:Nat}(hX:X*10=C*L)(hC:0<C):(a*(2*C)≤X↔a*20≤L)∧(X<a*(2*C)↔L<a*20)∧(a*C<X↔a*10<L):=by
  have e1:a*(2*C)*10=C*(a*20):=by
    rw[show(20:Nat)=2*10 from rfl]
    simp only[Nat.mul_assoc,Nat.mul_comm,Nat.mul_left_comm]
  have e2:a*C*10=C*(a*10):=by simp only[Nat.mul_assoc,Nat.mul_comm,Nat.mul_left_comm]
  refine⟨?_,?_,?_⟩
  · rw[←Nat.mul_le_mul_right_iff (show 0<10 by decide),e1,hX,Nat.mul_le_mul_left_iff hC]
  · rw[←Nat.mul_lt_mul_right (show 0<10 by decide),e1,hX,Nat.mul_lt_mul_left hC]
  · rw[←Nat.mul_lt_mul_right (show 0<10 by decide),e2,hX,Nat.mul_lt_mul_left hC]
theorem zgr:rdX true (dX true 1 (-1))=4591870180066957722:=by
  obtain⟨p,hp,hi,w1,w2,w3⟩:=ziQ
  have hX:=ziR true
  have hu:uu true=1075:=rfl
  have hf:ff true=52:=rfl
  have hii:ii true=9218868437227405312:=rfl
  obtain⟨L,hL⟩: ∃L,2^1075=L:=⟨_,rfl⟩
  rw[hu,hL] at hX
  rw[hL] at w1 w2 w3
  have hfl:fFloor (ff true) (ii true) (dX true 1 (-1)) (2*CC) p:=by
    rw[hf,hii]
    exact⟨Nat.le_of_lt hi,(zeP hX zct).1.2 w1,fun _=>(zeP hX zct).2.1.2 w2⟩
  rw[zfn true hfl,if_neg (by omega),hf,if_pos (.inl ((zeP hX zct).2.2.2 w3))]
  exact hp
def tenthL:List UInt8:=[49,48,48,48,48,48,48,48,48,48,48,48,48,48,48,48,48,53,53,53,49,49,49,53,49,50,51,49,50,53,55,56,50,55,48,50,49,49,56,49,53,56,51,52,48,52,53,52,49,48,49,53,54,50,53]
theorem ziS:exV true 4591870180066957722=(tenthL,0):=by decide+kernel
theorem zfU:shortD true 4591870180066957722=([49],0):=by
  unfold shortD
  rw[ziS]
  have hl:tenthL.length=54+1:=by decide
  show shortGo true _ (tenthL,0) tenthL.length 1=_
  have hn:nearU (tenthL,0) 1=1:=by decide+kernel
  have hE:cE (tenthL,0) 1= -1:=by unfold cE;rfl
  have hb:bestD true 4591870180066957722 (tenthL,0) 1=some ([49],0):=by
    unfold bestD
    rw[if_neg (by rw[hl];decide),hn,hE,if_pos (show isP true 4591870180066957722 1 (-1) from zgr)]
    rfl
  rw[hl,zdP,hb]
  rfl
theorem wf_u64{a:Int}(h:(Lit.int .u64 a).wf=true): ∃n:Nat,a=n∧n<18446744073709551616:=by
  have h2:0≤a∧a<18446744073709551616:=by
    simp[Lit.wf,IntKind.min,IntKind.max,IntKind.bits,IntKind.signed] at h
    omega
  exact⟨a.toNat,by omega,by omega⟩
theorem zfL(wide:Bool){p:Nat}(hp:p<ii wide):bareN wide p=p:=by
  have:=(zcE wide).2.1
  exact Nat.mod_eq_of_lt (by omega)
theorem zig(wide:Bool){p:Nat}(hp:p<ii wide):dX wide (val (exV wide p).1) ((exV wide p).2-(exV wide p).1.length)=fW (ff wide) p*(2*CC):=by
  have hv:=zco wide hp
  have h1:=hv.len
  have h2:=hv.lo
  have h3:=zb2
  have hc:=zd3 wide (Nat.le_of_lt hp) (l:=(exV wide p).1) (q:=(exV wide p).2) hv.form (by omega)
  have h0:cmpD (exV wide p).1 (exV wide p).2 (exV wide p).1 (exV wide p).2=0:=by
    unfold cmpD
    exact ze1 _
  have A:cmpD (exV wide p).1 (exV wide p).2 (exV wide p).1 (exV wide p).2=cmpN (fW (ff wide) p*(2*CC)) (dX wide (val (exV wide p).1) ((exV wide p).2-(exV wide p).1.length)):=hc
  rw[h0] at A
  exact((zda _ _).1 A.symm).symm
theorem zhR(wide:Bool){p:Nat}(hp:p<ii wide):rdX wide (fW (ff wide) p*(2*CC))=p:=by
  have hC:=zct
  have m:=zdd (zfk (f:=ff wide) (Nat.lt_succ_self p)) hC
  simp only[Nat.succ_eq_add_one] at m
  have hfl:fFloor (ff wide) (ii wide) (fW (ff wide) p*(2*CC)) (2*CC) p:=⟨Nat.le_of_lt hp,Nat.le_refl _,fun _=>Nat.lt_trans m.1 m.2⟩
  rw[zfn wide hfl,if_neg (Nat.ne_of_lt hp),if_neg]
  rintro(h|h)
  · exact Nat.lt_asymm h m.1
  · exact absurd h.1 (Nat.ne_of_lt m.1)
theorem zeB(wide:Bool){p:Nat}(hp:p<ii wide):rdS wide (S (exV wide p).1) (exV wide p).2=((p:Int),0):=by
  have hv:=zco wide hp
  rw[zhQ wide hv.form hv.five,zig wide hp,zhR wide hp]
theorem ziT(wide:Bool)(p:Nat)(v:List UInt8×Int): ∀d n,v.1.length≤n+d→ ∃N,n≤N∧bestD wide p v N=some (shortGo wide p v d n)∧ ∀j,n≤j→j<N→bestD wide p v j=none:=by
  intro d
  induction d with
  |zero=>
    intro n h
    exact⟨n,Nat.le_refl _,zei wide p v h,fun j h1 h2=>absurd h1 (Nat.not_le.2 h2)⟩
  |succ d ih=>
    intro n h
    rw[zdP]
    cases hb:bestD wide p v n with
    |some r=>exact⟨n,Nat.le_refl _,hb,fun j h1 h2=>absurd h1 (Nat.not_le.2 h2)⟩
    |none=>
      obtain⟨N,h1,h2,h3⟩:=ih (n+1) (by omega)
      refine⟨N,by omega,h2,fun j h4 h5=>?_⟩
      by_cases c:j=n
      · rw[c];exact hb
      · exact h3 j (by omega) h5
theorem zdz(wide:Bool)(p:Nat): ∃N,1≤N∧bestD wide p (exV wide p) N=some (shortD wide p)∧ ∀j,1≤j→j<N→bestD wide p (exV wide p) j=none:=
  ziT wide p (exV wide p) (exV wide p).1.length 1 (Nat.le_add_left _ _)
theorem zdQ{wide:Bool}{p:Nat}{v d:List UInt8×Int}{n:Nat}(h:bestD wide p v n=some d):(v.1.length≤n∧d=v)∨(n<v.1.length∧ ∃u,(u=cU v n∨u=cU v n+1)∧d=decOf u (cE v n)∧isP wide p u (cE v n)):=by
  unfold bestD at h
  by_cases c1:v.1.length≤n
  · rw[if_pos c1] at h
    exact .inl ⟨c1,(Option.some.inj h).symm⟩
  · rw[if_neg c1] at h
    refine .inr ⟨Nat.lt_of_not_le c1,?_⟩
    by_cases c2:isP wide p (nearU v n) (cE v n)
    · rw[if_pos c2] at h
      exact⟨_,zfb v n,(Option.some.inj h).symm,c2⟩
    · rw[if_neg c2] at h
      by_cases c3:isP wide p (cU v n) (cE v n)
      · rw[if_pos c3] at h
        exact⟨_,.inl rfl,(Option.some.inj h).symm,c3⟩
      · rw[if_neg c3] at h
        by_cases c4:isP wide p (cU v n+1) (cE v n)
        · rw[if_pos c4] at h
          exact⟨_,.inr rfl,(Option.some.inj h).symm,c4⟩
        · rw[if_neg c4] at h
          cases h
theorem zg8{wide:Bool}{p:Nat}{v:List UInt8×Int}{n:Nat}(h:bestD wide p v n=none):n<v.1.length∧ ¬isP wide p (nearU v n) (cE v n)∧ ¬isP wide p (cU v n) (cE v n)∧ ¬isP wide p (cU v n+1) (cE v n):=by
  unfold bestD at h
  by_cases c1:v.1.length≤n
  · rw[if_pos c1] at h;cases h
  · rw[if_neg c1] at h
    refine⟨Nat.lt_of_not_le c1,?_⟩
    by_cases c2:isP wide p (nearU v n) (cE v n)
    · rw[if_pos c2] at h;cases h
    · rw[if_neg c2] at h
      by_cases c3:isP wide p (cU v n) (cE v n)
      · rw[if_pos c3] at h;cases h
      · rw[if_neg c3] at h
        by_cases c4:isP wide p (cU v n+1) (cE v n)
        · rw[if_pos c4] at h;cases h
        · exact⟨c2,c3,c4⟩
theorem ziU{u n:Nat}{e:Int}(h:u≤10^n)(hn:1≤n):(decOf u e).1.length≤n:=by
  by_cases c:u<10^n
  · exact(zbT c e).1
  · have e1:u=1*10^n:=by omega
    have h2:=zcg 1 n (e+n)
    rw[Int.add_sub_cancel] at h2
    rw[e1,h2]
    exact Nat.le_trans (zbT (n:=1) (m:=1) (by decide) (e+n)).1 hn
theorem zhS{wide:Bool}{p:Nat}{v d:List UInt8×Int}(hv:Val wide p v){n:Nat}(hn:1≤n)(h:bestD wide p v n=some d):d.1.length≤n:=by
  rcases zdQ h with⟨h1,rfl⟩|⟨h1,u,h2,rfl,_⟩
  · exact h1
  · have:=(cand hv h1).1
    exact ziU (by rcases h2 with h2|h2<;>omega) hn
theorem zg9{wide:Bool}{p:Nat}{d:List UInt8×Int}(hp:p<ii wide){n:Nat}(h:bestD wide p (exV wide p) n=some d):rdS wide (S d.1) d.2=((p:Int),0):=by
  have hv:=zco wide hp
  rcases zdQ h with⟨h1,rfl⟩|⟨h1,u,h2,rfl,h3⟩
  · exact zeB wide hp
  · obtain⟨g1,g2,g3,g4,g5,g6,g7⟩:=cand hv h1
    have hu:u<10^(n+1):=by
      have:10^n≤10^(n+1):=Nat.pow_le_pow_right (by decide) (Nat.le_succ n)
      rcases h2 with h2|h2<;>omega
    rw[ziP wide hu g4 g5 g7]
    rw[show rdX wide (dX wide u (cE (exV wide p) n))=p from h3]
theorem zhT{l:List UInt8}{q:Int}(hall:AllD l)(h0:zcr l)(hq: -1200≤q)(hL:l.length≤1300)(wide:Bool){n:Nat}(hn:n<l.length)(h1:1≤n):
    ∃U,2*dX wide (val l) (q-l.length)≤2*dX wide (nearU (l,q) n) (cE (l,q) n)+U∧2*dX wide (nearU (l,q) n) (cE (l,q) n)≤2*dX wide (val l) (q-l.length)+U∧U*10^(n-1)≤dX wide (val l) (q-l.length):=by
  have hvv:=zb2
  have hcut:=zjp (a:=l) (Nat.le_of_lt hn)
  have hge:=zgJ hall h0 (by intro e;rw[e] at hn;exact absurd hn (Nat.not_lt_zero _))
  obtain⟨j,hj⟩: ∃j:Nat,q-(l.length:Int)+(vv:Int)=(j:Int):=⟨(q-(l.length:Int)+(vv:Int)).toNat,by omega⟩
  have e1:(q-(l.length:Int)+(vv:Int)).toNat=j:=by omega
  have e2:(cE (l,q) n+(vv:Int)).toNat=(l.length-n)+j:=by show(q-(n:Int)+(vv:Int)).toNat=_;omega
  have e3:l.length-1=(n-1)+(l.length-n):=by omega
  rw[e3,Nat.pow_add] at hge
  have hdn:(downP l n→2*val (l.drop n)≤10^(l.length-n))∧(¬downP l n→10^(l.length-n)≤2*val (l.drop n)):=by
    unfold downP
    constructor
    · rintro(h|h)
      · exact Nat.le_of_lt h
      · exact Nat.le_of_eq h.1
    · intro h
      exact Nat.le_of_not_lt fun h2=>h (.inl h2)
  have hY: ∀u:Nat,dX wide u (cE (l,q) n)=u*10^(l.length-n)*(10^j*2^uu wide):=fun u=>by
    unfold dX
    rw[e2,Nat.pow_add]
    simp only[Nat.mul_assoc]
  have hV:dX wide (val l) (q-l.length)=val l*(10^j*2^uu wide):=by
    unfold dX
    rw[e1,Nat.mul_assoc]
  rw[hY,hV,hcut]
  generalize 10^j*2^uu wide=w at*
  rw[hcut] at hge
  have hcU:nearU (l,q) n=if downP l n then val (l.take n) else val (l.take n)+1:=rfl
  rw[hcU]
  have hrT:val (l.drop n)<10^(l.length-n):=by
    have:=zcf (hall.drop n)
    rw[List.length_drop] at this
    exact this
  generalize 10^(l.length-n)=T at*
  generalize val (l.drop n)=r at*
  generalize val (l.take n)=c at*
  generalize 10^(n-1)=N at*
  refine⟨T*w,?_,?_,?_⟩
  · by_cases d:downP l n
    · rw[if_pos d]
      have:=Nat.mul_le_mul_right w (hdn.1 d)
      have a1:=Nat.add_mul (c*T) r w
      have a2:=Nat.mul_assoc 2 r w
      omega
    · rw[if_neg d]
      have a1:=Nat.add_mul (c*T) r w
      have a3:(c+1)*T*w=c*T*w+T*w:=by rw[Nat.add_mul,Nat.one_mul,Nat.add_mul]
      have:=Nat.mul_le_mul_right w (Nat.le_of_lt hrT)
      omega
  · by_cases d:downP l n
    · rw[if_pos d]
      have a1:=Nat.add_mul (c*T) r w
      omega
    · rw[if_neg d]
      have:=Nat.mul_le_mul_right w (hdn.2 d)
      have a1:=Nat.add_mul (c*T) r w
      have a2:=Nat.mul_assoc 2 r w
      have a3:(c+1)*T*w=c*T*w+T*w:=by rw[Nat.add_mul,Nat.one_mul,Nat.add_mul]
      omega
  · have:=Nat.mul_le_mul_right w hge
    rw[Nat.mul_comm (T*w),←Nat.mul_assoc]
    exact this
theorem zhU{V Y U G N m C lo hi:Nat}(h1:2*V≤2*Y+U)(h2:2*Y≤2*V+U)(h3:U*N≤V)(hV:V=2*(m*G))(hN:2*m≤2*N∧0<N)(hm:m<N)(hG:0<G):U<2*G:=by
  refine Nat.lt_of_not_le fun c=>?_
  have h4:2*G*N≤U*N:=Nat.mul_le_mul_right _ c
  have h5:m*G<N*G:=Nat.mul_lt_mul_of_pos_right hm hG
  have h6:2*G*N=2*(N*G):=by rw[Nat.mul_assoc,Nat.mul_comm G N]
  omega
theorem zdA(wide:Bool){p:Nat}(hp:p<ii wide):shortS wide p=if p=0 then(⟨#[]⟩,0,0) else(S (shortD wide p).1,(shortD wide p).2,0):=by
  unfold shortS
  rw[zfL wide hp,if_neg (by omega)]
theorem zjx{V Y U g A B:Nat}(h1:2*V≤2*Y+U)(h2:2*Y≤2*V+U)(hU:U<2*g)(hA:V=A+g)(hB:V+g≤B):A<Y∧Y<B:=by omega
theorem zjy{a b w C:Nat}(h:a+w=b):b*(2*C)=(a+b)*C+w*C:=by
  subst h
  rw[←Nat.add_mul,Nat.mul_comm 2 C,←Nat.mul_assoc,Nat.mul_comm _ 2,←Nat.mul_assoc,show 2*(a+w)=a+(a+w)+w by omega]
theorem zjz{b c w g C:Nat}(h:c=b+w)(hg:g≤w):b*(2*C)+g*C≤(b+c)*C:=by
  subst h
  have h1:b*(2*C)=2*b*C:=by rw[←Nat.mul_assoc,Nat.mul_comm b 2]
  rw[h1,←Nat.add_mul]
  exact Nat.mul_le_mul_right C (by omega)
theorem ziV(wide:Bool){p:Nat}(hp:0<p)(hi:p<ii wide){n:Nat}(hn:n<(exV wide p).1.length)(h1:1≤n)(hN:2^(ff wide+1)<10^(n-1)):isP wide p (nearU (exV wide p) n) (cE (exV wide p) n):=by
  have hv:=zco wide hi
  obtain⟨U,u1,u2,u3⟩:=zhT (l:=(exV wide p).1) (q:=(exV wide p).2) hv.form.1 hv.form.2.1 hv.lo hv.len wide hn h1
  rw[zig wide hi] at u1 u2 u3
  unfold isP
  rw[←zf8 wide hp hi]
  refine .inl ?_
  unfold loX hiX
  change 2*_≤2*dX wide (nearU (exV wide p) n) (cE (exV wide p) n)+U at u1
  change 2*dX wide (nearU (exV wide p) n) (cE (exV wide p) n)≤_ at u2
  generalize dX wide (nearU (exV wide p) n) (cE (exV wide p) n)=Y at*
  generalize 10^(n-1)=N at*
  have hC:=zct
  have hs:=zcU (ff wide) p
  have hq:=zeO (f:=ff wide) hp
  have hm:=zfj (ff wide) p
  have hW:fW (ff wide) p=fM (ff wide) p*2^fE (ff wide) p:=rfl
  obtain⟨m,hVm,hmN,hle⟩: ∃m,fW (ff wide) p=m*2^fE (ff wide) (p-1)∧m<N∧2^fE (ff wide) (p-1)≤2^fE (ff wide) p:=by
    by_cases c:fM (ff wide) p≠2^ff wide∨fE (ff wide) p=0
    · have e:=zf9 hp c
      rw[e]
      exact⟨_,hW,Nat.lt_trans hm hN,Nat.le_refl _⟩
    · have c1:fM (ff wide) p=2^ff wide:=Classical.byContradiction fun h=>c (.inl h)
      have c2:fE (ff wide) p≠0:=fun h=>c (.inr h)
      have e:=zfH c1 c2
      refine⟨2^(ff wide+1),?_,hN,Nat.pow_le_pow_right (by decide) (by omega)⟩
      rw[hW,c1,←e,Nat.pow_succ 2 (fE _ _),Nat.pow_succ 2 (ff wide),←Nat.mul_assoc,Nat.mul_right_comm]
  have hg:0<2^fE (ff wide) (p-1)*CC:=Nat.mul_pos (zbV _) hC
  have hV:fW (ff wide) p*(2*CC)=2*(m*(2^fE (ff wide) (p-1)*CC)):=by
    rw[hVm,Nat.mul_comm 2 CC,←Nat.mul_assoc,Nat.mul_comm _ 2,Nat.mul_assoc m]
  have hU:=zhU (C:=0) (lo:=0) (hi:=0) u1 u2 u3 hV ⟨by omega,by omega⟩ hmN hg
  have hA:=zjy (C:=CC) hq
  have hB:=zjz (C:=CC) hs hle
  exact zjx u1 u2 hU hA hB
theorem zjA(wide:Bool):2^(ff wide+1)<10^((if wide then 17 else 9)-1):=by cases wide<;>decide
theorem zha(wide:Bool){p:Nat}(hp:p<ii wide)(h0:p≠0):(shortD wide p).1.length≤if wide then 17 else 9:=by
  obtain⟨n,hn⟩: ∃n:Nat,(if wide then 17 else 9)=n:=⟨_,rfl⟩
  have hpow:=zjA wide
  rw[hn] at hpow ⊢
  have A:1≤n:=by rw[←hn];cases wide<;>decide
  obtain⟨M,h1,h2,h3⟩:=zdz wide p
  have hle:M≤n:=by
    refine Nat.le_of_not_lt fun c=>?_
    have h4:=zg8 (h3 n A c)
    exact h4.2.1 (ziV wide (Nat.pos_of_ne_zero h0) hp h4.1 A hpow)
  exact Nat.le_trans (zhS (zco wide hp) h1 h2) hle
theorem zhb(wide:Bool):rdS wide (⟨#[]⟩:ByteArray) 0=(0,0):=by
  have h:=zco wide (p:=0) (by cases wide<;>decide)
  have h2:=zeB wide (p:=0) (by cases wide<;>decide)
  have e:exV wide 0=([],0):=by
    unfold exV exD
    rw[show fM (ff wide) 0=0 by cases wide<;>rfl,Nat.zero_mul]
    rfl
  rw[e] at h2
  exact h2
theorem zhc(wide:Bool){p:Nat}(hp:p<ii wide):rdS wide (shortS wide p).1 (shortS wide p).2.1=((p:Int),0):=by
  rw[zdA wide hp]
  by_cases c:p=0
  · rw[if_pos c,c];exact zhb wide
  · rw[if_neg c]
    obtain⟨M,h1,h2,h3⟩:=zdz wide p
    exact zg9 hp h2
theorem zgs(wide:Bool){p:Nat}(hp:p<ii wide):(shortS wide p).1.size≤if wide then 17 else 9:=by
  rw[zdA wide hp]
  by_cases c:p=0
  · rw[if_pos c];exact Nat.zero_le _
  · rw[if_neg c]
    show(S (shortD wide p).1).size≤_
    rw[zaE]
    exact zha wide hp c
end Go.Proofs.YtecpgdfnamkfdaaGreatDoor.Pure
end
section
namespace Go.Proofs.YtecpgdfnamkfdaaGreatDoor.Fn
open Go.RowKit Go.Proofs.YtecpgdfnamkfdaaGreatDoorW.PrintWords Go.Proofs.YtecpgdfnamkfdaaGreatDoorW.PrintLast Go.Proofs.YtecpgdfnamkfdaaGreatDoorW.PrintMore
attribute [local go_sem] fnW_0 fnW_1 fnW_2 fnW_3 fnW_4 fnW_5 fnW_guard fnW_eql zaK zaL zaQ zaR
set_option linter.unusedVariables false
set_option linter.unusedSimpArgs false
mutual
def zah.j0:Nat→Int→Int→Bool→Int→Int→Int→Int→Bool→Bool→Bool→Bool→Bool→Bool→Int→Int→Int→Option (ByteArray×Bool)
 |0,_,_,_,_,_,_,_,_,_,_,_,_,_,_,_,_=>none
 |k+1,x0,x1,x8,x9,U,O,X,Y,A,B,D,E,I,J,K,M=>if Y=true then(some ((⟨#[]⟩:ByteArray),false)) else(if x8=true then(zah.j1 k x0 x1 x9 U O X (⟨#[]⟩:ByteArray) (O !=2) A B D E I J K M) else(zah.j1 k x0 x1 x9 U O X (⟨#[]⟩:ByteArray) false A B D E I J K M))
def zah.j2:Nat→Int→Int→Int→Int→Int→Int→ByteArray→Bool→Bool→Bool→Bool→Bool→Int→Int→Int→Option (ByteArray×Bool)
 |0,_,_,_,_,_,_,_,_,_,_,_,_,_,_,_=>none
 |k+1,x0,x1,x9,U,Y,X,O,E,I,D,J,M,K,B,A=>if Y=2 then(zah.j3 k O (⟨#[78,97,78]⟩:ByteArray) E I D J false K B A) else(if Y=1 then(zah.j3 k O (⟨#[73,110,102]⟩:ByteArray) E I D J false K B A) else(if D=true then(if X=1 then((zax.f k x0 x1 x9 U (mx (-1) (mn B 1000)) (A !=118) A).bind fun Z=>(zah.j3 k O Z E I D J M K B A)) else(if X=2 then((zat.f k x0 x1 x9 U (mx (-1) (mn B 1000)) (A !=118) A).bind fun aa=>(zah.j3 k O aa E I D J M K B A)) else(if X=3 then((zap.f k x0 x1 x9 U (mx (-1) (mn B 1000)) (A !=118) A).bind fun ab=>(zah.j3 k O ab E I D J M K B A)) else(if X=4 then((zaS.f x0 x1 x9 U (mx (-1) (mn B 1000)) (A !=118) A).bind fun ac=>(zah.j3 k O ac E I D J M K B A)) else(if X=5 then((zai.f k x0 x1 x9 U (mx (-1) (mn B 1000)) (A !=118) A).bind fun ad=>(zah.j3 k O ad E I D J M K B A)) else(none)))))) else(if X=1 then((zax.f k x0 x1 x9 U (mx (-1) (mn B 1000)) false A).bind fun ae=>(zah.j3 k O ae E I D J M K B A)) else(if X=2 then((zat.f k x0 x1 x9 U (mx (-1) (mn B 1000)) false A).bind fun af=>(zah.j3 k O af E I D J M K B A)) else(if X=3 then((zap.f k x0 x1 x9 U (mx (-1) (mn B 1000)) false A).bind fun ag=>(zah.j3 k O ag E I D J M K B A)) else(if X=4 then((zaS.f x0 x1 x9 U (mx (-1) (mn B 1000)) false A).bind fun ah=>(zah.j3 k O ah E I D J M K B A)) else(if X=5 then((zai.f k x0 x1 x9 U (mx (-1) (mn B 1000)) false A).bind fun ai=>(zah.j3 k O ai E I D J M K B A)) else(none))))))))
def zah.j3:Nat→ByteArray→ByteArray→Bool→Bool→Bool→Bool→Bool→Int→Int→Int→Option (ByteArray×Bool)
 |0,_,_,_,_,_,_,_,_,_,_=>none
 |k+1,O,U,D,A,E,I,B,J,K,M=>if B=true then(zah.j4 k O U (!A) D A E I B J K M) else(zah.j4 k O U false D A E I B J K M)
def zah.j4:Nat→ByteArray→ByteArray→Bool→Bool→Bool→Bool→Bool→Bool→Int→Int→Int→Option (ByteArray×Bool)
 |0,_,_,_,_,_,_,_,_,_,_,_=>none
 |k+1,O,M,aa,B,D,E,I,X,A,J,K=>if aa=true then((zbC.f 48 (wrap64 ((wrap64 ((mx 0 (mn A 1000))-(O.size:Int)))-(M.size:Int)))).bind fun U=>(if U.size+M.size≤9223372036854775807 then(if O.size+(U++M).size≤9223372036854775807 then((zbD.f (O++(U++M)) B D E I false A J K).bind fun Y=>(some (Y,true))) else(none)) else(none))) else(if O.size+M.size≤9223372036854775807 then((zbD.f (O++M) B D E I false A J K).bind fun Z=>(some (Z,true))) else(none))
def zah.j1:Nat→Int→Int→Int→Int→Int→Int→ByteArray→Bool→Bool→Bool→Bool→Bool→Bool→Int→Int→Int→Option (ByteArray×Bool)
 |0,_,_,_,_,_,_,_,_,_,_,_,_,_,_,_,_=>none
 |k+1,x0,x1,x9,U,O,X,Y,Z,A,D,E,B,I,J,K,M=>if Z=true then(zah.j2 k x0 x1 x9 U O X (⟨#[45]⟩:ByteArray) A D E B I J K M) else(if A=true then(zah.j2 k x0 x1 x9 U O X (⟨#[43]⟩:ByteArray) A D E B I J K M) else(if B=true then(zah.j2 k x0 x1 x9 U O X (⟨#[32]⟩:ByteArray) A D E B I J K M) else(if O=1 then(zah.j2 k x0 x1 x9 U O X (⟨#[43]⟩:ByteArray) A D E B I J K M) else(zah.j2 k x0 x1 x9 U O X Y A D E B I J K M))))
end
def zah.f(k:Nat)(a0:Int)(a1:Int)(E:Bool)(I:Bool)(J:Bool)(K:Bool)(M:Bool)(O:Int)(U:Int)(B:Int):Option (ByteArray×Bool):=(zbS.f a0 a1).bind fun A=>((zaG.f k B).bind fun D=>(if A.2.2.2=3 then(zah.j0 k a0 a1 A.1 A.2.1 A.2.2.1 A.2.2.2 D true E I J K M O U B) else(zah.j0 k a0 a1 A.1 A.2.1 A.2.2.1 A.2.2.2 D (D==0) E I J K M O U B)))
set_option maxHeartbeats 8000000 in
set_option maxRecDepth 100000 in
theorem zah.calls(k:Nat)(a0:Int)(a1:Int)(J:Bool)(K:Bool)(ac:Bool)(M:Bool)(O:Bool)(D:Int)(E:Int)(A:Int)(r1:ByteArray)(r2:Bool)(w:World)(h:zah.f k a0 a1 J K ac M O D E A=some (r1,r2)):
  Calls Tryz.prog 25 #[.int .u64 a0,.int .i64 a1,.agg #[.bool J,.bool K,.bool ac,.bool M,.bool O,.int .i64 D,.int .i64 E,.int .i32 A]] w fun e w'=>e= .returned (.tuple #[.string r1,.bool r2])∧Below w.heap.size w w':=by
 have l2:=Tryz.underlying26
 have l3:=Tryz.underlying74
 have HB:=zaa.mk (Below.refl w.heap.size w)
 have H:((zbS.f a0 a1).bind fun am=>((zaG.f k A).bind fun ah=>(if am.2.2.2=3 then(zah.j0 k a0 a1 am.1 am.2.1 am.2.2.1 am.2.2.2 ah true J K ac M O D E A) else(zah.j0 k a0 a1 am.1 am.2.1 am.2.2.1 am.2.2.2 ah (ah==0) J K ac M O D E A))))=some (r1,r2):=h
 clear h
 replace H:=bs H
 obtain⟨⟨jo,ad,ae,aw⟩,A4,H⟩:=H
 dsimp only at H
 replace H:=bs H
 obtain⟨ah,A5,H⟩:=H
 have jR:=zaa.mk H
 clear H
 go_enter Tryz.func25,Tryz.ntmps25
 go_upto_region 3 with(first|((with_reducible refine zak (N:=5) rfl ?_);refine zaj rfl (N:=5) rfl (cs:=#[.bool J,.bool K,.bool ac,.bool M,.bool O,.int .i64 D,.int .i64 E,.int .i32 A]) (t:=26) gz ?_;intro I hg w7 hbox hb;have k7:=gN bz hg;have B:=zaa.mk hbox;replace HB:=bN bz hb;clear hb hbox hg)|((with_reducible refine zac (f:=24) rfl ?_);refine zal (some 19) rfl rfl Tryz.func24 (by kernel_rfl) rfl #[.int .u64 a0,.int .i64 a1] rfl lz ?_;(with_reducible refine(zbS.calls a0 a1 jo ad ae aw _ A4.out).mono ?_);rintro e w8 ⟨rfl,hb⟩;refine⟨_,rfl,?_⟩;replace B:=kN (g:=I) (cs:=#[.bool J,.bool K,.bool ac,.bool M,.bool O,.int .i64 D,.int .i64 E,.int .i32 A]) hb bk;replace HB:=bN bz hb;(try clear hb);(try clear aQ);(try clear hk);(try clear hi);obtain⟨ax,ay,az,aA,aB,aC,aD,aE,aF,aG,aH,aI,aJ,aK,aL,aM⟩:=cz8 (W:=w8) B)|((with_reducible refine zac (f:=44) rfl ?_);refine zal (some 26) rfl rfl Tryz.func44 (by kernel_rfl) rfl #[.int .i32 A] rfl lz ?_;(with_reducible refine(zaG.calls k A ah _ A5.out).mono ?_);rintro e w' ⟨rfl,⟨nd,rfl⟩⟩;refine⟨_,rfl,?_⟩))
 (try simp only[Act.put,List.setIfInBounds_toArray,List.set_cons_zero,List.set_cons_succ])
 go_cut [32] (fun k8 wc=> ∃(kq:Nat) (ca:Bool),k8= .bool ca∧zaa (zah.j0 kq a0 a1 jo ad ae aw ah ca J K ac M O D E A=some (r1,r2))∧zaa (kq≤k)∧zaa (wc.heap[I]? =some (.cells #[.bool J,.bool K,.bool ac,.bool M,.bool O,.int .i64 D,.int .i64 E,.int .i32 A] 26 (0,0)))∧zaa (Below w.heap.size w wc))
 case first=>
  have H:=jR.out
  clear jR
  by_cases b8:aw=3
  ·replace H:=hE H b8
   obtain⟨ar,au⟩:=eT b8
   clear b8
   try first|rw[ar]|rw[au]
   have H':=zaa.mk H
   clear H
   go_wp2
   go_meet
   case rel=>exact⟨_,(true),rz,H',⟨by first|omega|exact Nat.le_refl _⟩,⟨bk⟩,⟨bz⟩⟩
  replace H:=hN H b8
  obtain⟨ar,au⟩:=eF b8
  try first|rw[ar]|rw[au]
  have H':=zaa.mk H
  clear H
  go_wp2
  go_meet
  case rel=>exact⟨_,((ah==0)),rz,H',⟨by first|omega|exact Nat.le_refl _⟩,⟨bk⟩,⟨bz⟩⟩
 case rest=>
  clear jR
  try clear b8
  try clear ar
  try clear au
  try clear ax ay az aA aB aC aD aE aF aG aH aI aJ aK aL aM
  obtain⟨kq,ca,rfl,HA,al,B,HB⟩:=hcut
  cases kq with
  |zero=>exact absurd HA.out (by simp[zah.j0])
  |succ kO=>
   have H:=HA.out
   clear HA
   simp only[zah.j0] at H
   by_cases cj:ca=true
   ·subst cj
    replace H:=hT H
    simp only[Option.some.injEq,Prod.mk.injEq] at H
    obtain⟨rfl,rfl⟩:=H
    go_wp2
    go_ret2
    exact⟨ez,bz⟩
   replace cj:=Bool.eq_false_iff.mpr cj
   subst cj
   replace H:=hF H
   have jp:=zaa.mk H
   clear H
   go_upto_block 0 with(fail)
   go_cut [13] (fun k9 wc=> ∃(kq:Nat) (U:ByteArray),k9= .string U∧zaa (zah.j2 kq a0 a1 ad ae aw ah U J K ac M O D E A=some (r1,r2))∧zaa (kq≤kO)∧zaa (wc.heap[I]? =some (.cells #[.bool J,.bool K,.bool ac,.bool M,.bool O,.int .i64 D,.int .i64 E,.int .i32 A] 26 (0,0)))∧zaa (Below w.heap.size w wc))
   case first=>
    have H:=jp.out
    clear jp
    have jq:=zaa.mk H
    clear H
    go_upto_region 6 with(fail)
    go_cut [33] (fun lb wc=> ∃(kq:Nat) (aR:Bool),lb= .bool aR∧zaa (zah.j1 kq a0 a1 ad ae aw ah (⟨#[]⟩:ByteArray) aR J K ac M O D E A=some (r1,r2))∧zaa (kq≤kO)∧zaa (wc.heap[I]? =some (.cells #[.bool J,.bool K,.bool ac,.bool M,.bool O,.int .i64 D,.int .i64 E,.int .i32 A] 26 (0,0)))∧zaa (Below w.heap.size w wc))
    case first=>
     have H:=jq.out
     clear jq
     by_cases ck:jo=true
     ·subst ck
      replace H:=hT H
      have H':=zaa.mk H
      clear H
      go_wp2
      go_meet
      case rel=>exact⟨_,((aw !=2)),rz,H',⟨by have:=al.out;first|omega|exact Nat.le_refl _⟩,⟨bk⟩,⟨bz⟩⟩
     replace ck:=Bool.eq_false_iff.mpr ck
     subst ck
     replace H:=hF H
     have H':=zaa.mk H
     clear H
     go_wp2
     go_meet
     case rel=>exact⟨_,(false),rz,H',⟨by have:=al.out;first|omega|exact Nat.le_refl _⟩,⟨bk⟩,⟨bz⟩⟩
    case rest=>
     clear jq
     try clear b8
     try clear ar
     try clear au
     try clear cj
     try clear ck
     try clear ax ay az aA aB aC aD aE aF aG aH aI aJ aK aL aM
     obtain⟨kq,aR,rfl,HA,cm,B,HB⟩:=hcut
     cases kq with
     |zero=>exact absurd HA.out (by simp[zah.j1])
     |succ l4=>
      have H:=HA.out
      clear HA
      simp only[zah.j1] at H
      by_cases iC:aR=true
      ·subst iC
       replace H:=hT H
       have H':=zaa.mk H
       clear H
       go_wp2
       go_meet
       case rel=>exact⟨_,((⟨#[45]⟩:ByteArray)),rz,H',⟨by have:=al.out;have:=cm.out;first|omega|exact Nat.le_refl _⟩,⟨bk⟩,⟨bz⟩⟩
      replace iC:=Bool.eq_false_iff.mpr iC
      subst iC
      replace H:=hF H
      by_cases iD:J=true
      ·subst iD
       replace H:=hT H
       have H':=zaa.mk H
       clear H
       obtain⟨aT,aU,aV,aW,aX,aY,aZ,a2,a3,a4,a5,a6,a7,a8,a9,ba⟩:=cz8 (W:=wc) B
       go_wp2
       go_meet
       case rel=>exact⟨_,((⟨#[43]⟩:ByteArray)),rz,H',⟨by have:=al.out;have:=cm.out;first|omega|exact Nat.le_refl _⟩,⟨bk⟩,⟨bz⟩⟩
      replace iD:=Bool.eq_false_iff.mpr iD
      subst iD
      replace H:=hF H
      by_cases iE:M=true
      ·subst iE
       replace H:=hT H
       have H':=zaa.mk H
       clear H
       obtain⟨bb,bc,bd,be,bf,bg,bh,bi,bj,bl,bm,bn,bo,bp,bq,br⟩:=cz8 (W:=wc) B
       go_wp2
       go_meet
       case rel=>exact⟨_,((⟨#[32]⟩:ByteArray)),rz,H',⟨by have:=al.out;have:=cm.out;first|omega|exact Nat.le_refl _⟩,⟨bk⟩,⟨bz⟩⟩
      replace iE:=Bool.eq_false_iff.mpr iE
      subst iE
      replace H:=hF H
      by_cases cn:aw=1
      ·replace H:=hE H cn
       obtain⟨cb,cc⟩:=eT cn
       clear cn
       have H':=zaa.mk H
       clear H
       obtain⟨bu,bv,bw,bA,bB,bC,bD,bE,bG,bH,bI,bJ,bK,bL,bM,bO⟩:=cz8 (W:=wc) B
       go_wp2
       go_meet
       case rel=>exact⟨_,((⟨#[43]⟩:ByteArray)),rz,H',⟨by have:=al.out;have:=cm.out;first|omega|exact Nat.le_refl _⟩,⟨bk⟩,⟨bz⟩⟩
      replace H:=hN H cn
      obtain⟨cb,cc⟩:=eF cn
      have H':=zaa.mk H
      clear H
      obtain⟨bP,bQ,bR,bS,bU,bV,bW,bX,bY,bZ,b0,b1,b2,b3,b4,b5⟩:=cz8 (W:=wc) B
      go_wp2
      go_meet
      case rel=>exact⟨_,((⟨#[]⟩:ByteArray)),rz,H',⟨by have:=al.out;have:=cm.out;first|omega|exact Nat.le_refl _⟩,⟨bk⟩,⟨bz⟩⟩
   case rest=>
    clear jp
    try clear b8
    try clear ar
    try clear au
    try clear cj
    try clear ck
    try clear iC
    try clear iD
    try clear iE
    try clear cn
    try clear cb
    try clear cc
    try clear aT aU aV aW aX aY aZ a2 a3 a4 a5 a6 a7 a8 a9 ba
    try clear bb bc bd be bf bg bh bi bj bl bm bn bo bp bq br
    try clear bu bv bw bA bB bC bD bE bG bH bI bJ bK bL bM bO
    try clear bP bQ bR bS bU bV bW bX bY bZ b0 b1 b2 b3 b4 b5
    try clear ax ay az aA aB aC aD aE aF aG aH aI aJ aK aL aM
    obtain⟨kq,U,rfl,HA,ak,B,HB⟩:=hcut
    cases kq with
    |zero=>exact absurd HA.out (by simp[zah.j2])
    |succ aN=>
     have H:=HA.out
     clear HA
     simp only[zah.j2] at H
     have jr:=zaa.mk H
     clear H
     go_upto_block 1 with(fail)
     go_cut [14] (fun lc wc=> ∃(kq:Nat) (X:ByteArray) (af:Bool),lc= .string X∧zaa (zah.j3 kq U X J K ac M af D E A=some (r1,r2))∧zaa (kq≤aN)∧zaa (wc.heap[I]? =some (.cells #[.bool J,.bool K,.bool ac,.bool M,.bool af,.int .i64 D,.int .i64 E,.int .i32 A] 26 (0,0)))∧zaa (Below w.heap.size w wc))
     case first=>
      have H:=jr.out
      clear jr
      by_cases iF:aw=2
      ·replace H:=hE H iF
       obtain⟨b6,b7⟩:=eT iF
       clear iF
       try first|rw[b6]|rw[b7]
       have H':=zaa.mk H
       clear H
       obtain⟨co,cp,cq,cr,ct,cu,cv,cw,cx,cy,cz,cA,cB,cC,cD,cF⟩:=cz8 (W:=wc) B
       go_wp2
       go_meet
       case rel=>exact⟨_,((⟨#[78,97,78]⟩:ByteArray)),(false),rz,H',⟨by have:=al.out;have:=ak.out;first|omega|exact Nat.le_refl _⟩,⟨bk⟩,⟨bz⟩⟩
      replace H:=hN H iF
      obtain⟨b6,b7⟩:=eF iF
      try first|rw[b6]|rw[b7]
      by_cases iG:aw=1
      ·replace H:=hE H iG
       obtain⟨iH,iI⟩:=eT iG
       clear iG
       have H':=zaa.mk H
       clear H
       obtain⟨cG,cH,cI,cJ,cK,cL,cM,cN,cO,cP,cQ,cR,cS,cT,cV,cW⟩:=cz8 (W:=wc) B
       go_wp2
       go_meet
       case rel=>exact⟨_,((⟨#[73,110,102]⟩:ByteArray)),(false),rz,H',⟨by have:=al.out;have:=ak.out;first|omega|exact Nat.le_refl _⟩,⟨bk⟩,⟨bz⟩⟩
      replace H:=hN H iG
      obtain⟨iH,iI⟩:=eF iG
      obtain⟨iM,iJ⟩: ∃j_:Int,(mn E 1000)=j_:=⟨_,rfl⟩
      (first|rw[iJ] at H|simp only[iJ] at H)
      have kV:(if 1000<E then 1000 else E)=iM:=iJ
      obtain⟨ag,iK⟩: ∃j_:Int,(mx (-1) (iM))=j_:=⟨_,rfl⟩
      (first|rw[iK] at H|simp only[iK] at H)
      have kW:(if(-1)<(iM) then(iM) else(-1))=ag:=iK
      by_cases iP:ac=true
      ·subst iP
       replace H:=hT H
       by_cases jt:ah=1
       ·subst jt
        replace H:=hE H rfl
        (try simp only[fnW_1])
        replace H:=bs H
        obtain⟨jE,lf,H⟩:=H
        have H':=zaa.mk H
        clear H
        obtain⟨cX,cY,cZ,c5,c6,c7,c8,c9,da,db,dc,dd,de,df,dh,di⟩:=cz8 (W:=wc) B
        go_wp2_with (first|((with_reducible refine zak (N:=15) rfl ?_);refine zaj rfl (N:=15) rfl (cs:=#[.int .u64 0,.int .i64 0,.int .u64 0,.int .i64 0,.int .i64 0,.bool false,.int .i32 0]) (t:=74) gz ?_;intro an hg lg hbox hb;have cd:=gN bz hg;have ce:=gN bz hg;have Y:=lN (g:=I) (cs:=#[.bool J,.bool K,.bool true,.bool M,.bool O,.int .i64 D,.int .i64 E,.int .i32 A]) hg bk;have Z:=rN (g:=I) (cs:=#[.bool J,.bool K,.bool true,.bool M,.bool O,.int .i64 D,.int .i64 E,.int .i32 A]) hg bk;replace B:=kN (g:=I) (cs:=#[.bool J,.bool K,.bool true,.bool M,.bool O,.int .i64 D,.int .i64 E,.int .i32 A]) hb bk;have ai:=zaa.mk hbox;replace HB:=bN bz hb;clear hb hbox hg;have lh:=Z.out;have li:=Y.out;obtain⟨dj,dk,dl,dm,dn,dp,dq,dr,ds,dt,du,dv,dw,dx⟩:=cz7 (W:=lg) ai)|(go_at_call 66;(with_reducible refine(zax.calls aN a0 a1 ad ae ag (A !=118) A jE _ lf.out).mono ?_);rintro e l8 ⟨rfl,hb⟩;replace B:=kN (g:=I) (cs:=#[.bool J,.bool K,.bool true,.bool M,.bool O,.int .i64 D,.int .i64 E,.int .i32 A]) hb bk;replace ai:=kN (g:=an) (cs:=#[.int .u64 a0,.int .i64 a1,.int .u64 ad,.int .i64 ae,.int .i64 ag,.bool (A !=118),.int .i32 A]) hb bk;replace HB:=bN bz hb;(try clear hb);(try clear aQ);(try clear hk);(try clear hi)))
        go_meet
        case rel=>exact⟨_,(jE),(O),rz,H',⟨by have:=al.out;have:=ak.out;first|omega|exact Nat.le_refl _⟩,⟨bk⟩,⟨bz⟩⟩
       replace H:=hN H jt
       by_cases ju:ah=2
       ·subst ju
        replace H:=hE H rfl
        (try simp only[fnW_2])
        replace H:=bs H
        obtain⟨jF,lj,H⟩:=H
        have H':=zaa.mk H
        clear H
        obtain⟨dy,dA,dB,dC,dD,dE,dF,dG,dH,dI,dJ,dK,dL,dM,dN,dO⟩:=cz8 (W:=wc) B
        go_wp2_with (first|((with_reducible refine zak (N:=15) rfl ?_);refine zaj rfl (N:=15) rfl (cs:=#[.int .u64 0,.int .i64 0,.int .u64 0,.int .i64 0,.int .i64 0,.bool false,.int .i32 0]) (t:=74) gz ?_;intro an hg lk hbox hb;have cd:=gN bz hg;have ce:=gN bz hg;have Y:=lN (g:=I) (cs:=#[.bool J,.bool K,.bool true,.bool M,.bool O,.int .i64 D,.int .i64 E,.int .i32 A]) hg bk;have Z:=rN (g:=I) (cs:=#[.bool J,.bool K,.bool true,.bool M,.bool O,.int .i64 D,.int .i64 E,.int .i32 A]) hg bk;replace B:=kN (g:=I) (cs:=#[.bool J,.bool K,.bool true,.bool M,.bool O,.int .i64 D,.int .i64 E,.int .i32 A]) hb bk;have ai:=zaa.mk hbox;replace HB:=bN bz hb;clear hb hbox hg;have lm:=Z.out;have ln:=Y.out;obtain⟨dP,dQ,dR,dS,dT,dU,dV,dW,dY,dZ,d0,d5,d6,d7⟩:=cz7 (W:=lk) ai)|(go_at_call 67;(with_reducible refine(zat.calls aN a0 a1 ad ae ag (A !=118) A jF _ lj.out).mono ?_);rintro e l9 ⟨rfl,hb⟩;replace B:=kN (g:=I) (cs:=#[.bool J,.bool K,.bool true,.bool M,.bool O,.int .i64 D,.int .i64 E,.int .i32 A]) hb bk;replace ai:=kN (g:=an) (cs:=#[.int .u64 a0,.int .i64 a1,.int .u64 ad,.int .i64 ae,.int .i64 ag,.bool (A !=118),.int .i32 A]) hb bk;replace HB:=bN bz hb;(try clear hb);(try clear aQ);(try clear hk);(try clear hi)))
        go_meet
        case rel=>exact⟨_,(jF),(O),rz,H',⟨by have:=al.out;have:=ak.out;first|omega|exact Nat.le_refl _⟩,⟨bk⟩,⟨bz⟩⟩
       replace H:=hN H ju
       by_cases jv:ah=3
       ·subst jv
        replace H:=hE H rfl
        (try simp only[fnW_3])
        replace H:=bs H
        obtain⟨jG,lo,H⟩:=H
        have H':=zaa.mk H
        clear H
        obtain⟨d8,d9,ea,eb,ec,ed,ee,ef,eg,eh,ei,ej,ek,em,en,eo⟩:=cz8 (W:=wc) B
        go_wp2_with (first|((with_reducible refine zak (N:=15) rfl ?_);refine zaj rfl (N:=15) rfl (cs:=#[.int .u64 0,.int .i64 0,.int .u64 0,.int .i64 0,.int .i64 0,.bool false,.int .i32 0]) (t:=74) gz ?_;intro an hg lp hbox hb;have cd:=gN bz hg;have ce:=gN bz hg;have Y:=lN (g:=I) (cs:=#[.bool J,.bool K,.bool true,.bool M,.bool O,.int .i64 D,.int .i64 E,.int .i32 A]) hg bk;have Z:=rN (g:=I) (cs:=#[.bool J,.bool K,.bool true,.bool M,.bool O,.int .i64 D,.int .i64 E,.int .i32 A]) hg bk;replace B:=kN (g:=I) (cs:=#[.bool J,.bool K,.bool true,.bool M,.bool O,.int .i64 D,.int .i64 E,.int .i32 A]) hb bk;have ai:=zaa.mk hbox;replace HB:=bN bz hb;clear hb hbox hg;have lq:=Z.out;have lr:=Y.out;obtain⟨ep,eq,er,et,eu,ev,ew,ey,eA,eB,eC,eD,eE,eG⟩:=cz7 (W:=lp) ai)|(go_at_call 68;(with_reducible refine(zap.calls aN a0 a1 ad ae ag (A !=118) A jG _ lo.out).mono ?_);rintro e ma ⟨rfl,hb⟩;replace B:=kN (g:=I) (cs:=#[.bool J,.bool K,.bool true,.bool M,.bool O,.int .i64 D,.int .i64 E,.int .i32 A]) hb bk;replace ai:=kN (g:=an) (cs:=#[.int .u64 a0,.int .i64 a1,.int .u64 ad,.int .i64 ae,.int .i64 ag,.bool (A !=118),.int .i32 A]) hb bk;replace HB:=bN bz hb;(try clear hb);(try clear aQ);(try clear hk);(try clear hi)))
        go_meet
        case rel=>exact⟨_,(jG),(O),rz,H',⟨by have:=al.out;have:=ak.out;first|omega|exact Nat.le_refl _⟩,⟨bk⟩,⟨bz⟩⟩
       replace H:=hN H jv
       by_cases jw:ah=4
       ·subst jw
        replace H:=hE H rfl
        (try simp only[fnW_4])
        replace H:=bs H
        obtain⟨jH,lu,H⟩:=H
        have H':=zaa.mk H
        clear H
        obtain⟨eH,eI,eJ,eK,eL,eM,eN,eO,eP,eQ,eR,eS,eU,eV,eW,eX⟩:=cz8 (W:=wc) B
        go_wp2_with (first|((with_reducible refine zak (N:=15) rfl ?_);refine zaj rfl (N:=15) rfl (cs:=#[.int .u64 0,.int .i64 0,.int .u64 0,.int .i64 0,.int .i64 0,.bool false,.int .i32 0]) (t:=74) gz ?_;intro an hg lw hbox hb;have cd:=gN bz hg;have ce:=gN bz hg;have Y:=lN (g:=I) (cs:=#[.bool J,.bool K,.bool true,.bool M,.bool O,.int .i64 D,.int .i64 E,.int .i32 A]) hg bk;have Z:=rN (g:=I) (cs:=#[.bool J,.bool K,.bool true,.bool M,.bool O,.int .i64 D,.int .i64 E,.int .i32 A]) hg bk;replace B:=kN (g:=I) (cs:=#[.bool J,.bool K,.bool true,.bool M,.bool O,.int .i64 D,.int .i64 E,.int .i32 A]) hb bk;have ai:=zaa.mk hbox;replace HB:=bN bz hb;clear hb hbox hg;have lx:=Z.out;have ly:=Y.out;obtain⟨eY,eZ,e0,e1,e2,e3,e4,e5,e6,e7,e8,e9,fa,fb⟩:=cz7 (W:=lw) ai)|(go_at_call 69;(with_reducible refine(zaS.calls a0 a1 ad ae ag (A !=118) A jH _ lu.out).mono ?_);rintro e mb ⟨rfl,hb⟩;replace B:=kN (g:=I) (cs:=#[.bool J,.bool K,.bool true,.bool M,.bool O,.int .i64 D,.int .i64 E,.int .i32 A]) hb bk;replace ai:=kN (g:=an) (cs:=#[.int .u64 a0,.int .i64 a1,.int .u64 ad,.int .i64 ae,.int .i64 ag,.bool (A !=118),.int .i32 A]) hb bk;replace HB:=bN bz hb;(try clear hb);(try clear aQ);(try clear hk);(try clear hi)))
        go_meet
        case rel=>exact⟨_,(jH),(O),rz,H',⟨by have:=al.out;have:=ak.out;first|omega|exact Nat.le_refl _⟩,⟨bk⟩,⟨bz⟩⟩
       replace H:=hN H jw
       by_cases jy:ah=5
       ·subst jy
        replace H:=hE H rfl
        (try simp only[fnW_5])
        replace H:=bs H
        obtain⟨jI,lA,H⟩:=H
        have H':=zaa.mk H
        clear H
        obtain⟨fc,fe,fg,fh,fi,fj,fk,fl,fm,fo,fp,fq,fs,ft,fu,fv⟩:=cz8 (W:=wc) B
        go_wp2_with (first|((with_reducible refine zak (N:=15) rfl ?_);refine zaj rfl (N:=15) rfl (cs:=#[.int .u64 0,.int .i64 0,.int .u64 0,.int .i64 0,.int .i64 0,.bool false,.int .i32 0]) (t:=74) gz ?_;intro an hg lB hbox hb;have cd:=gN bz hg;have ce:=gN bz hg;have Y:=lN (g:=I) (cs:=#[.bool J,.bool K,.bool true,.bool M,.bool O,.int .i64 D,.int .i64 E,.int .i32 A]) hg bk;have Z:=rN (g:=I) (cs:=#[.bool J,.bool K,.bool true,.bool M,.bool O,.int .i64 D,.int .i64 E,.int .i32 A]) hg bk;replace B:=kN (g:=I) (cs:=#[.bool J,.bool K,.bool true,.bool M,.bool O,.int .i64 D,.int .i64 E,.int .i32 A]) hb bk;have ai:=zaa.mk hbox;replace HB:=bN bz hb;clear hb hbox hg;have lC:=Z.out;have lD:=Y.out;obtain⟨fw,fx,fy,fz,fA,fC,fD,fF,fG,fH,fI,fJ,fK,fL⟩:=cz7 (W:=lB) ai)|(go_at_call 70;(with_reducible refine(zai.calls aN a0 a1 ad ae ag (A !=118) A jI _ lA.out).mono ?_);rintro e mc ⟨rfl,hb⟩;replace B:=kN (g:=I) (cs:=#[.bool J,.bool K,.bool true,.bool M,.bool O,.int .i64 D,.int .i64 E,.int .i32 A]) hb bk;replace ai:=kN (g:=an) (cs:=#[.int .u64 a0,.int .i64 a1,.int .u64 ad,.int .i64 ae,.int .i64 ag,.bool (A !=118),.int .i32 A]) hb bk;replace HB:=bN bz hb;(try clear hb);(try clear aQ);(try clear hk);(try clear hi)))
        go_meet
        case rel=>exact⟨_,(jI),(O),rz,H',⟨by have:=al.out;have:=ak.out;first|omega|exact Nat.le_refl _⟩,⟨bk⟩,⟨bz⟩⟩
       replace H:=hN H jy
       exact absurd H (by simp)
      replace iP:=Bool.eq_false_iff.mpr iP
      subst iP
      replace H:=hF H
      by_cases jz:ah=1
      ·subst jz
       replace H:=hE H rfl
       (try simp only[fnW_1])
       replace H:=bs H
       obtain⟨jJ,lE,H⟩:=H
       have H':=zaa.mk H
       clear H
       obtain⟨fN,fO,fP,fQ,fR,fS,fT,fU,fV,fX,fY,fZ,f0,f2,f3,f4⟩:=cz8 (W:=wc) B
       go_wp2_with (first|((with_reducible refine zak (N:=15) rfl ?_);refine zaj rfl (N:=15) rfl (cs:=#[.int .u64 0,.int .i64 0,.int .u64 0,.int .i64 0,.int .i64 0,.bool false,.int .i32 0]) (t:=74) gz ?_;intro ao hg lF hbox hb;have cf:=gN bz hg;have cg:=gN bz hg;have aa:=lN (g:=I) (cs:=#[.bool J,.bool K,.bool false,.bool M,.bool O,.int .i64 D,.int .i64 E,.int .i32 A]) hg bk;have ab:=rN (g:=I) (cs:=#[.bool J,.bool K,.bool false,.bool M,.bool O,.int .i64 D,.int .i64 E,.int .i32 A]) hg bk;replace B:=kN (g:=I) (cs:=#[.bool J,.bool K,.bool false,.bool M,.bool O,.int .i64 D,.int .i64 E,.int .i32 A]) hb bk;have aj:=zaa.mk hbox;replace HB:=bN bz hb;clear hb hbox hg;have lG:=ab.out;have lH:=aa.out;obtain⟨f5,f6,f7,f8,f9,ga,gb,ge,gf,gg,gh,gi,gj,gk⟩:=cz7 (W:=lF) aj)|(go_at_call 66;(with_reducible refine(zax.calls aN a0 a1 ad ae ag false A jJ _ lE.out).mono ?_);rintro e md ⟨rfl,hb⟩;replace B:=kN (g:=I) (cs:=#[.bool J,.bool K,.bool false,.bool M,.bool O,.int .i64 D,.int .i64 E,.int .i32 A]) hb bk;replace aj:=kN (g:=ao) (cs:=#[.int .u64 a0,.int .i64 a1,.int .u64 ad,.int .i64 ae,.int .i64 ag,.bool false,.int .i32 A]) hb bk;replace HB:=bN bz hb;(try clear hb);(try clear aQ);(try clear hk);(try clear hi)))
       go_meet
       case rel=>exact⟨_,(jJ),(O),rz,H',⟨by have:=al.out;have:=ak.out;first|omega|exact Nat.le_refl _⟩,⟨bk⟩,⟨bz⟩⟩
      replace H:=hN H jz
      by_cases jA:ah=2
      ·subst jA
       replace H:=hE H rfl
       (try simp only[fnW_2])
       replace H:=bs H
       obtain⟨jK,lI,H⟩:=H
       have H':=zaa.mk H
       clear H
       obtain⟨gl,gm,gn,gp,gq,gr,gs,gt,gu,gv,gw,gx,gy,gA,gB,gC⟩:=cz8 (W:=wc) B
       go_wp2_with (first|((with_reducible refine zak (N:=15) rfl ?_);refine zaj rfl (N:=15) rfl (cs:=#[.int .u64 0,.int .i64 0,.int .u64 0,.int .i64 0,.int .i64 0,.bool false,.int .i32 0]) (t:=74) gz ?_;intro ao hg lJ hbox hb;have cf:=gN bz hg;have cg:=gN bz hg;have aa:=lN (g:=I) (cs:=#[.bool J,.bool K,.bool false,.bool M,.bool O,.int .i64 D,.int .i64 E,.int .i32 A]) hg bk;have ab:=rN (g:=I) (cs:=#[.bool J,.bool K,.bool false,.bool M,.bool O,.int .i64 D,.int .i64 E,.int .i32 A]) hg bk;replace B:=kN (g:=I) (cs:=#[.bool J,.bool K,.bool false,.bool M,.bool O,.int .i64 D,.int .i64 E,.int .i32 A]) hb bk;have aj:=zaa.mk hbox;replace HB:=bN bz hb;clear hb hbox hg;have lK:=ab.out;have lL:=aa.out;obtain⟨gD,gE,gF,gG,gH,gI,gJ,gK,gL,gM,gO,gP,gQ,gR⟩:=cz7 (W:=lJ) aj)|(go_at_call 67;(with_reducible refine(zat.calls aN a0 a1 ad ae ag false A jK _ lI.out).mono ?_);rintro e me ⟨rfl,hb⟩;replace B:=kN (g:=I) (cs:=#[.bool J,.bool K,.bool false,.bool M,.bool O,.int .i64 D,.int .i64 E,.int .i32 A]) hb bk;replace aj:=kN (g:=ao) (cs:=#[.int .u64 a0,.int .i64 a1,.int .u64 ad,.int .i64 ae,.int .i64 ag,.bool false,.int .i32 A]) hb bk;replace HB:=bN bz hb;(try clear hb);(try clear aQ);(try clear hk);(try clear hi)))
       go_meet
       case rel=>exact⟨_,(jK),(O),rz,H',⟨by have:=al.out;have:=ak.out;first|omega|exact Nat.le_refl _⟩,⟨bk⟩,⟨bz⟩⟩
      replace H:=hN H jA
      by_cases jB:ah=3
      ·subst jB
       replace H:=hE H rfl
       (try simp only[fnW_3])
       replace H:=bs H
       obtain⟨jL,lM,H⟩:=H
       have H':=zaa.mk H
       clear H
       obtain⟨gS,gT,gU,gV,gW,gX,gY,gZ,g0,g1,g2,g3,g4,g5,g6,g7⟩:=cz8 (W:=wc) B
       go_wp2_with (first|((with_reducible refine zak (N:=15) rfl ?_);refine zaj rfl (N:=15) rfl (cs:=#[.int .u64 0,.int .i64 0,.int .u64 0,.int .i64 0,.int .i64 0,.bool false,.int .i32 0]) (t:=74) gz ?_;intro ao hg lO hbox hb;have cf:=gN bz hg;have cg:=gN bz hg;have aa:=lN (g:=I) (cs:=#[.bool J,.bool K,.bool false,.bool M,.bool O,.int .i64 D,.int .i64 E,.int .i32 A]) hg bk;have ab:=rN (g:=I) (cs:=#[.bool J,.bool K,.bool false,.bool M,.bool O,.int .i64 D,.int .i64 E,.int .i32 A]) hg bk;replace B:=kN (g:=I) (cs:=#[.bool J,.bool K,.bool false,.bool M,.bool O,.int .i64 D,.int .i64 E,.int .i32 A]) hb bk;have aj:=zaa.mk hbox;replace HB:=bN bz hb;clear hb hbox hg;have lP:=ab.out;have lQ:=aa.out;obtain⟨g8,g9,ha,hc,he,hf,hh,hj,hl,hm,hn,ho,hp,hq⟩:=cz7 (W:=lO) aj)|(go_at_call 68;(with_reducible refine(zap.calls aN a0 a1 ad ae ag false A jL _ lM.out).mono ?_);rintro e mf ⟨rfl,hb⟩;replace B:=kN (g:=I) (cs:=#[.bool J,.bool K,.bool false,.bool M,.bool O,.int .i64 D,.int .i64 E,.int .i32 A]) hb bk;replace aj:=kN (g:=ao) (cs:=#[.int .u64 a0,.int .i64 a1,.int .u64 ad,.int .i64 ae,.int .i64 ag,.bool false,.int .i32 A]) hb bk;replace HB:=bN bz hb;(try clear hb);(try clear aQ);(try clear hk);(try clear hi)))
       go_meet
       case rel=>exact⟨_,(jL),(O),rz,H',⟨by have:=al.out;have:=ak.out;first|omega|exact Nat.le_refl _⟩,⟨bk⟩,⟨bz⟩⟩
      replace H:=hN H jB
      by_cases jC:ah=4
      ·subst jC
       replace H:=hE H rfl
       (try simp only[fnW_4])
       replace H:=bs H
       obtain⟨jM,lR,H⟩:=H
       have H':=zaa.mk H
       clear H
       obtain⟨hr,hs,ht,hu,hv,hw,hx,hy,hz,hA,hB,hC,hD,hG,hH,hI⟩:=cz8 (W:=wc) B
       go_wp2_with (first|((with_reducible refine zak (N:=15) rfl ?_);refine zaj rfl (N:=15) rfl (cs:=#[.int .u64 0,.int .i64 0,.int .u64 0,.int .i64 0,.int .i64 0,.bool false,.int .i32 0]) (t:=74) gz ?_;intro ao hg lS hbox hb;have cf:=gN bz hg;have cg:=gN bz hg;have aa:=lN (g:=I) (cs:=#[.bool J,.bool K,.bool false,.bool M,.bool O,.int .i64 D,.int .i64 E,.int .i32 A]) hg bk;have ab:=rN (g:=I) (cs:=#[.bool J,.bool K,.bool false,.bool M,.bool O,.int .i64 D,.int .i64 E,.int .i32 A]) hg bk;replace B:=kN (g:=I) (cs:=#[.bool J,.bool K,.bool false,.bool M,.bool O,.int .i64 D,.int .i64 E,.int .i32 A]) hb bk;have aj:=zaa.mk hbox;replace HB:=bN bz hb;clear hb hbox hg;have lT:=ab.out;have lU:=aa.out;obtain⟨hJ,hK,hL,hM,hO,hP,hQ,hR,hS,hU,hV,hW,hX,hY⟩:=cz7 (W:=lS) aj)|(go_at_call 69;(with_reducible refine(zaS.calls a0 a1 ad ae ag false A jM _ lR.out).mono ?_);rintro e mg ⟨rfl,hb⟩;replace B:=kN (g:=I) (cs:=#[.bool J,.bool K,.bool false,.bool M,.bool O,.int .i64 D,.int .i64 E,.int .i32 A]) hb bk;replace aj:=kN (g:=ao) (cs:=#[.int .u64 a0,.int .i64 a1,.int .u64 ad,.int .i64 ae,.int .i64 ag,.bool false,.int .i32 A]) hb bk;replace HB:=bN bz hb;(try clear hb);(try clear aQ);(try clear hk);(try clear hi)))
       go_meet
       case rel=>exact⟨_,(jM),(O),rz,H',⟨by have:=al.out;have:=ak.out;first|omega|exact Nat.le_refl _⟩,⟨bk⟩,⟨bz⟩⟩
      replace H:=hN H jC
      by_cases jD:ah=5
      ·subst jD
       replace H:=hE H rfl
       (try simp only[fnW_5])
       replace H:=bs H
       obtain⟨jN,lV,H⟩:=H
       have H':=zaa.mk H
       clear H
       obtain⟨hZ,h0,h1,h2,h3,h4,h5,h6,h7,h8,h9,ia,ib,ic,id,ie⟩:=cz8 (W:=wc) B
       go_wp2_with (first|((with_reducible refine zak (N:=15) rfl ?_);refine zaj rfl (N:=15) rfl (cs:=#[.int .u64 0,.int .i64 0,.int .u64 0,.int .i64 0,.int .i64 0,.bool false,.int .i32 0]) (t:=74) gz ?_;intro ao hg lW hbox hb;have cf:=gN bz hg;have cg:=gN bz hg;have aa:=lN (g:=I) (cs:=#[.bool J,.bool K,.bool false,.bool M,.bool O,.int .i64 D,.int .i64 E,.int .i32 A]) hg bk;have ab:=rN (g:=I) (cs:=#[.bool J,.bool K,.bool false,.bool M,.bool O,.int .i64 D,.int .i64 E,.int .i32 A]) hg bk;replace B:=kN (g:=I) (cs:=#[.bool J,.bool K,.bool false,.bool M,.bool O,.int .i64 D,.int .i64 E,.int .i32 A]) hb bk;have aj:=zaa.mk hbox;replace HB:=bN bz hb;clear hb hbox hg;have lX:=ab.out;have lY:=aa.out;obtain⟨ig,ih,ij,ik,il,im,io,ip,iq,ir,it,iu,iv,iw⟩:=cz7 (W:=lW) aj)|(go_at_call 70;(with_reducible refine(zai.calls aN a0 a1 ad ae ag false A jN _ lV.out).mono ?_);rintro e l5 ⟨rfl,hb⟩;replace B:=kN (g:=I) (cs:=#[.bool J,.bool K,.bool false,.bool M,.bool O,.int .i64 D,.int .i64 E,.int .i32 A]) hb bk;replace aj:=kN (g:=ao) (cs:=#[.int .u64 a0,.int .i64 a1,.int .u64 ad,.int .i64 ae,.int .i64 ag,.bool false,.int .i32 A]) hb bk;replace HB:=bN bz hb;(try clear hb);(try clear aQ);(try clear hk);(try clear hi)))
       go_meet
       case rel=>exact⟨_,(jN),(O),rz,H',⟨by have:=al.out;have:=ak.out;first|omega|exact Nat.le_refl _⟩,⟨bk⟩,⟨bz⟩⟩
      replace H:=hN H jD
      exact absurd H (by simp)
     case rest=>
      clear jr
      try clear b8
      try clear ar
      try clear au
      try clear cj
      try clear ck
      try clear iC
      try clear iD
      try clear iE
      try clear cn
      try clear cb
      try clear cc
      try clear iF
      try clear b6
      try clear b7
      try clear iG
      try clear iH
      try clear iI
      try clear iP
      try clear jt
      try clear ju
      try clear jv
      try clear jw
      try clear jy
      try clear jz
      try clear jA
      try clear jB
      try clear jC
      try clear jD
      try clear aT aU aV aW aX aY aZ a2 a3 a4 a5 a6 a7 a8 a9 ba
      try clear bb bc bd be bf bg bh bi bj bl bm bn bo bp bq br
      try clear bu bv bw bA bB bC bD bE bG bH bI bJ bK bL bM bO
      try clear bP bQ bR bS bU bV bW bX bY bZ b0 b1 b2 b3 b4 b5
      try clear co cp cq cr ct cu cv cw cx cy cz cA cB cC cD cF
      try clear cG cH cI cJ cK cL cM cN cO cP cQ cR cS cT cV cW
      try clear cX cY cZ c5 c6 c7 c8 c9 da db dc dd de df dh di
      try clear dj dk dl dm dn dp dq dr ds dt du dv dw dx
      try clear dy dA dB dC dD dE dF dG dH dI dJ dK dL dM dN dO
      try clear dP dQ dR dS dT dU dV dW dY dZ d0 d5 d6 d7
      try clear d8 d9 ea eb ec ed ee ef eg eh ei ej ek em en eo
      try clear ep eq er et eu ev ew ey eA eB eC eD eE eG
      try clear eH eI eJ eK eL eM eN eO eP eQ eR eS eU eV eW eX
      try clear eY eZ e0 e1 e2 e3 e4 e5 e6 e7 e8 e9 fa fb
      try clear fc fe fg fh fi fj fk fl fm fo fp fq fs ft fu fv
      try clear fw fx fy fz fA fC fD fF fG fH fI fJ fK fL
      try clear fN fO fP fQ fR fS fT fU fV fX fY fZ f0 f2 f3 f4
      try clear f5 f6 f7 f8 f9 ga gb ge gf gg gh gi gj gk
      try clear gl gm gn gp gq gr gs gt gu gv gw gx gy gA gB gC
      try clear gD gE gF gG gH gI gJ gK gL gM gO gP gQ gR
      try clear gS gT gU gV gW gX gY gZ g0 g1 g2 g3 g4 g5 g6 g7
      try clear g8 g9 ha hc he hf hh hj hl hm hn ho hp hq
      try clear hr hs ht hu hv hw hx hy hz hA hB hC hD hG hH hI
      try clear hJ hK hL hM hO hP hQ hR hS hU hV hW hX hY
      try clear hZ h0 h1 h2 h3 h4 h5 h6 h7 h8 h9 ia ib ic id ie
      try clear ig ih ij ik il im io ip iq ir it iu iv iw
      try clear ax ay az aA aB aC aD aE aF aG aH aI aJ aK aL aM
      obtain⟨kq,X,af,rfl,HA,jO,B,HB⟩:=hcut
      cases kq with
      |zero=>exact absurd HA.out (by simp[zah.j3])
      |succ kP=>
       have H:=HA.out
       clear HA
       simp only[zah.j3] at H
       have iL:=zaa.mk H
       clear H
       go_upto_region 22 with(fail)
       go_cut [82] (fun lZ wc=> ∃(kq:Nat) (aO:Bool),lZ= .bool aO∧zaa (zah.j4 kq U X aO J K ac M af D E A=some (r1,r2))∧zaa (kq≤kP)∧zaa (wc.heap[I]? =some (.cells #[.bool J,.bool K,.bool ac,.bool M,.bool af,.int .i64 D,.int .i64 E,.int .i32 A] 26 (0,0)))∧zaa (Below w.heap.size w wc))
       case first=>
        have H:=iL.out
        clear iL
        by_cases ix:af=true
        ·subst ix
         replace H:=hT H
         have H':=zaa.mk H
         clear H
         obtain⟨iQ,iR,iS,iT,iU,iV,iW,iX,iY,iZ,i0,i1,i3,i4,i5,i6⟩:=cz8 (W:=wc) B
         go_wp2
         go_meet
         case rel=>exact⟨_,(!K),rz,H',⟨by have:=al.out;have:=ak.out;have:=jO.out;first|omega|exact Nat.le_refl _⟩,⟨bk⟩,⟨bz⟩⟩
        replace ix:=Bool.eq_false_iff.mpr ix
        subst ix
        replace H:=hF H
        have H':=zaa.mk H
        clear H
        obtain⟨i7,i9,ja,jb,jc,jd,je,jf,jg,jh,ji,jj,jk,jl,jm,jn⟩:=cz8 (W:=wc) B
        go_wp2
        go_meet
        case rel=>exact⟨_,(false),rz,H',⟨by have:=al.out;have:=ak.out;have:=jO.out;first|omega|exact Nat.le_refl _⟩,⟨bk⟩,⟨bz⟩⟩
       case rest=>
        clear iL
        try clear b8
        try clear ar
        try clear au
        try clear cj
        try clear ck
        try clear iC
        try clear iD
        try clear iE
        try clear cn
        try clear cb
        try clear cc
        try clear iF
        try clear b6
        try clear b7
        try clear iG
        try clear iH
        try clear iI
        try clear iP
        try clear jt
        try clear ju
        try clear jv
        try clear jw
        try clear jy
        try clear jz
        try clear jA
        try clear jB
        try clear jC
        try clear jD
        try clear ix
        try clear iQ iR iS iT iU iV iW iX iY iZ i0 i1 i3 i4 i5 i6
        try clear i7 i9 ja jb jc jd je jf jg jh ji jj jk jl jm jn
        try clear aT aU aV aW aX aY aZ a2 a3 a4 a5 a6 a7 a8 a9 ba
        try clear bb bc bd be bf bg bh bi bj bl bm bn bo bp bq br
        try clear bu bv bw bA bB bC bD bE bG bH bI bJ bK bL bM bO
        try clear bP bQ bR bS bU bV bW bX bY bZ b0 b1 b2 b3 b4 b5
        try clear co cp cq cr ct cu cv cw cx cy cz cA cB cC cD cF
        try clear cG cH cI cJ cK cL cM cN cO cP cQ cR cS cT cV cW
        try clear cX cY cZ c5 c6 c7 c8 c9 da db dc dd de df dh di
        try clear dj dk dl dm dn dp dq dr ds dt du dv dw dx
        try clear dy dA dB dC dD dE dF dG dH dI dJ dK dL dM dN dO
        try clear dP dQ dR dS dT dU dV dW dY dZ d0 d5 d6 d7
        try clear d8 d9 ea eb ec ed ee ef eg eh ei ej ek em en eo
        try clear ep eq er et eu ev ew ey eA eB eC eD eE eG
        try clear eH eI eJ eK eL eM eN eO eP eQ eR eS eU eV eW eX
        try clear eY eZ e0 e1 e2 e3 e4 e5 e6 e7 e8 e9 fa fb
        try clear fc fe fg fh fi fj fk fl fm fo fp fq fs ft fu fv
        try clear fw fx fy fz fA fC fD fF fG fH fI fJ fK fL
        try clear fN fO fP fQ fR fS fT fU fV fX fY fZ f0 f2 f3 f4
        try clear f5 f6 f7 f8 f9 ga gb ge gf gg gh gi gj gk
        try clear gl gm gn gp gq gr gs gt gu gv gw gx gy gA gB gC
        try clear gD gE gF gG gH gI gJ gK gL gM gO gP gQ gR
        try clear gS gT gU gV gW gX gY gZ g0 g1 g2 g3 g4 g5 g6 g7
        try clear g8 g9 ha hc he hf hh hj hl hm hn ho hp hq
        try clear hr hs ht hu hv hw hx hy hz hA hB hC hD hG hH hI
        try clear hJ hK hL hM hO hP hQ hR hS hU hV hW hX hY
        try clear hZ h0 h1 h2 h3 h4 h5 h6 h7 h8 h9 ia ib ic id ie
        try clear ig ih ij ik il im io ip iq ir it iu iv iw
        try clear ax ay az aA aB aC aD aE aF aG aH aI aJ aK aL aM
        obtain⟨kq,aO,rfl,HA,l0,B,HB⟩:=hcut
        cases kq with
        |zero=>exact absurd HA.out (by simp[zah.j4])
        |succ l1=>
         have H:=HA.out
         clear HA
         simp only[zah.j4] at H
         by_cases iN:aO=true
         ·subst iN
          replace H:=hT H
          obtain⟨ci,aS⟩: ∃j_:Int,(mn D 1000)=j_:=⟨_,rfl⟩
          (first|rw[aS] at H|simp only[aS] at H)
          have js:(if 1000<D then 1000 else D)=ci:=aS
          obtain⟨ap,aP⟩: ∃j_:Int,(mx 0 (ci))=j_:=⟨_,rfl⟩
          (first|rw[aP] at H|simp only[aP] at H)
          have iy:(if 0<(ci) then(ci) else 0)=ap:=aP
          replace H:=bs H
          obtain⟨av,iO,H⟩:=H
          by_cases iz:av.size+X.size≤9223372036854775807
          ·replace H:=hE H iz
           have kX:=eq_true iz
           have kY:decide (av.size+X.size≤9223372036854775807)=true:=decide_eq_true iz
           try have kZ:(9223372036854775807<av.size+X.size)=False:=eq_false (Nat.not_lt.2 iz)
           by_cases iA:U.size+(av++X).size≤9223372036854775807
           ·replace H:=hE H iA
            have k0:=eq_true iA
            have k2:decide (U.size+(av++X).size≤9223372036854775807)=true:=decide_eq_true iA
            try have k3:(9223372036854775807<U.size+(av++X).size)=False:=eq_false (Nat.not_lt.2 iA)
            replace H:=bs H
            obtain⟨kQ,kR,H⟩:=H
            simp only[Option.some.injEq,Prod.mk.injEq] at H
            obtain⟨rfl,rfl⟩:=H
            obtain⟨jS,jT,jU,jV,jW,jX,jY,jZ,j5,j6,j7,j8,j9,ka,kb,kc⟩:=cz8 (W:=wc) B
            have hbl_:0≤ap:=by rw[←iy];split<;>omega
            have hbh_:ap≤1000:=by rw[←iy,←js];repeat' split<;>omega
            have hs_:U.size+(av.size+X.size)≤9223372036854775807:=by have h_:U.size+(av++X).size≤9223372036854775807:=of_decide_eq_true (by assumption);rw[ByteArray.size_append] at h_;exact h_
            have jP:wrap64 (ap-(U.size:Int))=ap-(U.size:Int):=by unfold wrap64;omega
            have jQ:wrap64 (ap-(U.size:Int)-(X.size:Int))=ap-(U.size:Int)-(X.size:Int):=by unfold wrap64;omega
            have A_:=iO.out
            clear iO
            rw[jP,jQ] at A_
            clear jP jQ
            have iO:=zaa.mk A_
            clear A_
            go_wp2_with (first|((with_reducible refine zac (f:=27) rfl ?_);refine zal (some 93) rfl rfl Tryz.func27 (by kernel_rfl) rfl #[.int .u8 48,.int .i64 (ap-(U.size:Int)-(X.size:Int))] rfl (by(try simp only[List.map_toArray,List.map_cons,List.map_nil]);first|done|(simp only[aP];rfl)|rfl|(simp only[List.length_drop,List.length_take];rfl)) ?_;(with_reducible refine(zbC.calls 48 (ap-(U.size:Int)-(X.size:Int)) av _ iO.out).mono ?_);rintro e kS ⟨rfl,hb⟩;refine⟨_,rfl,?_⟩;replace B:=kN (g:=I) (cs:=#[.bool J,.bool K,.bool ac,.bool M,.bool af,.int .i64 D,.int .i64 E,.int .i32 A]) hb bk;replace HB:=bN bz hb;(try clear hb);(try clear aQ);(try clear hk);(try clear hi);obtain⟨kf,kg,kh,ki,kj,kk,kl,km,kn,ko,kp,kr,kt,ku,kv,kw⟩:=cz8 (W:=kS) B)|((with_reducible refine zac (f:=45) rfl ?_);refine zal (some 101) rfl rfl Tryz.func45 (by kernel_rfl) rfl #[.string (U++(av++X)),.agg #[.bool J,.bool K,.bool ac,.bool M,.bool false,.int .i64 D,.int .i64 E,.int .i32 A]] rfl lz ?_;(with_reducible refine(zbD.calls (U++(av++X)) J K ac M false D E A kQ _ kR.out).mono ?_);rintro e l6 ⟨rfl,hb⟩;refine⟨_,rfl,?_⟩;replace B:=kN (g:=I) (cs:=#[.bool J,.bool K,.bool ac,.bool M,.bool false,.int .i64 D,.int .i64 E,.int .i32 A]) hb bk;replace HB:=bN bz hb;(try clear hb);(try clear aQ);(try clear hk);(try clear hi)))
            go_ret2
            exact⟨by first|rfl|(simp[zan,zao]<;>rfl)|(simp only[←aS,←aP];first|rfl|(simp[zan,zao]<;>rfl))|(simp[*,zan,zao]<;>rfl),bz⟩
           replace H:=hN H iA
           exact absurd H (by simp)
          replace H:=hN H iz
          exact absurd H (by simp)
         replace iN:=Bool.eq_false_iff.mpr iN
         subst iN
         replace H:=hF H
         by_cases iB:U.size+X.size≤9223372036854775807
         ·replace H:=hE H iB
          have k4:=eq_true iB
          have k5:decide (U.size+X.size≤9223372036854775807)=true:=decide_eq_true iB
          try have k6:(9223372036854775807<U.size+X.size)=False:=eq_false (Nat.not_lt.2 iB)
          replace H:=bs H
          obtain⟨kT,kU,H⟩:=H
          simp only[Option.some.injEq,Prod.mk.injEq] at H
          obtain⟨rfl,rfl⟩:=H
          obtain⟨kx,ky,kz,kA,kB,kC,kD,kE,kF,kG,kH,kI,kJ,kK,kL,kM⟩:=cz8 (W:=wc) B
          go_wp2_with (first|((with_reducible refine zac (f:=45) rfl ?_);refine zal (some 101) rfl rfl Tryz.func45 (by kernel_rfl) rfl #[.string (U++X),.agg #[.bool J,.bool K,.bool ac,.bool M,.bool false,.int .i64 D,.int .i64 E,.int .i32 A]] rfl lz ?_;(with_reducible refine(zbD.calls (U++X) J K ac M false D E A kT _ kU.out).mono ?_);rintro e l7 ⟨rfl,hb⟩;refine⟨_,rfl,?_⟩;replace B:=kN (g:=I) (cs:=#[.bool J,.bool K,.bool ac,.bool M,.bool false,.int .i64 D,.int .i64 E,.int .i32 A]) hb bk;replace HB:=bN bz hb;(try clear hb);(try clear aQ);(try clear hk);(try clear hi)))
          go_ret2
          exact⟨ez,bz⟩
         replace H:=hN H iB
         exact absurd H (by simp)
end Go.Proofs.YtecpgdfnamkfdaaGreatDoor.Fn
end
section
namespace Go.Proofs.YtecpgdfnamkfdaaGreatDoor.Pure
open Go.RowKit Go.Proofs.YtecpgdfnamkfdaaGreatDoorW.PrintWords Go.Proofs.YtecpgdfnamkfdaaGreatDoorW.PrintLast Go.Proofs.YtecpgdfnamkfdaaGreatDoorW.PrintMore Go.Proofs.YtecpgdfnamkfdaaGreatDoor.Fn
set_option linter.unusedVariables false
set_option linter.unusedSimpArgs false
def codeV(v:Int):Int:=if v=101∨v=69 then 1 else if v=102∨v=70 then 2 else if v=103∨v=71∨v=118 then 3 else if v=98 then 4 else if v=120∨v=88 then 5 else 0
theorem zhd(v:Int)(k:Nat):zaG.f (k+3) v=some (codeV v):=by
  unfold codeV zaG.f
  simp only[zaG.j0,zaG.j1,zaG.j2]
  by_cases d1:v=101
  · subst d1;rfl
  by_cases d2:v=69
  · subst d2;rfl
  by_cases d3:v=102
  · subst d3;rfl
  by_cases d4:v=70
  · subst d4;rfl
  by_cases d5:v=103
  · subst d5;rfl
  by_cases d6:v=71
  · subst d6;rfl
  by_cases d7:v=118
  · subst d7;rfl
  by_cases d8:v=98
  · subst d8;rfl
  by_cases d9:v=120
  · subst d9;rfl
  by_cases A:v=88
  · subst A;rfl
  simp[d1,d2,d3,d4,d5,d6,d7,d8,d9,A]
theorem zhe(v:Int):Ev (fun k=>zaG.f k v) (codeV v):=
  ⟨3,fun k hk=>by obtain⟨j,rfl⟩: ∃j,k=j+3:=⟨k-3,by omega⟩;exact zhd v j⟩
theorem zhV(v:Int):0≤codeV v∧codeV v≤5:=by
  unfold codeV
  repeat' split
  all_goals decide
def signL(neg:Bool)(kind:Int)(plus space:Bool):List UInt8:=if neg=true∧kind≠2 then [45] else if plus then [43] else if space then [32] else if kind=1 then [43] else []
theorem zej(neg:Bool)(kind:Int)(plus space:Bool):(signL neg kind plus space).length≤1∧Asc (signL neg kind plus space):=by
  unfold signL
  repeat' split
  all_goals exact⟨by decide,by decide⟩
def clamp(prec:Int):Int:=max (-1) (min prec 1000)
theorem zhW(prec:Int): -1≤clamp prec∧clamp prec≤1000:=by unfold clamp;omega
def restL(wide:Bool)(p m:Nat)(e prec v:Int)(sharp:Bool):List UInt8:=
  if codeV v=1 then scaledL (sharp&&v !=118) (bigV v) (exD m e) (six prec)
  else if codeV v=2 then fixedL (sharp&&v !=118) (exD m e) (six prec)
  else if codeV v=3 then genOf wide p m e prec (sharp&&v !=118) (bigV v)
  else if codeV v=4 then binL m e
  else hexL m e prec (sharp&&v !=118) (v==88)
def Fit(l:List UInt8):Prop:=Asc l∧l.length≤100000
theorem zeQ{l:List UInt8}(h:Asc l)(hl:l.length≤50000)(dot big:Bool)(e:Int):Fit (sciL dot big l e):=by
  refine⟨zhK h dot big e,?_⟩
  have h1:=zcb dot (l.take 1) (l.drop 1)
  have h2:=zcB (eMark big) (e:=e) (least:=2) (by decide)
  have hm:(eMark big).length=1:=by cases big<;>rfl
  rw[List.length_take,List.length_drop] at h1
  unfold sciL
  rw[List.length_append]
  omega
theorem zdB{l:List UInt8}(h:Asc l)(hl:l.length≤20000)(dot:Bool){p:Int}(hp: -20000≤p∧p≤20000):Fit (aroundL dot l p):=by
  refine⟨zfS h dot p,?_⟩
  have hf:=zbA l p
  unfold aroundL
  split
  · have h1:=zcb dot [48] (zsL (-p).toNat++l)
    rw[List.length_append,zbu] at h1
    simp at h1
    omega
  · have h1:=zcb dot ((fillL l p).take p.toNat) ((fillL l p).drop p.toNat)
    rw[List.length_take,List.length_drop] at h1
    omega
theorem zgt{v:List UInt8×Int}(h:Near v)(dot big:Bool){p:Int}(hp:0≤p∧p≤1000):Fit (scaledL dot big v p):=by
  have hb:=zb5 h (p+1)
  have hf:=zbA (roundN v.1 v.2 (p+1)).1 (p+1)
  exact zeQ (zbX (zdy h.form (p+1)).1.asc _) (by omega) dot big _
theorem zhf{v:List UInt8×Int}(h:Near v)(dot:Bool){p:Int}(hp:0≤p∧p≤1000):Fit (fixedL dot v p):=by
  have hb:=zb5 h (v.2+p)
  have ha:=(zdy h.form (v.2+p)).1.asc
  unfold fixedL
  generalize roundN v.1 v.2 (v.2+p)=d at*
  split
  · refine⟨zcz (by decide) (zcV _) dot,?_⟩
    have h1:=zcb dot [48] (zsL p.toNat)
    rw[zbu] at h1
    simp at h1
    omega
  · split
    · refine⟨zcz (by decide) (zbX ((zcV _).app ha) _) dot,?_⟩
      have h1:=zcb dot [48] (fillL (zsL (-d.2).toNat++d.1) p)
      have hf:=zbA (zsL (-d.2).toNat++d.1) p
      rw[List.length_append,zbu] at hf
      simp at h1
      omega
    · have hf:=zbA d.1 (d.2+p)
      exact zdB (zbX ha _) (by omega) dot (by omega)
theorem zgc{d:List UInt8×Int}(ha:Asc d.1)(hd:d.1.length≤2000∧ -4000≤d.2∧d.2≤1500)(dot big:Bool){keep top:Int}(hk:1≤keep∧keep≤1000):Fit (genL dot big d keep top):=by
  have hfb:=zcu (d:=d) hd.2
  unfold genL
  dsimp only
  have hl:Asc (if d.1=[] then [48] else d.1)∧(if d.1=[] then([48]:List UInt8) else d.1).length≤2000:=by
    split
    · exact⟨by decide,by decide⟩
    · exact⟨ha,hd.1⟩
  generalize (if d.1=[] then([48]:List UInt8) else d.1)=l at*
  have hm:Asc (if dot=true then fillL l keep else l)∧(if dot=true then fillL l keep else l).length≤3000:=by
    have hf:=zbA l keep
    split
    · exact⟨zbX hl.1 _,by omega⟩
    · exact⟨hl.1,by omega⟩
  split
  · exact zeQ hm.1 (by omega) dot big _
  · exact zdB hm.1 (by omega) dot (by omega)
theorem zdR(wide:Bool){p:Nat}(hp:p<ii wide):InForm (shortL wide p).1 (shortL wide p).2∧(shortL wide p).1.length≤2000∧ -4000≤(shortL wide p).2∧(shortL wide p).2≤1500:=by
  unfold shortL
  by_cases c:p=0
  · rw[if_pos c];exact⟨⟨AllD.nil,fun c t e=>(by cases e),rfl,fun _=>rfl⟩,by decide,by decide,by decide⟩
  · rw[if_neg c]
    obtain⟨M,h1,h2,h3⟩:=zdz wide p
    have hv:=zco wide hp
    have hl:=hv.len
    have hlo:=hv.lo
    have hhi:=hv.hi
    rcases zdQ h2 with⟨_,e⟩|⟨hn,u,hu,e,_⟩
    · rw[e];exact⟨hv.form,by omega,by omega,by omega⟩
    · have hc:=zgq hv M hn
      have A:u<10^(M+1):=by
        rw[Nat.pow_succ]
        have:1≤10^M:=Nat.pow_pos (by decide)
        rcases hu with hu|hu<;>omega
      have hb:=zbT A (cE (exV wide p) M)
      rw[e]
      unfold cE at hb ⊢
      exact⟨zbr _ _,by omega,by omega,by omega⟩
theorem zhg(wide:Bool){p:Nat}(hp:p<ii wide){m:Nat}(hm:m<18446744073709551616){e:Int}(h: -1200≤e∧e≤1200){prec:Int}(hq: -1≤prec∧prec≤1000)(dot big:Bool):Fit (genOf wide p m e prec dot big):=by
  unfold genOf
  split
  · have:=zdR wide hp
    exact zgc this.1.1.asc this.2 dot big (by decide)
  · have hn:=zcZ hm h
    have hb:=zb5 hn (max prec 1)
    exact zgc (zdy hn.form _).1.asc (by omega) dot big (by omega)
theorem ziW(m:Nat)(e:Int):Fit (binL m e):=by
  refine⟨(zfB (by decide) m).app (zdv (by decide) e 1),?_⟩
  have h1:=zex 10 m
  have h2:=zcB ([112]:List UInt8) (e:=e) (least:=1) (by decide)
  unfold binL
  rw[List.length_append]
  simp at h2
  omega
set_option maxRecDepth 100000 in
theorem zhh(b:UInt8)(h:b.toNat<128):(Lib.upperB b).toNat<128:=by
  have key: ∀n:Fin 256,n.val<128→(Lib.upperB (UInt8.ofNat n.val)).toNat<128:=by decide
  have:=key ⟨b.toNat,b.toNat_lt⟩ h
  rwa [UInt8.ofNat_toNat] at this
theorem zdC{lead ds:List UInt8}(hl:lead.length≤10∧Asc lead)(hd:ds.length≤2000∧Asc ds)(dot up:Bool)(x:Int):Fit (hexEnd dot up lead ds x):=by
  have h1:=zcb dot lead ds
  have h2:=zcB ([112]:List UInt8) (e:=x) (least:=2) (by decide)
  have ha:Asc ([48,120]++(ptL dot lead ds++powL [112] x 2)):=Asc.app (by decide) ((zcz hl.2 hd.2 dot).app (zdv (by decide) x 2))
  have hlen:([48,120]++(ptL dot lead ds++powL [112] x 2)).length≤100000:=by simp at h2 ⊢;omega
  unfold hexEnd
  split
  · refine⟨fun c hc=>?_,by unfold Lib.toUpperA;rw[List.length_map];exact hlen⟩
    unfold Lib.toUpperA at hc
    obtain⟨b,hb,rfl⟩:=List.mem_map.1 hc
    exact zhh b (ha b hb)
  · exact⟨ha,hlen⟩
theorem zd5(dot up:Bool){lead:List UInt8}(hl:lead.length≤10∧Asc lead){part:Nat}(hp:part≤18446744073709551615)(x:Int){prec:Int}(hq: -1≤prec∧prec≤1000):Fit (hexTail dot up lead part x prec):=by
  have hs:=zeh hp
  unfold hexTail
  split
  · exact zdC hl ⟨by have:=zg7 (sixL part);omega,zg6 (zcW _)⟩ dot up x
  · split
    · have hf:=zbA (sixL part) prec
      exact zdC hl ⟨by omega,zbX (zcW _) _⟩ dot up x
    · unfold hexMid
      dsimp only
      refine zdC hl ?_ dot up _
      split
      · exact⟨by decide,Asc.nil⟩
      · refine⟨?_,(zcW _).take _⟩
        rw[List.length_take]
        omega
theorem ziX(m:Nat)(e:Int){prec:Int}(hq: -1≤prec∧prec≤1000)(dot up:Bool):Fit (hexL m e prec dot up):=by
  unfold hexL
  split
  · exact zd5 dot up ⟨by decide,by decide⟩ (by decide) _ hq
  · exact zd5 dot up ⟨by decide,by decide⟩ (by omega) _ hq
theorem zhi{prec:Int}(hq: -1≤prec∧prec≤1000):0≤six prec∧six prec≤1000:=by unfold six;split<;>omega
theorem zhX(wide:Bool){p:Nat}(hp:p<ii wide){m:Nat}(hm:m<18446744073709551616){e:Int}(h: -1200≤e∧e≤1200){prec:Int}(hq: -1≤prec∧prec≤1000)(v:Int)(sharp:Bool):Fit (restL wide p m e prec v sharp):=by
  have hn:=zcZ hm h
  unfold restL
  repeat' split
  · exact zgt hn _ _ (zhi hq)
  · exact zhf hn _ (zhi hq)
  · exact zhg wide hp hm h hq _ _
  · exact ziW m e
  · exact ziX m e hq _ _
def endL(sign rest:List UInt8)(minus zero:Bool)(wid:Int):List UInt8:=
  padL (sign++(if zero&& !minus then List.replicate (max 0 (min wid 1000)-sign.length-rest.length).toNat 48++rest else rest)) minus false wid
theorem zfM{sign rest:List UInt8}(hs:sign.length≤1∧Asc sign)(hr:Fit rest)(plus minus sharp space zero:Bool)(wid prec v:Int):
    Ev (fun k=>zah.j3 k (S sign) (S rest) plus minus sharp space zero wid prec v) (S (endL sign rest minus zero wid),true):=by
  have ha:=hr.1
  have hl:=hr.2
  have key: ∀u:Bool,Ev (fun k=>zah.j4 k (S sign) (S rest) u plus minus sharp space zero wid prec v) (S (padL (sign++(if u then List.replicate (max 0 (min wid 1000)-sign.length-rest.length).toNat 48++rest else rest)) minus false wid),true):=by
    intro u
    refine Ev.step (fun k=>by simp only[zah.j4];rfl) ?_
    cases u with
    |true=>
      refine Ev.congr (fun k=>if_pos rfl) ?_
      rw[if_pos rfl,zaE,zaE,zc8,zfm,w64 (x:=max 0 (min wid 1000)-(sign.length:Int)) (by omega) (by omega),w64 (by omega) (by omega)]
      have hf:=zf6 48 (max 0 (min wid 1000)-(sign.length:Int)-(rest.length:Int))
      rw[show(((48:UInt8).toNat:Nat):Int)=48 from rfl,show(min (max 0 (min wid 1000)-(sign.length:Int)-(rest.length:Int)) 1000).toNat=(max 0 (min wid 1000)-(sign.length:Int)-(rest.length:Int)).toNat by omega] at hf
      rw[hf]
      simp only[Option.bind_some]
      generalize hz:(max 0 (min wid 1000)-(sign.length:Int)-(rest.length:Int)).toNat=n
      have hn:n≤1000:=by omega
      refine Ev.congr (fun k=>if_pos (by rw[zaE,List.length_replicate];omega)) ?_
      rw[zb7]
      refine Ev.congr (fun k=>if_pos (by rw[zaE,List.length_append,List.length_replicate];omega)) ?_
      rw[zb7,zgY (hs.2.app ((Asc.rep n (by decide)).app ha)) (by rw[List.length_append,List.length_append,List.length_replicate];omega)]
      exact Ev.now _
    |false=>
      refine Ev.congr (fun k=>if_neg (by simp)) ?_
      show Ev _ (S (padL (sign++rest) minus false wid),true)
      refine Ev.congr (fun k=>if_pos (by rw[zaE,zaE];omega)) ?_
      rw[zb7,zgY (hs.2.app ha) (by rw[List.length_append];omega)]
      exact Ev.now _
  refine Ev.step (fun k=>by simp only[zah.j3];rfl) ?_
  unfold endL
  cases zero with
  |true=>exact Ev.congr (fun k=>if_pos rfl) (key (!minus))
  |false=>exact Ev.congr (fun k=>if_neg (by simp)) (key false)
def floatS(wide:Bool)(a:Nat)(plus minus sharp space zero:Bool)(wid prec v:Int):ByteArray×Bool:=
  if codeV v=0 then(⟨#[]⟩,false)
  else if bareN wide a<ii wide then(S (endL (signL (a / tt wide%2==1) 0 plus space) (restL wide (bareN wide a) (fM (ff wide) (bareN wide a)) ((fE (ff wide) (bareN wide a):Int)-(ll wide:Int)) (clamp prec) v sharp) minus zero wid),true)
  else if bareN wide a=ii wide then(S (endL (signL (a / tt wide%2==1) 1 plus space) [73,110,102] minus false wid),true)
  else(S (endL (signL (a / tt wide%2==1) 2 plus space) [78,97,78] minus false wid),true)
theorem zgd{R:ByteArray×Bool}(x0 x1 x9 B A D:Int)(neg plus minus sharp space zero:Bool)(wid prec v:Int)
    (h:Ev (fun k=>zah.j2 k x0 x1 x9 B A D (S (signL neg A plus space)) plus minus sharp space zero wid prec v) R) (u:Bool) (hu:u=decide (neg=true∧A≠2)):
    Ev (fun k=>zah.j1 k x0 x1 x9 B A D (⟨#[]⟩:ByteArray) u plus minus sharp space zero wid prec v) R:=by
  unfold signL at h
  refine Ev.step (fun k=>by simp only[zah.j1];rfl) ?_
  by_cases c:neg=true∧A≠2
  · have:u=true:=by rw[hu];exact decide_eq_true c
    subst this
    rw[if_pos c] at h
    exact Ev.congr (fun k=>if_pos rfl) h
  · have:u=false:=by rw[hu];exact decide_eq_false c
    subst this
    rw[if_neg c] at h
    refine Ev.congr (fun k=>if_neg (by simp)) ?_
    cases plus with
    |true=>exact Ev.congr (fun k=>if_pos rfl) h
    |false=>
      refine Ev.congr (fun k=>if_neg (by simp)) ?_
      cases space with
      |true=>exact Ev.congr (fun k=>if_pos rfl) h
      |false=>
        refine Ev.congr (fun k=>if_neg (by simp)) ?_
        by_cases c1:A=1
        · rw[if_neg (by simp),if_neg (by simp),if_pos c1] at h
          exact Ev.congr (fun k=>if_pos c1) h
        · rw[if_neg (by simp),if_neg (by simp),if_neg c1] at h
          exact Ev.congr (fun k=>if_neg c1) h
theorem zhj(prec:Int):mx (-1) (mn prec 1000)=clamp prec:=by rw[zc8,zfm];rfl
theorem ziY(wide:Bool){a p:Nat}(ha:a<18446744073709551616)(hb:bareN wide a=p)(hp:p<ii wide){m:Nat}(hm:m<18446744073709551616){e:Int}(h: -1200≤e∧e≤1200){sign:List UInt8}(hs:sign.length≤1∧Asc sign)(plus minus sharp space zero:Bool)(wid prec v:Int)(hc:codeV v≠0):
    Ev (fun k=>zah.j2 k (a:Int) (szB wide) (m:Int) e 0 (codeV v) (S sign) plus minus sharp space zero wid prec v) (S (endL sign (restL wide p m e (clamp prec) v sharp) minus zero wid),true):=by
  have hq:=zhW prec
  have hfit:=zhX wide hp hm h hq v sharp
  have hend:=zfM hs hfit plus minus sharp space zero wid prec v
  have hsl:=(zdR wide hp).2
  have hcl:=zhV v
  refine Ev.step (fun k=>by simp only[zah.j2];rfl) ?_
  refine Ev.congr (fun k=>if_neg (by decide)) ?_
  refine Ev.congr (fun k=>if_neg (by decide)) ?_
  rw[zhj]
  have way: ∀dot:Bool,dot=(sharp&&v !=118)→Ev (fun k=>if codeV v=1 then((zax.f k (a:Int) (szB wide) (m:Int) e (clamp prec) dot v).bind fun A=>(zah.j3 k (S sign) A plus minus sharp space zero wid prec v)) else(if codeV v=2 then((zat.f k (a:Int) (szB wide) (m:Int) e (clamp prec) dot v).bind fun B=>(zah.j3 k (S sign) B plus minus sharp space zero wid prec v)) else(if codeV v=3 then((zap.f k (a:Int) (szB wide) (m:Int) e (clamp prec) dot v).bind fun D=>(zah.j3 k (S sign) D plus minus sharp space zero wid prec v)) else(if codeV v=4 then((zaS.f (a:Int) (szB wide) (m:Int) e (clamp prec) dot v).bind fun E=>(zah.j3 k (S sign) E plus minus sharp space zero wid prec v)) else(if codeV v=5 then((zai.f k (a:Int) (szB wide) (m:Int) e (clamp prec) dot v).bind fun I=>(zah.j3 k (S sign) I plus minus sharp space zero wid prec v)) else none)))))
      (S (endL sign (restL wide p m e (clamp prec) v sharp) minus zero wid),true):=by
    intro dot hd
    unfold restL at hend ⊢
    rw[←hd] at hend ⊢
    by_cases c1:codeV v=1
    · rw[if_pos c1] at hend ⊢
      exact Ev.congr (fun k=>if_pos c1) (Ev.bind (zg5 _ _ hm h hq v dot) hend)
    · rw[if_neg c1] at hend ⊢
      refine Ev.congr (fun k=>if_neg c1) ?_
      by_cases c2:codeV v=2
      · rw[if_pos c2] at hend ⊢
        exact Ev.congr (fun k=>if_pos c2) (Ev.bind (zhO _ _ hm h hq v dot) hend)
      · rw[if_neg c2] at hend ⊢
        refine Ev.congr (fun k=>if_neg c2) ?_
        by_cases c3:codeV v=3
        · rw[if_pos c3] at hend ⊢
          exact Ev.congr (fun k=>if_pos c3) (Ev.bind (zjv wide ha hb hp hsl hm h hq v dot) hend)
        · rw[if_neg c3] at hend ⊢
          refine Ev.congr (fun k=>if_neg c3) ?_
          by_cases c4:codeV v=4
          · rw[if_pos c4] at hend ⊢
            refine Ev.congr (fun k=>if_pos c4) ?_
            rw[zgX _ _ _ _ _ (by omega) (by omega)]
            exact hend
          · rw[if_neg c4] at hend ⊢
            refine Ev.congr (fun k=>if_neg c4) ?_
            exact Ev.congr (fun k=>if_pos (by omega)) (Ev.bind (zjw _ _ v dot hm h hq) hend)
  cases sharp with
  |true=>exact Ev.congr (fun k=>if_pos rfl) (way (v !=118) (by simp))
  |false=>exact Ev.congr (fun k=>if_neg (by simp)) (way false rfl)
theorem zdD(wide:Bool){a:Nat}(ha:a<18446744073709551616)(plus minus sharp space zero:Bool)(wid prec v:Int):
    Ev (fun k=>zah.f k (a:Int) (szB wide) plus minus sharp space zero wid prec v) (floatS wide a plus minus sharp space zero wid prec v):=by
  have hi:=zcE wide
  unfold zah.f floatS
  rw[parts_eq wide a ha]
  simp only[Option.bind_some]
  refine Ev.bind (zhe v) ?_
  have hk: ∀x:Int,x=(partsS wide a).2.2.2→x≠3:=by
    intro x hx
    rw[hx]
    unfold partsS
    split
    · exact(by decide:(0:Int)≠3)
    · dsimp only;split<;>decide
  refine Ev.congr (fun k=>if_neg (hk _ rfl)) ?_
  refine Ev.step (fun k=>by simp only[zah.j0];rfl) ?_
  by_cases c0:codeV v=0
  · rw[if_pos c0]
    exact Ev.congr (fun k=>if_pos (beq_iff_eq.mpr c0)) (Ev.now _)
  · rw[if_neg c0]
    refine Ev.congr (fun k=>if_neg (by rw[beq_eq_false_iff_ne.mpr c0];simp)) ?_
    have signs: ∀{R:ByteArray×Bool} (x9 B A:Int) (neg:Bool),Ev (fun k=>zah.j2 k (a:Int) (szB wide) x9 B A (codeV v) (S (signL neg A plus space)) plus minus sharp space zero wid prec v) R→
        Ev (fun k=>if neg=true then(zah.j1 k (a:Int) (szB wide) x9 B A (codeV v) (⟨#[]⟩:ByteArray) (A !=2) plus minus sharp space zero wid prec v) else(zah.j1 k (a:Int) (szB wide) x9 B A (codeV v) (⟨#[]⟩:ByteArray) false plus minus sharp space zero wid prec v)) R:=by
      intro R x9 B A neg h
      cases neg with
      |true=>exact Ev.congr (fun k=>if_pos rfl) (zgd _ _ _ _ _ _ true plus minus sharp space zero wid prec v h _ (by rw[Bool.eq_iff_iff];simp))
      |false=>exact Ev.congr (fun k=>if_neg (by simp)) (zgd _ _ _ _ _ _ false plus minus sharp space zero wid prec v h _ (by rw[Bool.eq_iff_iff];simp))
    by_cases c1:bareN wide a<ii wide
    · rw[if_pos c1]
      have hb:=fEl wide (Nat.le_of_lt c1)
      have D:=zc9 wide (Nat.le_of_lt c1)
      have e1:partsS wide a=((a / tt wide%2==1:Bool),(fM (ff wide) (bareN wide a):Int),(fE (ff wide) (bareN wide a):Int)-(ll wide:Int),0):=by
        unfold partsS;rw[if_pos c1]
      rw[e1]
      exact signs _ _ _ _ (ziY (m:=fM (ff wide) (bareN wide a)) (e:=(fE (ff wide) (bareN wide a):Int)-(ll wide:Int)) wide ha rfl c1 (by omega) (by omega) (zej _ _ _ _) plus minus sharp space zero wid prec v c0)
    · rw[if_neg c1]
      have e1:partsS wide a=((a / tt wide%2==1:Bool),0,0,if bareN wide a=ii wide then 1 else 2):=by
        unfold partsS;rw[if_neg c1]
      rw[e1]
      by_cases c2:bareN wide a=ii wide
      · rw[if_pos c2,if_pos c2]
        refine signs _ _ _ _ ?_
        refine Ev.step (fun k=>by simp only[zah.j2];rfl) ?_
        refine Ev.congr (fun k=>if_neg (by decide)) ?_
        refine Ev.congr (fun k=>if_pos (by first|trivial|rfl)) ?_
        exact zfM (rest:=[73,110,102]) (zej _ _ _ _) ⟨by decide,by decide⟩ plus minus sharp space false wid prec v
      · rw[if_neg c2,if_neg c2]
        refine signs _ _ _ _ ?_
        refine Ev.step (fun k=>by simp only[zah.j2];rfl) ?_
        refine Ev.congr (fun k=>if_pos (by first|trivial|rfl)) ?_
        exact zfM (rest:=[78,97,78]) (zej _ _ _ _) ⟨by decide,by decide⟩ plus minus sharp space false wid prec v
end Go.Proofs.YtecpgdfnamkfdaaGreatDoor.Pure
end
section
namespace Go.Proofs.YtecpgdfnamkfdaaGreatDoor.Fn
open Go.RowKit Go.Proofs.YtecpgdfnamkfdaaGreatDoorW.PrintWords Go.Proofs.YtecpgdfnamkfdaaGreatDoorW.PrintLast Go.Proofs.YtecpgdfnamkfdaaGreatDoorW.PrintMore
set_option linter.unusedVariables false
set_option linter.unusedSimpArgs false
set_option maxHeartbeats 8000000
set_option maxRecDepth 100000
section
attribute [local go_sem] fnW_0 fnW_1 fnW_2 fnW_3 fnW_4 fnW_5 fnW_guard fnW_eql zaK zaL zaQ zaR
def zbi.f(k:Nat):Option (Bool):=(zay.f 101).bind fun A=>((zah.f k 4609434218613702656 64 A.1 A.2.1 A.2.2.1 A.2.2.2.1 A.2.2.2.2.1 A.2.2.2.2.2.1 A.2.2.2.2.2.2.1 A.2.2.2.2.2.2.2).bind fun E=>((zay.f 118).bind fun B=>((zah.f k 4591870180066957722 64 B.1 B.2.1 B.2.2.1 B.2.2.2.1 B.2.2.2.2.1 B.2.2.2.2.2.1 B.2.2.2.2.2.2.1 B.2.2.2.2.2.2.2).bind fun I=>((zay.f 100).bind fun D=>((zah.f k 0 64 D.1 D.2.1 D.2.2.1 D.2.2.2.1 D.2.2.2.2.1 D.2.2.2.2.2.1 D.2.2.2.2.2.2.1 D.2.2.2.2.2.2.2).bind fun J=>(if E.2=true then(if I.2=true then(if J.2=true then(some false) else(if E.1.toList=([49,46,53,48,48,48,48,48,101,43,48,48]:List UInt8) then(some (I.1.toList==([48,46,49]:List UInt8))) else(some false))) else(some false)) else(some false)))))))
theorem zbi.calls(k:Nat)(r:Bool)(w:World)(h:zbi.f k=some r):
  Calls Tryz.prog 23 #[] w fun e w'=>e= .returned (.bool r)∧Below w.heap.size w w':=by
 have HB:=zaa.mk (Below.refl w.heap.size w)
 have H:((zay.f 101).bind fun am=>((zah.f k 4609434218613702656 64 am.1 am.2.1 am.2.2.1 am.2.2.2.1 am.2.2.2.2.1 am.2.2.2.2.2.1 am.2.2.2.2.2.2.1 am.2.2.2.2.2.2.2).bind fun aw=>((zay.f 118).bind fun an=>((zah.f k 4591870180066957722 64 an.1 an.2.1 an.2.2.1 an.2.2.2.1 an.2.2.2.2.1 an.2.2.2.2.2.1 an.2.2.2.2.2.2.1 an.2.2.2.2.2.2.2).bind fun ax=>((zay.f 100).bind fun ao=>((zah.f k 0 64 ao.1 ao.2.1 ao.2.2.1 ao.2.2.2.1 ao.2.2.2.2.1 ao.2.2.2.2.2.1 ao.2.2.2.2.2.2.1 ao.2.2.2.2.2.2.2).bind fun aA=>(if aw.2=true then(if ax.2=true then(if aA.2=true then(some false) else(if aw.1.toList=([49,46,53,48,48,48,48,48,101,43,48,48]:List UInt8) then(some (ax.1.toList==([48,46,49]:List UInt8))) else(some false))) else(some false)) else(some false))))))))=some r:=h
 clear h
 replace H:=bs H
 obtain⟨⟨B,D,E,I,J,K,M,O⟩,A1,H⟩:=H
 dsimp only at H
 replace H:=bs H
 obtain⟨⟨ap,aD⟩,A2,H⟩:=H
 dsimp only at H
 replace H:=bs H
 obtain⟨⟨U,X,Y,Z,aa,ab,ac,ad⟩,A3,H⟩:=H
 dsimp only at H
 replace H:=bs H
 obtain⟨⟨ar,az⟩,A4,H⟩:=H
 dsimp only at H
 replace H:=bs H
 obtain⟨⟨ae,af,ag,ah,ai,aj,ak,al⟩,A5,H⟩:=H
 dsimp only at H
 replace H:=bs H
 obtain⟨⟨au,ay⟩,A6,H⟩:=H
 dsimp only at H
 by_cases c7:aD=true
 ·subst c7
  replace H:=hT H
  by_cases c8:az=true
  ·subst c8
   replace H:=hT H
   by_cases c9:ay=true
   ·subst c9
    replace H:=hT H
    obtain rfl:=Option.some.inj H
    go_enter Tryz.func23,Tryz.ntmps23
    go_wp2_with (first|((with_reducible refine zac (f:=30) rfl ?_);refine zal (some 8) rfl rfl Tryz.func30 (by kernel_rfl) rfl #[.int .i32 101] rfl lz ?_;(with_reducible refine(zay.calls 101 B D E I J K M O _ A1.out).mono ?_);rintro e aE ⟨rfl,hb⟩;refine⟨_,rfl,?_⟩;replace HB:=bN bz hb;(try clear hb);(try clear A);(try clear hk);(try clear hi))|((with_reducible refine zac (f:=25) rfl ?_);refine zal (some 9) rfl rfl Tryz.func25 (by kernel_rfl) rfl #[.int .u64 4609434218613702656,.int .i64 64,.agg #[.bool B,.bool D,.bool E,.bool I,.bool J,.int .i64 K,.int .i64 M,.int .i32 O]] rfl lz ?_;(with_reducible refine(zah.calls k 4609434218613702656 64 B D E I J K M O ap true _ A2.out).mono ?_);rintro e aF ⟨rfl,hb⟩;refine⟨_,rfl,?_⟩;replace HB:=bN bz hb;(try clear hb);(try clear A);(try clear hk);(try clear hi))|((with_reducible refine zac (f:=30) rfl ?_);refine zal (some 13) rfl rfl Tryz.func30 (by kernel_rfl) rfl #[.int .i32 118] rfl lz ?_;(with_reducible refine(zay.calls 118 U X Y Z aa ab ac ad _ A3.out).mono ?_);rintro e aG ⟨rfl,hb⟩;refine⟨_,rfl,?_⟩;replace HB:=bN bz hb;(try clear hb);(try clear A);(try clear hk);(try clear hi))|((with_reducible refine zac (f:=25) rfl ?_);refine zal (some 14) rfl rfl Tryz.func25 (by kernel_rfl) rfl #[.int .u64 4591870180066957722,.int .i64 64,.agg #[.bool U,.bool X,.bool Y,.bool Z,.bool aa,.int .i64 ab,.int .i64 ac,.int .i32 ad]] rfl lz ?_;(with_reducible refine(zah.calls k 4591870180066957722 64 U X Y Z aa ab ac ad ar true _ A4.out).mono ?_);rintro e aH ⟨rfl,hb⟩;refine⟨_,rfl,?_⟩;replace HB:=bN bz hb;(try clear hb);(try clear A);(try clear hk);(try clear hi))|((with_reducible refine zac (f:=30) rfl ?_);refine zal (some 18) rfl rfl Tryz.func30 (by kernel_rfl) rfl #[.int .i32 100] rfl lz ?_;(with_reducible refine(zay.calls 100 ae af ag ah ai aj ak al _ A5.out).mono ?_);rintro e aI ⟨rfl,hb⟩;refine⟨_,rfl,?_⟩;replace HB:=bN bz hb;(try clear hb);(try clear A);(try clear hk);(try clear hi))|((with_reducible refine zac (f:=25) rfl ?_);refine zal (some 19) rfl rfl Tryz.func25 (by kernel_rfl) rfl #[.int .u64 0,.int .i64 64,.agg #[.bool ae,.bool af,.bool ag,.bool ah,.bool ai,.int .i64 aj,.int .i64 ak,.int .i32 al]] rfl lz ?_;(with_reducible refine(zah.calls k 0 64 ae af ag ah ai aj ak al au true _ A6.out).mono ?_);rintro e aJ ⟨rfl,hb⟩;refine⟨_,rfl,?_⟩;replace HB:=bN bz hb;(try clear hb);(try clear A);(try clear hk);(try clear hi)))
    go_ret
    exact⟨ez,bz⟩
   replace c9:=Bool.eq_false_iff.mpr c9
   subst c9
   replace H:=hF H
   by_cases av:ap.toList=([49,46,53,48,48,48,48,48,101,43,48,48]:List UInt8)
   ·replace H:=hE H av
    have aB:(ap.toList==([49,46,53,48,48,48,48,48,101,43,48,48]:List UInt8))=true:=beq_iff_eq.mpr av
    have aC:(ap.toList !=([49,46,53,48,48,48,48,48,101,43,48,48]:List UInt8))=false:=bne_eq_false_iff_eq.mpr av
    clear av
    obtain rfl:=Option.some.inj H
    go_enter Tryz.func23,Tryz.ntmps23
    go_wp2_with (first|((with_reducible refine zac (f:=30) rfl ?_);refine zal (some 8) rfl rfl Tryz.func30 (by kernel_rfl) rfl #[.int .i32 101] rfl lz ?_;(with_reducible refine(zay.calls 101 B D E I J K M O _ A1.out).mono ?_);rintro e aK ⟨rfl,hb⟩;refine⟨_,rfl,?_⟩;replace HB:=bN bz hb;(try clear hb);(try clear A);(try clear hk);(try clear hi))|((with_reducible refine zac (f:=25) rfl ?_);refine zal (some 9) rfl rfl Tryz.func25 (by kernel_rfl) rfl #[.int .u64 4609434218613702656,.int .i64 64,.agg #[.bool B,.bool D,.bool E,.bool I,.bool J,.int .i64 K,.int .i64 M,.int .i32 O]] rfl lz ?_;(with_reducible refine(zah.calls k 4609434218613702656 64 B D E I J K M O ap true _ A2.out).mono ?_);rintro e aL ⟨rfl,hb⟩;refine⟨_,rfl,?_⟩;replace HB:=bN bz hb;(try clear hb);(try clear A);(try clear hk);(try clear hi))|((with_reducible refine zac (f:=30) rfl ?_);refine zal (some 13) rfl rfl Tryz.func30 (by kernel_rfl) rfl #[.int .i32 118] rfl lz ?_;(with_reducible refine(zay.calls 118 U X Y Z aa ab ac ad _ A3.out).mono ?_);rintro e aM ⟨rfl,hb⟩;refine⟨_,rfl,?_⟩;replace HB:=bN bz hb;(try clear hb);(try clear A);(try clear hk);(try clear hi))|((with_reducible refine zac (f:=25) rfl ?_);refine zal (some 14) rfl rfl Tryz.func25 (by kernel_rfl) rfl #[.int .u64 4591870180066957722,.int .i64 64,.agg #[.bool U,.bool X,.bool Y,.bool Z,.bool aa,.int .i64 ab,.int .i64 ac,.int .i32 ad]] rfl lz ?_;(with_reducible refine(zah.calls k 4591870180066957722 64 U X Y Z aa ab ac ad ar true _ A4.out).mono ?_);rintro e aN ⟨rfl,hb⟩;refine⟨_,rfl,?_⟩;replace HB:=bN bz hb;(try clear hb);(try clear A);(try clear hk);(try clear hi))|((with_reducible refine zac (f:=30) rfl ?_);refine zal (some 18) rfl rfl Tryz.func30 (by kernel_rfl) rfl #[.int .i32 100] rfl lz ?_;(with_reducible refine(zay.calls 100 ae af ag ah ai aj ak al _ A5.out).mono ?_);rintro e aO ⟨rfl,hb⟩;refine⟨_,rfl,?_⟩;replace HB:=bN bz hb;(try clear hb);(try clear A);(try clear hk);(try clear hi))|((with_reducible refine zac (f:=25) rfl ?_);refine zal (some 19) rfl rfl Tryz.func25 (by kernel_rfl) rfl #[.int .u64 0,.int .i64 64,.agg #[.bool ae,.bool af,.bool ag,.bool ah,.bool ai,.int .i64 aj,.int .i64 ak,.int .i32 al]] rfl lz ?_;(with_reducible refine(zah.calls k 0 64 ae af ag ah ai aj ak al au false _ A6.out).mono ?_);rintro e aP ⟨rfl,hb⟩;refine⟨_,rfl,?_⟩;replace HB:=bN bz hb;(try clear hb);(try clear A);(try clear hk);(try clear hi)))
    go_ret
    exact⟨ez,bz⟩
   replace H:=hN H av
   have aB:(ap.toList==([49,46,53,48,48,48,48,48,101,43,48,48]:List UInt8))=false:=beq_eq_false_iff_ne.mpr av
   have aC:(ap.toList !=([49,46,53,48,48,48,48,48,101,43,48,48]:List UInt8))=true:=bne_iff_ne.mpr av
   obtain rfl:=Option.some.inj H
   go_enter Tryz.func23,Tryz.ntmps23
   go_wp2_with (first|((with_reducible refine zac (f:=30) rfl ?_);refine zal (some 8) rfl rfl Tryz.func30 (by kernel_rfl) rfl #[.int .i32 101] rfl lz ?_;(with_reducible refine(zay.calls 101 B D E I J K M O _ A1.out).mono ?_);rintro e aQ ⟨rfl,hb⟩;refine⟨_,rfl,?_⟩;replace HB:=bN bz hb;(try clear hb);(try clear A);(try clear hk);(try clear hi))|((with_reducible refine zac (f:=25) rfl ?_);refine zal (some 9) rfl rfl Tryz.func25 (by kernel_rfl) rfl #[.int .u64 4609434218613702656,.int .i64 64,.agg #[.bool B,.bool D,.bool E,.bool I,.bool J,.int .i64 K,.int .i64 M,.int .i32 O]] rfl lz ?_;(with_reducible refine(zah.calls k 4609434218613702656 64 B D E I J K M O ap true _ A2.out).mono ?_);rintro e aR ⟨rfl,hb⟩;refine⟨_,rfl,?_⟩;replace HB:=bN bz hb;(try clear hb);(try clear A);(try clear hk);(try clear hi))|((with_reducible refine zac (f:=30) rfl ?_);refine zal (some 13) rfl rfl Tryz.func30 (by kernel_rfl) rfl #[.int .i32 118] rfl lz ?_;(with_reducible refine(zay.calls 118 U X Y Z aa ab ac ad _ A3.out).mono ?_);rintro e aS ⟨rfl,hb⟩;refine⟨_,rfl,?_⟩;replace HB:=bN bz hb;(try clear hb);(try clear A);(try clear hk);(try clear hi))|((with_reducible refine zac (f:=25) rfl ?_);refine zal (some 14) rfl rfl Tryz.func25 (by kernel_rfl) rfl #[.int .u64 4591870180066957722,.int .i64 64,.agg #[.bool U,.bool X,.bool Y,.bool Z,.bool aa,.int .i64 ab,.int .i64 ac,.int .i32 ad]] rfl lz ?_;(with_reducible refine(zah.calls k 4591870180066957722 64 U X Y Z aa ab ac ad ar true _ A4.out).mono ?_);rintro e aT ⟨rfl,hb⟩;refine⟨_,rfl,?_⟩;replace HB:=bN bz hb;(try clear hb);(try clear A);(try clear hk);(try clear hi))|((with_reducible refine zac (f:=30) rfl ?_);refine zal (some 18) rfl rfl Tryz.func30 (by kernel_rfl) rfl #[.int .i32 100] rfl lz ?_;(with_reducible refine(zay.calls 100 ae af ag ah ai aj ak al _ A5.out).mono ?_);rintro e aU ⟨rfl,hb⟩;refine⟨_,rfl,?_⟩;replace HB:=bN bz hb;(try clear hb);(try clear A);(try clear hk);(try clear hi))|((with_reducible refine zac (f:=25) rfl ?_);refine zal (some 19) rfl rfl Tryz.func25 (by kernel_rfl) rfl #[.int .u64 0,.int .i64 64,.agg #[.bool ae,.bool af,.bool ag,.bool ah,.bool ai,.int .i64 aj,.int .i64 ak,.int .i32 al]] rfl lz ?_;(with_reducible refine(zah.calls k 0 64 ae af ag ah ai aj ak al au false _ A6.out).mono ?_);rintro e aV ⟨rfl,hb⟩;refine⟨_,rfl,?_⟩;replace HB:=bN bz hb;(try clear hb);(try clear A);(try clear hk);(try clear hi)))
   go_ret
   exact⟨ez,bz⟩
  replace c8:=Bool.eq_false_iff.mpr c8
  subst c8
  replace H:=hF H
  obtain rfl:=Option.some.inj H
  go_enter Tryz.func23,Tryz.ntmps23
  go_wp2_with (first|((with_reducible refine zac (f:=30) rfl ?_);refine zal (some 8) rfl rfl Tryz.func30 (by kernel_rfl) rfl #[.int .i32 101] rfl lz ?_;(with_reducible refine(zay.calls 101 B D E I J K M O _ A1.out).mono ?_);rintro e aW ⟨rfl,hb⟩;refine⟨_,rfl,?_⟩;replace HB:=bN bz hb;(try clear hb);(try clear A);(try clear hk);(try clear hi))|((with_reducible refine zac (f:=25) rfl ?_);refine zal (some 9) rfl rfl Tryz.func25 (by kernel_rfl) rfl #[.int .u64 4609434218613702656,.int .i64 64,.agg #[.bool B,.bool D,.bool E,.bool I,.bool J,.int .i64 K,.int .i64 M,.int .i32 O]] rfl lz ?_;(with_reducible refine(zah.calls k 4609434218613702656 64 B D E I J K M O ap true _ A2.out).mono ?_);rintro e aX ⟨rfl,hb⟩;refine⟨_,rfl,?_⟩;replace HB:=bN bz hb;(try clear hb);(try clear A);(try clear hk);(try clear hi))|((with_reducible refine zac (f:=30) rfl ?_);refine zal (some 13) rfl rfl Tryz.func30 (by kernel_rfl) rfl #[.int .i32 118] rfl lz ?_;(with_reducible refine(zay.calls 118 U X Y Z aa ab ac ad _ A3.out).mono ?_);rintro e aY ⟨rfl,hb⟩;refine⟨_,rfl,?_⟩;replace HB:=bN bz hb;(try clear hb);(try clear A);(try clear hk);(try clear hi))|((with_reducible refine zac (f:=25) rfl ?_);refine zal (some 14) rfl rfl Tryz.func25 (by kernel_rfl) rfl #[.int .u64 4591870180066957722,.int .i64 64,.agg #[.bool U,.bool X,.bool Y,.bool Z,.bool aa,.int .i64 ab,.int .i64 ac,.int .i32 ad]] rfl lz ?_;(with_reducible refine(zah.calls k 4591870180066957722 64 U X Y Z aa ab ac ad ar false _ A4.out).mono ?_);rintro e aZ ⟨rfl,hb⟩;refine⟨_,rfl,?_⟩;replace HB:=bN bz hb;(try clear hb);(try clear A);(try clear hk);(try clear hi))|((with_reducible refine zac (f:=30) rfl ?_);refine zal (some 18) rfl rfl Tryz.func30 (by kernel_rfl) rfl #[.int .i32 100] rfl lz ?_;(with_reducible refine(zay.calls 100 ae af ag ah ai aj ak al _ A5.out).mono ?_);rintro e a1 ⟨rfl,hb⟩;refine⟨_,rfl,?_⟩;replace HB:=bN bz hb;(try clear hb);(try clear A);(try clear hk);(try clear hi))|((with_reducible refine zac (f:=25) rfl ?_);refine zal (some 19) rfl rfl Tryz.func25 (by kernel_rfl) rfl #[.int .u64 0,.int .i64 64,.agg #[.bool ae,.bool af,.bool ag,.bool ah,.bool ai,.int .i64 aj,.int .i64 ak,.int .i32 al]] rfl lz ?_;(with_reducible refine(zah.calls k 0 64 ae af ag ah ai aj ak al au ay _ A6.out).mono ?_);rintro e a2 ⟨rfl,hb⟩;refine⟨_,rfl,?_⟩;replace HB:=bN bz hb;(try clear hb);(try clear A);(try clear hk);(try clear hi)))
  go_ret
  exact⟨ez,bz⟩
 replace c7:=Bool.eq_false_iff.mpr c7
 subst c7
 replace H:=hF H
 obtain rfl:=Option.some.inj H
 go_enter Tryz.func23,Tryz.ntmps23
 go_wp2_with (first|((with_reducible refine zac (f:=30) rfl ?_);refine zal (some 8) rfl rfl Tryz.func30 (by kernel_rfl) rfl #[.int .i32 101] rfl lz ?_;(with_reducible refine(zay.calls 101 B D E I J K M O _ A1.out).mono ?_);rintro e a3 ⟨rfl,hb⟩;refine⟨_,rfl,?_⟩;replace HB:=bN bz hb;(try clear hb);(try clear A);(try clear hk);(try clear hi))|((with_reducible refine zac (f:=25) rfl ?_);refine zal (some 9) rfl rfl Tryz.func25 (by kernel_rfl) rfl #[.int .u64 4609434218613702656,.int .i64 64,.agg #[.bool B,.bool D,.bool E,.bool I,.bool J,.int .i64 K,.int .i64 M,.int .i32 O]] rfl lz ?_;(with_reducible refine(zah.calls k 4609434218613702656 64 B D E I J K M O ap false _ A2.out).mono ?_);rintro e a4 ⟨rfl,hb⟩;refine⟨_,rfl,?_⟩;replace HB:=bN bz hb;(try clear hb);(try clear A);(try clear hk);(try clear hi))|((with_reducible refine zac (f:=30) rfl ?_);refine zal (some 13) rfl rfl Tryz.func30 (by kernel_rfl) rfl #[.int .i32 118] rfl lz ?_;(with_reducible refine(zay.calls 118 U X Y Z aa ab ac ad _ A3.out).mono ?_);rintro e a5 ⟨rfl,hb⟩;refine⟨_,rfl,?_⟩;replace HB:=bN bz hb;(try clear hb);(try clear A);(try clear hk);(try clear hi))|((with_reducible refine zac (f:=25) rfl ?_);refine zal (some 14) rfl rfl Tryz.func25 (by kernel_rfl) rfl #[.int .u64 4591870180066957722,.int .i64 64,.agg #[.bool U,.bool X,.bool Y,.bool Z,.bool aa,.int .i64 ab,.int .i64 ac,.int .i32 ad]] rfl lz ?_;(with_reducible refine(zah.calls k 4591870180066957722 64 U X Y Z aa ab ac ad ar az _ A4.out).mono ?_);rintro e a6 ⟨rfl,hb⟩;refine⟨_,rfl,?_⟩;replace HB:=bN bz hb;(try clear hb);(try clear A);(try clear hk);(try clear hi))|((with_reducible refine zac (f:=30) rfl ?_);refine zal (some 18) rfl rfl Tryz.func30 (by kernel_rfl) rfl #[.int .i32 100] rfl lz ?_;(with_reducible refine(zay.calls 100 ae af ag ah ai aj ak al _ A5.out).mono ?_);rintro e a7 ⟨rfl,hb⟩;refine⟨_,rfl,?_⟩;replace HB:=bN bz hb;(try clear hb);(try clear A);(try clear hk);(try clear hi))|((with_reducible refine zac (f:=25) rfl ?_);refine zal (some 19) rfl rfl Tryz.func25 (by kernel_rfl) rfl #[.int .u64 0,.int .i64 64,.agg #[.bool ae,.bool af,.bool ag,.bool ah,.bool ai,.int .i64 aj,.int .i64 ak,.int .i32 al]] rfl lz ?_;(with_reducible refine(zah.calls k 0 64 ae af ag ah ai aj ak al au ay _ A6.out).mono ?_);rintro e a8 ⟨rfl,hb⟩;refine⟨_,rfl,?_⟩;replace HB:=bN bz hb;(try clear hb);(try clear A);(try clear hk);(try clear hi)))
 go_ret
 exact⟨ez,bz⟩
end
end Go.Proofs.YtecpgdfnamkfdaaGreatDoor.Fn
end
section
namespace Go.Proofs.YtecpgdfnamkfdaaGreatDoor.Pure
open Go.RowKit Go.Proofs.YtecpgdfnamkfdaaGreatDoorW.PrintWords Go.Proofs.YtecpgdfnamkfdaaGreatDoorW.PrintLast Go.Proofs.YtecpgdfnamkfdaaGreatDoorW.PrintMore Go.Proofs.YtecpgdfnamkfdaaGreatDoor.Fn
set_option linter.unusedVariables false
set_option linter.unusedSimpArgs false
theorem ex_e:floatS true 4609434218613702656 false false false false false (-1) (-1) 101=(S [49,46,53,48,48,48,48,48,101,43,48,48],true):=by decide+kernel
theorem ex_v:floatS true 4591870180066957722 false false false false false (-1) (-1) 118=(S [48,46,49],true):=by
  have h0:codeV 118=3:=by decide
  have h1:bareN true 4591870180066957722=4591870180066957722:=by decide
  have h2:(4591870180066957722:Nat)<ii true:=by decide
  unfold floatS
  rw[h1,if_neg (by rw[h0];decide),if_pos h2]
  have hr: ∀m e,restL true 4591870180066957722 m e (clamp (-1)) 118 false=[48,46,49]:=by
    intro m e
    unfold restL genOf shortL
    rw[h0,if_neg (by decide),if_neg (by decide),if_pos rfl,if_pos (by decide),if_neg (by decide),zfU]
    decide
  rw[hr]
  decide
theorem zjB:Ev (fun k=>zbi.f k) true:=by
  have h1:=zdD true (a:=4609434218613702656) (by decide) false false false false false (-1) (-1) 101
  rw[ex_e] at h1
  have h2:=zdD true (a:=4591870180066957722) (by decide) false false false false false (-1) (-1) 118
  rw[ex_v] at h2
  have h3:=zdD true (a:=0) (by decide) false false false false false (-1) (-1) 100
  rw[show floatS true 0 false false false false false (-1) (-1) 100=(⟨#[]⟩,false) from rfl] at h3
  unfold zbi.f zay.f
  simp only[Option.bind_some]
  refine Ev.bind (g:=fun k=>zah.f k 4609434218613702656 64 false false false false false (-1) (-1) 101) h1 ?_
  refine Ev.bind (g:=fun k=>zah.f k 4591870180066957722 64 false false false false false (-1) (-1) 118) h2 ?_
  refine Ev.bind (g:=fun k=>zah.f k 0 64 false false false false false (-1) (-1) 100) h3 ?_
  refine Ev.congr (fun k=>?_) (Ev.now _)
  rw[if_pos rfl,if_pos rfl,if_neg (by simp),if_pos (by rw[zby,L_S]),zby,L_S]
  rfl
theorem zhk:Ev (fun k=>(zbi.f k).bind fun t=>some t) true:=Ev.bind zjB (Ev.now _)
theorem zjC(wide:Bool):zba.f wide=some (szB wide):=by cases wide<;>rfl
def HeadD(l:List UInt8):Prop:= ∃c t,l=c::t∧48≤c.toNat∧c.toNat≤57
theorem HeadD.app{a:List UInt8}(h:HeadD a)(b:List UInt8):HeadD (a++b):=by
  obtain⟨c,t,rfl,h1⟩:=h
  exact⟨c,t++b,rfl,h1⟩
theorem zge{n:Nat}(h:n<10):48≤(dch n).toNat∧(dch n).toNat≤57:=by
  unfold dch
  rw[if_pos h,UInt8.toNat_ofNat']
  omega
theorem zhl: ∀k n,AllD (bF 10 k n)
  |0,n=>fun c hc=>by
    rw[bF,List.mem_singleton] at hc
    rw[hc]
    exact zge (Nat.mod_lt _ (by decide))
  |k+1,n=>by
    have hd:AllD [dch (n%10)]:=fun c hc=>by
      rw[List.mem_singleton] at hc
      rw[hc]
      exact zge (Nat.mod_lt _ (by decide))
    unfold bF
    split
    · exact hd
    · exact(zhl k _).append hd
theorem zhY(sign rest:List UInt8)(minus zero:Bool){wid:Int}(h:wid≤0):endL sign rest minus zero wid=sign++rest:=by
  have h1:(max 0 (min wid 1000)-(sign.length:Int)-(rest.length:Int)).toNat=0:=by omega
  have h2: ∀l:List UInt8,padL l minus false wid=l:=by
    intro l
    unfold padL
    rw[show(max 0 (min wid 1000)-(l.length:Int)).toNat=0 by omega]
    cases minus<;>simp
  unfold endL
  rw[h1,h2]
  split<;>simp
end Go.Proofs.YtecpgdfnamkfdaaGreatDoor.Pure
end
