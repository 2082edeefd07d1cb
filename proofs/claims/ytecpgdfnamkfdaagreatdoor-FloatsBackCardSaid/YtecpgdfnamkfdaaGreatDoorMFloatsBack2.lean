/- The law FloatsBack: the walks through its functions and its plain law (part 2). Own texts and the kit's printed words for this seat, without what the law does not use: put together by merge.py (of this work). -/
import Derived.Test.YtecpgdfnamkfdaaGreatDoorMFloatsBack1
section
namespace Go.Proofs.YtecpgdfnamkfdaaGreatDoor.Fn
open Go.RowKit Go.Proofs.YtecpgdfnamkfdaaGreatDoorW.PrintWords Go.Proofs.YtecpgdfnamkfdaaGreatDoorW.PrintLast Go.Proofs.YtecpgdfnamkfdaaGreatDoorW.PrintMore
set_option linter.unusedVariables false
set_option linter.unusedSimpArgs false
set_option maxHeartbeats 8000000
set_option maxRecDepth 100000
section
attribute [local go_sem] fnW_0 fnW_1 fnW_2 fnW_3 fnW_4 fnW_5 fnW_guard fnW_eql zaK zaL zaQ zaR
def zar.j0:Nat→ByteArray→Int→ByteArray→Bool→Int→Int→Int→Int→Int→Bool→Int→Option (ByteArray)
 |0,_,_,_,_,_,_,_,_,_,_,_=>none
 |k+1,x1,x2,x7,aa,A,B,D,E,I,J,K=>if aa=true then(if 0≤1 then(if 1≤(x1.size:Int) then((zaJ.f A B D E I J K (x1.extract 0 1) (x1.extract 1 x1.size)).bind fun M=>((zbq.f (⟨#[69]⟩:ByteArray) x2 2).bind fun O=>((zaC.f (([M,O]:List ByteArray))).bind fun U=>(some U)))) else(none)) else(none)) else(if 0≤1 then(if 1≤(x1.size:Int) then((zaJ.f A B D E I J K (x1.extract 0 1) (x1.extract 1 x1.size)).bind fun X=>((zbq.f x7 x2 2).bind fun Y=>((zaC.f (([X,Y]:List ByteArray))).bind fun Z=>(some Z)))) else(none)) else(none))
def zar.f(k:Nat)(B:Int)(D:Int)(E:Int)(I:Int)(J:Int)(K:Bool)(A:Int)(a1:ByteArray)(a2:Int):Option (ByteArray):=if A=69 then(zar.j0 k a1 a2 (⟨#[101]⟩:ByteArray) true B D E I J K A) else(zar.j0 k a1 a2 (⟨#[101]⟩:ByteArray) (A==71) B D E I J K A)
def zar.T4:Bool×List (List Nat×List Nat):=(true,[([],[]),([],[]),([1],[1]),([],[]),([3],[3]),([0,2,4],[0,2,4]),([],[]),([],[]),([6,7,5],[6,7]),([5,8],[5,8]),([9,8],[9]),([10,10,0,1,2,3,4,5,6,7,8,9,10],[10])])
def zar.B4:List Nat:=[0,0,2,0,8,31,0,0,255,511,1023,2047]
theorem zar.tab4:rtab .any (opsOf Tryz.f104 4)=zar.T4:=by kernel_rfl
theorem zar.bits4:waitsOk zar.T4.2 zar.B4=true:=by kernel_rfl
theorem zar.calls(k:Nat)(E:Int)(I:Int)(J:Int)(O:Int)(U:Int)(X:Bool)(D:Int)(a1:ByteArray)(a2:Int)(r:ByteArray)(w:World)(h:zar.f k E I J O U X D a1 a2=some r):
  Calls Tryz.prog 104 #[.agg #[.int .u64 E,.int .i64 I,.int .u64 J,.int .i64 O,.int .i64 U,.bool X,.int .i32 D],.string a1,.int .i64 a2] w fun e w'=>e= .returned (.string r)∧Below w.heap.size w w':=by
 have bH:=Tryz.underlying74
 have HB:=zaa.mk (Below.refl w.heap.size w)
 have H:(if D=69 then(zar.j0 k a1 a2 (⟨#[101]⟩:ByteArray) true E I J O U X D) else(zar.j0 k a1 a2 (⟨#[101]⟩:ByteArray) (D==71) E I J O U X D))=some r:=h
 clear h
 have ba:=zaa.mk H
 clear H
 go_enter Tryz.func104,Tryz.ntmps104
 go_upto_region 2 with(first|((with_reducible refine zak (N:=3) rfl ?_);refine zaj rfl (N:=3) rfl (cs:=#[.int .u64 E,.int .i64 I,.int .u64 J,.int .i64 O,.int .i64 U,.bool X,.int .i32 D]) (t:=74) gz ?_;intro B hg w5 hbox hb;have bi:=gN bz hg;have A:=zaa.mk hbox;replace HB:=bN bz hb;clear hb hbox hg))
 (try simp only[Act.put,List.setIfInBounds_toArray,List.set_cons_zero,List.set_cons_succ])
 go_cut [15] (fun bj wc=> ∃(kq:Nat) (ah:Bool),bj= .bool ah∧zaa (zar.j0 kq a1 a2 (⟨#[101]⟩:ByteArray) ah E I J O U X D=some r)∧zaa (kq≤k)∧zaa (wc.heap[B]? =some (.cells #[.int .u64 E,.int .i64 I,.int .u64 J,.int .i64 O,.int .i64 U,.bool X,.int .i32 D] 74 (0,0)))∧zaa (Below w.heap.size w wc))
 case first=>
  have H:=ba.out
  clear ba
  by_cases c6:D=69
  ·replace H:=hE H c6
   obtain⟨al,am⟩:=eT c6
   clear c6
   try first|rw[al]|rw[am]
   have H':=zaa.mk H
   clear H
   obtain⟨aD,aE,aF,aG,aH,aI,aJ,aK,aL,aM,aN,aO,aP,aQ⟩:=cz7 (W:=w5) A
   go_wp2
   go_meet
   case rel=>exact⟨_,(true),rz,H',⟨by first|omega|exact Nat.le_refl _⟩,⟨bk⟩,⟨bz⟩⟩
  replace H:=hN H c6
  obtain⟨al,am⟩:=eF c6
  try first|rw[al]|rw[am]
  have H':=zaa.mk H
  clear H
  obtain⟨aR,aS,aT,aU,aV,aW,aX,aY,aZ,a3,a4,a5,a6,a7⟩:=cz7 (W:=w5) A
  go_wp2
  go_meet
  case rel=>exact⟨_,((D==71)),rz,H',⟨by first|omega|exact Nat.le_refl _⟩,⟨bk⟩,⟨bz⟩⟩
 case rest=>
  clear ba
  try clear c6
  try clear al
  try clear am
  try clear aD aE aF aG aH aI aJ aK aL aM aN aO aP aQ
  try clear aR aS aT aU aV aW aX aY aZ a3 a4 a5 a6 a7
  obtain⟨kq,ah,rfl,HA,bK,A,HB⟩:=hcut
  cases kq with
  |zero=>exact absurd HA.out (by simp[zar.j0])
  |succ bL=>
   have H:=HA.out
   clear HA
   simp only[zar.j0] at H
   by_cases c9:ah=true
   ·subst c9
    replace H:=hT H
    by_cases an:0≤1
    ·replace H:=hE H an
     have bl:=eq_true an
     have bm:decide (0≤1)=true:=decide_eq_true an
     clear an
     by_cases ao:1≤(a1.size:Int)
     ·replace H:=hE H ao
      have bn:=eq_true ao
      have bo:decide (1≤(a1.size:Int))=true:=decide_eq_true ao
      clear ao
      have bp:=eq_true (of_decide_eq_true (by first|(with_reducible assumption)|assumption):1≤(a1.size:Int))
      replace H:=bs H
      obtain⟨ad,bq,H⟩:=H
      replace H:=bs H
      obtain⟨ae,br,H⟩:=H
      obtain⟨ap,Z⟩: ∃y_:List ByteArray,y_=(([ad,ae]:List ByteArray)):=⟨_,rfl⟩
      replace H:((zaC.f ap).bind fun ar=>(some ar))=some r:=by first|(rw[Z];with_reducible exact H)|(have ak:=(Option.bind_some _ _).symm.trans H;rw[Z];with_reducible exact ak)|(have ak:=(Option.bind_some _ _).symm.trans H;with_reducible exact ak)|with_reducible exact H|(rw[Z];exact H)|exact H
      have au:=zaa.mk Z
      clear Z
      replace H:=bs H
      obtain⟨ar,bu,H⟩:=H
      obtain rfl:=Option.some.inj H
      try go_wp2
      replace A:=zaa.mk (zaw A.out)
      replace HB:=zaa.mk (zaT HB.out)
      refine zbo (n:=12) (S:=fun w'=>w'.cell? ⟨B,0,none⟩=some (.int .u64 E)∧w'.cell? ⟨B,1,none⟩=some (.int .i64 I)∧w'.cell? ⟨B,2,none⟩=some (.int .u64 J)∧w'.cell? ⟨B,3,none⟩=some (.int .i64 O)∧w'.cell? ⟨B,4,none⟩=some (.int .i64 U)∧w'.cell? ⟨B,5,none⟩=some (.bool X)∧w'.cell? ⟨B,6,none⟩=some (.int .i32 D)) (ds:=[]) #[false,false,false,false,false,false,false,false,false,false,false,false] (by kernel_rfl) rfl rfl ⟨(zab A.out 0).trans rfl,(zab A.out 1).trans rfl,(zab A.out 2).trans rfl,(zab A.out 3).trans rfl,(zab A.out 4).trans rfl,(zab A.out 5).trans rfl,(zab A.out 6).trans rfl⟩ (fun hHeld=>?_);refine zbf zar.tab4 zar.bits4 (fun Y HW_=>?_)
      generalize wc.drew=bM at A HB hHeld ⊢
      refine zau (i:=1) (N:=some 17) (v:=?_) (a':=?_) #[false,true,false,false,false,false,false,false,false,false,false,false] rfl rfl (zas Y.out (by kernel_rfl)) (fun _ _ _ h=>h) (Or.inl ⟨by rfl,?_⟩) ?_ ?_
      rotate_left
      ·intro w'
       go_simp
       with_reducible rfl
      rotate_left
      ·simp only[Act.put,List.setIfInBounds_toArray,List.set_cons_zero,List.set_cons_succ,zad,zaf]
       rfl
      refine zau (i:=2) (N:=some 18) (v:=?_) (a':=?_) #[false,true,true,false,false,false,false,false,false,false,false,false] rfl rfl (zas Y.out (by kernel_rfl)) (fun _ _ _ h=>h) (Or.inl ⟨by rfl,?_⟩) ?_ ?_
      rotate_left
      ·intro w'
       go_simp
       with_reducible rfl
      rotate_left
      ·simp only[Act.put,List.setIfInBounds_toArray,List.set_cons_zero,List.set_cons_succ,zad,zaf]
       rfl
      refine zau (i:=3) (N:=some 19) (v:=?_) (a':=?_) #[false,true,true,true,false,false,false,false,false,false,false,false] rfl rfl (zas Y.out (by kernel_rfl)) (fun _ _ _ h=>h) (Or.inl ⟨by rfl,?_⟩) ?_ ?_
      rotate_left
      ·intro w'
       go_simp
       with_reducible rfl
      rotate_left
      ·simp only[Act.put,List.setIfInBounds_toArray,List.set_cons_zero,List.set_cons_succ,zad,zaf]
       rfl
      refine zau (i:=4) (N:=some 20) (v:=?_) (a':=?_) #[false,true,true,true,true,false,false,false,false,false,false,false] rfl rfl (zas Y.out (by kernel_rfl)) (fun _ _ _ h=>h) (Or.inl ⟨by rfl,?_⟩) ?_ ?_
      rotate_left
      ·intro w'
       go_simp
       with_reducible rfl
      rotate_left
      ·simp only[Act.put,List.setIfInBounds_toArray,List.set_cons_zero,List.set_cons_succ,zad,zaf]
       rfl
      refine zau (i:=6) (N:=some 22) (v:=?_) (a':=?_) #[false,true,true,true,true,false,true,false,false,false,false,false] rfl rfl (zas Y.out (by kernel_rfl)) (fun _ _ _ h=>h) (Or.inl ⟨by rfl,?_⟩) ?_ ?_
      rotate_left
      ·intro w'
       go_simp
       with_reducible rfl
      rotate_left
      ·simp only[Act.put,List.setIfInBounds_toArray,List.set_cons_zero,List.set_cons_succ,zad,zaf]
       rfl
      refine zau (i:=7) (N:=some 23) (v:=?_) (a':=?_) #[false,true,true,true,true,false,true,true,false,false,false,false] rfl rfl (zas Y.out (by kernel_rfl)) (fun _ _ _ h=>h) (Or.inl ⟨by rfl,?_⟩) ?_ ?_
      rotate_left
      ·intro w'
       go_simp
       with_reducible rfl
      rotate_left
      ·simp only[Act.put,List.setIfInBounds_toArray,List.set_cons_zero,List.set_cons_succ,zad,zaf]
       rfl
      refine zaW (i:=0) (N:=some 16) (v:=?_) (a':=?_) #[true,true,true,true,true,false,true,true,false,false,false,false] rfl rfl (zaH Y.out HW_.out (by kernel_rfl)) (fun _ _ _ h=>h) (Or.inl ⟨by rfl,?_⟩) hHeld ?_ ?_
      rotate_left
      ·rintro w' ⟨s0,s1,s2,s3,s4,s5,s6⟩
       go_simp
       with_reducible rfl
      rotate_left
      ·simp only[Act.put,List.setIfInBounds_toArray,List.set_cons_zero,List.set_cons_succ,zad,zaf]
       rfl
      refine one_ (i:=5) (N:=some 21) #[true,true,true,true,true,true,true,true,false,false,false,false] rfl rfl (zaZ Y.out (by kernel_rfl)) (by decide) (fun K hK=>?_)
      refine za5 Tryz.func107 (by kernel_rfl) rfl #[.agg #[.int .u64 E,.int .i64 I,.int .u64 J,.int .i64 O,.int .i64 U,.bool X,.int .i32 D],.string (a1.extract 0 1),.string (a1.extract 1 a1.size)] (by rfl) rfl rfl lz ?_
      with_reducible refine(zaJ.calls E I J O U X D (a1.extract 0 1) (a1.extract 1 a1.size) ad _ bq.out).mono ?_
      rintro e bO ⟨rfl,hb⟩
      refine⟨_,rfl,?_⟩
      replace A:=zaa.mk (zag (g:=B) (o:=.cells #[.int .u64 E,.int .i64 I,.int .u64 J,.int .i64 O,.int .i64 U,.bool X,.int .i32 D] 74 (0,0)) bk hb)
      replace HB:=zaa.mk (zam bz hb)
      (try clear hb)
      (try clear av)
      (try clear hk)
      (try clear hi)
      refine hK.out _ _ ⟨(zab A.out 0).trans rfl,(zab A.out 1).trans rfl,(zab A.out 2).trans rfl,(zab A.out 3).trans rfl,(zab A.out 4).trans rfl,(zab A.out 5).trans rfl,(zab A.out 6).trans rfl⟩ (fun hHeld=>?_)
      clear hK K
      refine zaY (a':=?_) ?_ ?_
      rotate_left
      ·show Act.put _ (some 21) _=_
       simp only[Act.put,List.setIfInBounds_toArray,List.set_cons_zero,List.set_cons_succ,zad,zaf]
       rfl
      refine one_ (i:=8) (N:=some 24) #[true,true,true,true,true,true,true,true,true,false,false,false] rfl rfl (zaZ Y.out (by kernel_rfl)) (by decide) (fun K hK=>?_)
      refine za5 Tryz.func111 (by kernel_rfl) rfl #[.string (⟨#[69]⟩:ByteArray),.int .i64 a2,.int .i64 2] (by rfl) rfl rfl lz ?_
      with_reducible refine(zbq.calls (⟨#[69]⟩:ByteArray) a2 2 ae _ br.out).mono ?_
      rintro e bP ⟨rfl,hb⟩
      refine⟨_,rfl,?_⟩
      replace A:=zaa.mk (zag (g:=B) (o:=.cells #[.int .u64 E,.int .i64 I,.int .u64 J,.int .i64 O,.int .i64 U,.bool X,.int .i32 D] 74 (0,0)) bk hb)
      replace HB:=zaa.mk (zam bz hb)
      (try clear hb)
      (try clear av)
      (try clear hk)
      (try clear hi)
      refine hK.out _ _ ⟨(zab A.out 0).trans rfl,(zab A.out 1).trans rfl,(zab A.out 2).trans rfl,(zab A.out 3).trans rfl,(zab A.out 4).trans rfl,(zab A.out 5).trans rfl,(zab A.out 6).trans rfl⟩ (fun hHeld=>?_)
      clear hK K
      refine zaY (a':=?_) ?_ ?_
      rotate_left
      ·show Act.put _ (some 24) _=_
       simp only[Act.put,List.setIfInBounds_toArray,List.set_cons_zero,List.set_cons_succ,zad,zaf]
       rfl
      refine one_ (i:=9) (N:=some 25) #[true,true,true,true,true,true,true,true,true,true,false,false] rfl rfl (zaZ Y.out (by kernel_rfl)) (by decide) (fun K hK=>?_)
      refine Kd.R_lit_step Kd.string _ 9 ?hg (N:=25) ?hd (xs:=([ad,ae]:List ByteArray)) (inner:=[.string ad,.string ae]) (ok:=fun _=>True) (okp:=fun _=>True) ?hr ?hp (fun _ hk=>hk) trivial (Below.refl _ _) (Nat.le_refl _) (by simp) ?_;(case hd=>rfl);(case hg=>rfl);(case hr=>first|(go_simp;done)|(go_simp;rfl));(case hp=>exact(Reps.one (show Kd.M Kd.string _ _ _ ad [.string ad] from rfl) (Reps.one (show Kd.M Kd.string _ _ _ ae [.string ae] from rfl) (Reps.none _ _))))
      intro bI bQ ai hb hg_ hnew_
      clear hg_ hnew_
      (first|rw[←au.out] at ai|(simp only[Int.reduceToNat] at ai;rw[←au.out] at ai))
      have aa:=zaa.mk (Kd.R_lower ai (zaI bz))
      replace A:=zaa.mk (zag (g:=B) (o:=.cells #[.int .u64 E,.int .i64 I,.int .u64 J,.int .i64 O,.int .i64 U,.bool X,.int .i32 D] 74 (0,0)) bk hb)
      replace HB:=zaa.mk (zam bz hb)
      clear hb ai
      obtain⟨be,bf,a8⟩:=Kd.R_slice aa.out
      (first|subst a8|(injection a8 with aw bb ax;have bc:=aw.symm;have bd:=ax.symm;clear aw bb ax;subst bc;subst bd))
      refine hK.out _ _ ⟨(zab A.out 0).trans rfl,(zab A.out 1).trans rfl,(zab A.out 2).trans rfl,(zab A.out 3).trans rfl,(zab A.out 4).trans rfl,(zab A.out 5).trans rfl,(zab A.out 6).trans rfl⟩ (fun hHeld=>?_)
      clear hK K
      refine zaY (a':=?_) ?_ ?_
      rotate_left
      ·show Act.put _ (some 25) _=_
       simp only[Act.put,List.setIfInBounds_toArray,List.set_cons_zero,List.set_cons_succ,zad,zaf]
       rfl
      refine one_ (i:=10) (N:=some 26) #[true,true,true,true,true,true,true,true,true,true,true,false] rfl rfl (zaZ Y.out (by kernel_rfl)) (by decide) (fun K hK=>?_)
      refine za5 Tryz.func109 (by kernel_rfl) rfl #[.slice be ap.length bf] (by rfl) rfl rfl lz ?_
      with_reducible refine(zaC.calls _ _ ap ar _ ?side1 ?side2 bu.out).mono ?_
      (case side1=>repeat(first|exact(Kd.R_reads' aa.out).2.2|(with_reducible refine Kd.C_alloc ?_ _)|(with_reducible refine Kd.C_drewN ?_ _)|(with_reducible refine Kd.C_drew ?_)))
      (case side2=>exact(Kd.R_reads' aa.out).2.1)
      rintro e bR ⟨rfl,hb⟩
      refine⟨_,rfl,?_⟩
      replace aa:=zaa.mk (Kd.R_below (by(with_reducible repeat(first|apply Kd.R_alloc|apply Kd.R_drewN|apply Kd.R_drew));exact aa.out) hb)
      replace A:=zaa.mk (zag (g:=B) (o:=.cells #[.int .u64 E,.int .i64 I,.int .u64 J,.int .i64 O,.int .i64 U,.bool X,.int .i32 D] 74 (0,0)) bk hb)
      replace HB:=zaa.mk (zam bz hb)
      (try clear hb)
      (try clear av)
      (try clear hk)
      (try clear hi)
      refine hK.out _ _ ⟨(zab A.out 0).trans rfl,(zab A.out 1).trans rfl,(zab A.out 2).trans rfl,(zab A.out 3).trans rfl,(zab A.out 4).trans rfl,(zab A.out 5).trans rfl,(zab A.out 6).trans rfl⟩ (fun hHeld=>?_)
      clear hK K
      refine zaY (a':=?_) ?_ ?_
      rotate_left
      ·show Act.put _ (some 26) _=_
       simp only[Act.put,List.setIfInBounds_toArray,List.set_cons_zero,List.set_cons_succ,zad,zaf]
       rfl
      refine zau (i:=11) (N:=some 6) (v:=?_) (a':=?_) #[true,true,true,true,true,true,true,true,true,true,true,true] rfl rfl (zas Y.out (by kernel_rfl)) (fun _ _ _ h=>h) (Or.inl ⟨by rfl,?_⟩) ?_ ?_
      rotate_left
      ·intro w'
       go_simp
       with_reducible rfl
      rotate_left
      ·simp only[Act.put,List.setIfInBounds_toArray,List.set_cons_zero,List.set_cons_succ,zad,zaf]
       rfl
      refine zbx (zbs Y.out (by kernel_rfl)) ?_
      try go_wp2
      go_ret
      exact⟨ez,bz⟩
     replace H:=hN H ao
     exact absurd H (by simp)
    replace H:=hN H an
    exact absurd H (by simp)
   replace c9:=Bool.eq_false_iff.mpr c9
   subst c9
   replace H:=hF H
   by_cases ay:0≤1
   ·replace H:=hE H ay
    have bv:=eq_true ay
    have bw:decide (0≤1)=true:=decide_eq_true ay
    clear ay
    by_cases az:1≤(a1.size:Int)
    ·replace H:=hE H az
     have bA:=eq_true az
     have bB:decide (1≤(a1.size:Int))=true:=decide_eq_true az
     clear az
     have bC:=eq_true (of_decide_eq_true (by first|(with_reducible assumption)|assumption):1≤(a1.size:Int))
     replace H:=bs H
     obtain⟨af,bD,H⟩:=H
     replace H:=bs H
     obtain⟨ag,bE,H⟩:=H
     obtain⟨aA,ab⟩: ∃y_:List ByteArray,y_=(([af,ag]:List ByteArray)):=⟨_,rfl⟩
     replace H:((zaC.f aA).bind fun aB=>(some aB))=some r:=by first|(rw[ab];with_reducible exact H)|(have ak:=(Option.bind_some _ _).symm.trans H;rw[ab];with_reducible exact ak)|(have ak:=(Option.bind_some _ _).symm.trans H;with_reducible exact ak)|with_reducible exact H|(rw[ab];exact H)|exact H
     have aC:=zaa.mk ab
     clear ab
     replace H:=bs H
     obtain⟨aB,bG,H⟩:=H
     obtain rfl:=Option.some.inj H
     try go_wp2
     replace A:=zaa.mk (zaw A.out)
     replace HB:=zaa.mk (zaT HB.out)
     refine zbo (n:=12) (S:=fun w'=>w'.cell? ⟨B,0,none⟩=some (.int .u64 E)∧w'.cell? ⟨B,1,none⟩=some (.int .i64 I)∧w'.cell? ⟨B,2,none⟩=some (.int .u64 J)∧w'.cell? ⟨B,3,none⟩=some (.int .i64 O)∧w'.cell? ⟨B,4,none⟩=some (.int .i64 U)∧w'.cell? ⟨B,5,none⟩=some (.bool X)∧w'.cell? ⟨B,6,none⟩=some (.int .i32 D)) (ds:=[]) #[false,false,false,false,false,false,false,false,false,false,false,false] (by kernel_rfl) rfl rfl ⟨(zab A.out 0).trans rfl,(zab A.out 1).trans rfl,(zab A.out 2).trans rfl,(zab A.out 3).trans rfl,(zab A.out 4).trans rfl,(zab A.out 5).trans rfl,(zab A.out 6).trans rfl⟩ (fun hHeld=>?_);refine zbf zar.tab4 zar.bits4 (fun Y HW_=>?_)
     generalize wc.drew=bS at A HB hHeld ⊢
     refine zau (i:=1) (N:=some 17) (v:=?_) (a':=?_) #[false,true,false,false,false,false,false,false,false,false,false,false] rfl rfl (zas Y.out (by kernel_rfl)) (fun _ _ _ h=>h) (Or.inl ⟨by rfl,?_⟩) ?_ ?_
     rotate_left
     ·intro w'
      go_simp
      with_reducible rfl
     rotate_left
     ·simp only[Act.put,List.setIfInBounds_toArray,List.set_cons_zero,List.set_cons_succ,zad,zaf]
      rfl
     refine zau (i:=2) (N:=some 18) (v:=?_) (a':=?_) #[false,true,true,false,false,false,false,false,false,false,false,false] rfl rfl (zas Y.out (by kernel_rfl)) (fun _ _ _ h=>h) (Or.inl ⟨by rfl,?_⟩) ?_ ?_
     rotate_left
     ·intro w'
      go_simp
      with_reducible rfl
     rotate_left
     ·simp only[Act.put,List.setIfInBounds_toArray,List.set_cons_zero,List.set_cons_succ,zad,zaf]
      rfl
     refine zau (i:=3) (N:=some 19) (v:=?_) (a':=?_) #[false,true,true,true,false,false,false,false,false,false,false,false] rfl rfl (zas Y.out (by kernel_rfl)) (fun _ _ _ h=>h) (Or.inl ⟨by rfl,?_⟩) ?_ ?_
     rotate_left
     ·intro w'
      go_simp
      with_reducible rfl
     rotate_left
     ·simp only[Act.put,List.setIfInBounds_toArray,List.set_cons_zero,List.set_cons_succ,zad,zaf]
      rfl
     refine zau (i:=4) (N:=some 20) (v:=?_) (a':=?_) #[false,true,true,true,true,false,false,false,false,false,false,false] rfl rfl (zas Y.out (by kernel_rfl)) (fun _ _ _ h=>h) (Or.inl ⟨by rfl,?_⟩) ?_ ?_
     rotate_left
     ·intro w'
      go_simp
      with_reducible rfl
     rotate_left
     ·simp only[Act.put,List.setIfInBounds_toArray,List.set_cons_zero,List.set_cons_succ,zad,zaf]
      rfl
     refine zau (i:=6) (N:=some 22) (v:=?_) (a':=?_) #[false,true,true,true,true,false,true,false,false,false,false,false] rfl rfl (zas Y.out (by kernel_rfl)) (fun _ _ _ h=>h) (Or.inl ⟨by rfl,?_⟩) ?_ ?_
     rotate_left
     ·intro w'
      go_simp
      with_reducible rfl
     rotate_left
     ·simp only[Act.put,List.setIfInBounds_toArray,List.set_cons_zero,List.set_cons_succ,zad,zaf]
      rfl
     refine zau (i:=7) (N:=some 23) (v:=?_) (a':=?_) #[false,true,true,true,true,false,true,true,false,false,false,false] rfl rfl (zas Y.out (by kernel_rfl)) (fun _ _ _ h=>h) (Or.inl ⟨by rfl,?_⟩) ?_ ?_
     rotate_left
     ·intro w'
      go_simp
      with_reducible rfl
     rotate_left
     ·simp only[Act.put,List.setIfInBounds_toArray,List.set_cons_zero,List.set_cons_succ,zad,zaf]
      rfl
     refine zaW (i:=0) (N:=some 16) (v:=?_) (a':=?_) #[true,true,true,true,true,false,true,true,false,false,false,false] rfl rfl (zaH Y.out HW_.out (by kernel_rfl)) (fun _ _ _ h=>h) (Or.inl ⟨by rfl,?_⟩) hHeld ?_ ?_
     rotate_left
     ·rintro w' ⟨s0,s1,s2,s3,s4,s5,s6⟩
      go_simp
      with_reducible rfl
     rotate_left
     ·simp only[Act.put,List.setIfInBounds_toArray,List.set_cons_zero,List.set_cons_succ,zad,zaf]
      rfl
     refine one_ (i:=5) (N:=some 21) #[true,true,true,true,true,true,true,true,false,false,false,false] rfl rfl (zaZ Y.out (by kernel_rfl)) (by decide) (fun K hK=>?_)
     refine za5 Tryz.func107 (by kernel_rfl) rfl #[.agg #[.int .u64 E,.int .i64 I,.int .u64 J,.int .i64 O,.int .i64 U,.bool X,.int .i32 D],.string (a1.extract 0 1),.string (a1.extract 1 a1.size)] (by rfl) rfl rfl lz ?_
     with_reducible refine(zaJ.calls E I J O U X D (a1.extract 0 1) (a1.extract 1 a1.size) af _ bD.out).mono ?_
     rintro e bU ⟨rfl,hb⟩
     refine⟨_,rfl,?_⟩
     replace A:=zaa.mk (zag (g:=B) (o:=.cells #[.int .u64 E,.int .i64 I,.int .u64 J,.int .i64 O,.int .i64 U,.bool X,.int .i32 D] 74 (0,0)) bk hb)
     replace HB:=zaa.mk (zam bz hb)
     (try clear hb)
     (try clear av)
     (try clear hk)
     (try clear hi)
     refine hK.out _ _ ⟨(zab A.out 0).trans rfl,(zab A.out 1).trans rfl,(zab A.out 2).trans rfl,(zab A.out 3).trans rfl,(zab A.out 4).trans rfl,(zab A.out 5).trans rfl,(zab A.out 6).trans rfl⟩ (fun hHeld=>?_)
     clear hK K
     refine zaY (a':=?_) ?_ ?_
     rotate_left
     ·show Act.put _ (some 21) _=_
      simp only[Act.put,List.setIfInBounds_toArray,List.set_cons_zero,List.set_cons_succ,zad,zaf]
      rfl
     refine one_ (i:=8) (N:=some 24) #[true,true,true,true,true,true,true,true,true,false,false,false] rfl rfl (zaZ Y.out (by kernel_rfl)) (by decide) (fun K hK=>?_)
     refine za5 Tryz.func111 (by kernel_rfl) rfl #[.string (⟨#[101]⟩:ByteArray),.int .i64 a2,.int .i64 2] (by rfl) rfl rfl lz ?_
     with_reducible refine(zbq.calls (⟨#[101]⟩:ByteArray) a2 2 ag _ bE.out).mono ?_
     rintro e bV ⟨rfl,hb⟩
     refine⟨_,rfl,?_⟩
     replace A:=zaa.mk (zag (g:=B) (o:=.cells #[.int .u64 E,.int .i64 I,.int .u64 J,.int .i64 O,.int .i64 U,.bool X,.int .i32 D] 74 (0,0)) bk hb)
     replace HB:=zaa.mk (zam bz hb)
     (try clear hb)
     (try clear av)
     (try clear hk)
     (try clear hi)
     refine hK.out _ _ ⟨(zab A.out 0).trans rfl,(zab A.out 1).trans rfl,(zab A.out 2).trans rfl,(zab A.out 3).trans rfl,(zab A.out 4).trans rfl,(zab A.out 5).trans rfl,(zab A.out 6).trans rfl⟩ (fun hHeld=>?_)
     clear hK K
     refine zaY (a':=?_) ?_ ?_
     rotate_left
     ·show Act.put _ (some 24) _=_
      simp only[Act.put,List.setIfInBounds_toArray,List.set_cons_zero,List.set_cons_succ,zad,zaf]
      rfl
     refine one_ (i:=9) (N:=some 25) #[true,true,true,true,true,true,true,true,true,true,false,false] rfl rfl (zaZ Y.out (by kernel_rfl)) (by decide) (fun K hK=>?_)
     refine Kd.R_lit_step Kd.string _ 9 ?hg (N:=25) ?hd (xs:=([af,ag]:List ByteArray)) (inner:=[.string af,.string ag]) (ok:=fun _=>True) (okp:=fun _=>True) ?hr ?hp (fun _ hk=>hk) trivial (Below.refl _ _) (Nat.le_refl _) (by simp) ?_;(case hd=>rfl);(case hg=>rfl);(case hr=>first|(go_simp;done)|(go_simp;rfl));(case hp=>exact(Reps.one (show Kd.M Kd.string _ _ _ af [.string af] from rfl) (Reps.one (show Kd.M Kd.string _ _ _ ag [.string ag] from rfl) (Reps.none _ _))))
     intro bJ bW aj hb hg_ hnew_
     clear hg_ hnew_
     (first|rw[←aC.out] at aj|(simp only[Int.reduceToNat] at aj;rw[←aC.out] at aj))
     have ac:=zaa.mk (Kd.R_lower aj (zaI bz))
     replace A:=zaa.mk (zag (g:=B) (o:=.cells #[.int .u64 E,.int .i64 I,.int .u64 J,.int .i64 O,.int .i64 U,.bool X,.int .i32 D] 74 (0,0)) bk hb)
     replace HB:=zaa.mk (zam bz hb)
     clear hb aj
     obtain⟨bg,bh,a9⟩:=Kd.R_slice ac.out
     (first|subst a9|(injection a9 with aw bb ax;have bc:=aw.symm;have bd:=ax.symm;clear aw bb ax;subst bc;subst bd))
     refine hK.out _ _ ⟨(zab A.out 0).trans rfl,(zab A.out 1).trans rfl,(zab A.out 2).trans rfl,(zab A.out 3).trans rfl,(zab A.out 4).trans rfl,(zab A.out 5).trans rfl,(zab A.out 6).trans rfl⟩ (fun hHeld=>?_)
     clear hK K
     refine zaY (a':=?_) ?_ ?_
     rotate_left
     ·show Act.put _ (some 25) _=_
      simp only[Act.put,List.setIfInBounds_toArray,List.set_cons_zero,List.set_cons_succ,zad,zaf]
      rfl
     refine one_ (i:=10) (N:=some 26) #[true,true,true,true,true,true,true,true,true,true,true,false] rfl rfl (zaZ Y.out (by kernel_rfl)) (by decide) (fun K hK=>?_)
     refine za5 Tryz.func109 (by kernel_rfl) rfl #[.slice bg aA.length bh] (by rfl) rfl rfl lz ?_
     with_reducible refine(zaC.calls _ _ aA aB _ ?side1 ?side2 bG.out).mono ?_
     (case side1=>repeat(first|exact(Kd.R_reads' ac.out).2.2|(with_reducible refine Kd.C_alloc ?_ _)|(with_reducible refine Kd.C_drewN ?_ _)|(with_reducible refine Kd.C_drew ?_)))
     (case side2=>exact(Kd.R_reads' ac.out).2.1)
     rintro e bX ⟨rfl,hb⟩
     refine⟨_,rfl,?_⟩
     replace ac:=zaa.mk (Kd.R_below (by(with_reducible repeat(first|apply Kd.R_alloc|apply Kd.R_drewN|apply Kd.R_drew));exact ac.out) hb)
     replace A:=zaa.mk (zag (g:=B) (o:=.cells #[.int .u64 E,.int .i64 I,.int .u64 J,.int .i64 O,.int .i64 U,.bool X,.int .i32 D] 74 (0,0)) bk hb)
     replace HB:=zaa.mk (zam bz hb)
     (try clear hb)
     (try clear av)
     (try clear hk)
     (try clear hi)
     refine hK.out _ _ ⟨(zab A.out 0).trans rfl,(zab A.out 1).trans rfl,(zab A.out 2).trans rfl,(zab A.out 3).trans rfl,(zab A.out 4).trans rfl,(zab A.out 5).trans rfl,(zab A.out 6).trans rfl⟩ (fun hHeld=>?_)
     clear hK K
     refine zaY (a':=?_) ?_ ?_
     rotate_left
     ·show Act.put _ (some 26) _=_
      simp only[Act.put,List.setIfInBounds_toArray,List.set_cons_zero,List.set_cons_succ,zad,zaf]
      rfl
     refine zau (i:=11) (N:=some 6) (v:=?_) (a':=?_) #[true,true,true,true,true,true,true,true,true,true,true,true] rfl rfl (zas Y.out (by kernel_rfl)) (fun _ _ _ h=>h) (Or.inl ⟨by rfl,?_⟩) ?_ ?_
     rotate_left
     ·intro w'
      go_simp
      with_reducible rfl
     rotate_left
     ·simp only[Act.put,List.setIfInBounds_toArray,List.set_cons_zero,List.set_cons_succ,zad,zaf]
      rfl
     refine zbx (zbs Y.out (by kernel_rfl)) ?_
     try go_wp2
     go_ret
     exact⟨ez,bz⟩
    replace H:=hN H az
    exact absurd H (by simp)
   replace H:=hN H ay
   exact absurd H (by simp)
def zbB.f(A:ByteArray)(B:Int):Option (Int):=if A.toList=([]:List UInt8) then(some 0) else(some (wrap64 (B-1)))
theorem zbB.calls(A:ByteArray)(D:Int)(r:Int)(w:World)(h:zbB.f A D=some r):
  Calls Tryz.prog 106 #[.agg #[.string A,.int .i64 D]] w fun e w'=>e= .returned (.int .i64 r)∧Below w.heap.size w w':=by
 have ad:=Tryz.underlying42
 have HB:=zaa.mk (Below.refl w.heap.size w)
 have H:(if A.toList=([]:List UInt8) then(some 0) else(some (wrap64 (D-1))))=some r:=h
 clear h
 go_enter Tryz.func106,Tryz.ntmps106
 go_upto_if 5 with(first|((with_reducible refine zak (N:=1) rfl ?_);refine zaj rfl (N:=1) rfl (cs:=#[.string A,.int .i64 D]) (t:=42) gz ?_;intro ab hg w2 hbox hb;have ac:=gN bz hg;have E:=zaa.mk hbox;replace HB:=bN bz hb;clear hb hbox hg;obtain⟨K,M,O,U⟩:=cz2 (W:=w2) E))
 (try simp only[Act.put,List.setIfInBounds_toArray,List.set_cons_zero,List.set_cons_succ])
 by_cases c4:A.toList=([]:List UInt8)
 ·replace H:=hE H c4
  have B:(A.toList==([]:List UInt8))=true:=beq_iff_eq.mpr c4
  have I:(A.toList !=([]:List UInt8))=false:=bne_eq_false_iff_eq.mpr c4
  have J:A.toList.isEmpty=true:=by simpa using B
  clear c4
  try first|rw[B]|rw[I]|rw[J]
  obtain rfl:=Option.some.inj H
  go_wp2
  go_ret
  exact⟨ez,bz⟩
 replace H:=hN H c4
 have B:(A.toList==([]:List UInt8))=false:=beq_eq_false_iff_ne.mpr c4
 have I:(A.toList !=([]:List UInt8))=true:=bne_iff_ne.mpr c4
 have J:A.toList.isEmpty=false:=by simpa using B
 try first|rw[B]|rw[I]|rw[J]
 obtain rfl:=Option.some.inj H
 obtain⟨X,Y,Z,aa⟩:=cz2 (W:=w2) E
 go_wp2
 go_ret
 exact⟨ez,bz⟩
def zaS.f(J:Int)(K:Int)(A:Int)(B:Int)(M:Int)(O:Bool)(U:Int):Option (ByteArray):=(zbd.f A 10).bind fun D=>((zbq.f (⟨#[112]⟩:ByteArray) B 1).bind fun E=>((zaC.f (([D,E]:List ByteArray))).bind fun I=>(some I)))
def zaS.T1:Bool×List (List Nat×List Nat):=(true,[([],[]),([0],[0]),([1],[1]),([],[]),([3],[3]),([4,2],[4]),([2,5],[2,5]),([6,5],[6]),([7,7,0,1,2,3,4,5,6,7],[7])])
def zaS.B1:List Nat:=[0,1,3,0,8,31,63,127,255]
theorem zaS.tab1:rtab .any (opsOf Tryz.f69 1)=zaS.T1:=by kernel_rfl
theorem zaS.bits1:waitsOk zaS.T1.2 zaS.B1=true:=by kernel_rfl
theorem zaS.calls(I:Int)(J:Int)(D:Int)(E:Int)(O:Int)(U:Bool)(X:Int)(r:ByteArray)(w:World)(h:zaS.f I J D E O U X=some r):
  Calls Tryz.prog 69 #[.agg #[.int .u64 I,.int .i64 J,.int .u64 D,.int .i64 E,.int .i64 O,.bool U,.int .i32 X]] w fun e w'=>e= .returned (.string r)∧Below w.heap.size w w':=by
 have av:=Tryz.underlying74
 have HB:=zaa.mk (Below.refl w.heap.size w)
 have H:((zbd.f D 10).bind fun Y=>((zbq.f (⟨#[112]⟩:ByteArray) E 1).bind fun Z=>((zaC.f (([Y,Z]:List ByteArray))).bind fun ad=>(some ad))))=some r:=h
 clear h
 replace H:=bs H
 obtain⟨Y,A2,H⟩:=H
 replace H:=bs H
 obtain⟨Z,A3,H⟩:=H
 obtain⟨af,aa⟩: ∃y_:List ByteArray,y_=(([Y,Z]:List ByteArray)):=⟨_,rfl⟩
 replace H:((zaC.f af).bind fun ad=>(some ad))=some r:=by first|(rw[aa];with_reducible exact H)|(have ai:=(Option.bind_some _ _).symm.trans H;rw[aa];with_reducible exact ai)|(have ai:=(Option.bind_some _ _).symm.trans H;with_reducible exact ai)|with_reducible exact H|(rw[aa];exact H)|exact H
 have ag:=zaa.mk aa
 clear aa
 replace H:=bs H
 obtain⟨ad,A4,H⟩:=H
 obtain rfl:=Option.some.inj H
 go_enter Tryz.func69,Tryz.ntmps69
 try go_wp2_with (first|((with_reducible refine zak (N:=1) rfl ?_);refine zaj rfl (N:=1) rfl (cs:=#[.int .u64 I,.int .i64 J,.int .u64 D,.int .i64 E,.int .i64 O,.bool U,.int .i32 X]) (t:=74) gz ?_;intro B hg w5 hbox hb;have ao:=gN bz hg;have A:=zaa.mk hbox;replace HB:=bN bz hb;clear hb hbox hg))
 replace A:=zaa.mk (zaw A.out)
 replace HB:=zaa.mk (zaT HB.out)
 refine zbo (n:=9) (S:=fun w'=>w'.cell? ⟨B,0,none⟩=some (.int .u64 I)∧w'.cell? ⟨B,1,none⟩=some (.int .i64 J)∧w'.cell? ⟨B,2,none⟩=some (.int .u64 D)∧w'.cell? ⟨B,3,none⟩=some (.int .i64 E)∧w'.cell? ⟨B,4,none⟩=some (.int .i64 O)∧w'.cell? ⟨B,5,none⟩=some (.bool U)∧w'.cell? ⟨B,6,none⟩=some (.int .i32 X)) (ds:=[]) #[false,false,false,false,false,false,false,false,false] (by kernel_rfl) rfl rfl ⟨(zab A.out 0).trans rfl,(zab A.out 1).trans rfl,(zab A.out 2).trans rfl,(zab A.out 3).trans rfl,(zab A.out 4).trans rfl,(zab A.out 5).trans rfl,(zab A.out 6).trans rfl⟩ (fun hHeld=>?_);refine zbf zaS.tab1 zaS.bits1 (fun ac HW_=>?_)
 generalize w5.drew=w6 at A HB hHeld ⊢
 refine zau (i:=0) (N:=some 3) (v:=?_) (a':=?_) #[true,false,false,false,false,false,false,false,false] rfl rfl (zas ac.out (by kernel_rfl)) (fun _ _ _ h=>h) (Or.inl ⟨by rfl,?_⟩) ?_ ?_
 rotate_left
 ·intro w'
  go_simp
  with_reducible rfl
 rotate_left
 ·simp only[Act.put,List.setIfInBounds_toArray,List.set_cons_zero,List.set_cons_succ,zad,zaf]
  rfl
 refine zau (i:=3) (N:=some 6) (v:=?_) (a':=?_) #[true,false,false,true,false,false,false,false,false] rfl rfl (zas ac.out (by kernel_rfl)) (fun _ _ _ h=>h) (Or.inl ⟨by rfl,?_⟩) ?_ ?_
 rotate_left
 ·intro w'
  go_simp
  with_reducible rfl
 rotate_left
 ·simp only[Act.put,List.setIfInBounds_toArray,List.set_cons_zero,List.set_cons_succ,zad,zaf]
  rfl
 refine zaW (i:=1) (N:=some 4) (v:=?_) (a':=?_) #[true,true,false,true,false,false,false,false,false] rfl rfl (zaH ac.out HW_.out (by kernel_rfl)) (fun _ _ _ h=>h) (Or.inl ⟨by rfl,?_⟩) hHeld ?_ ?_
 rotate_left
 ·rintro w' ⟨s0,s1,s2,s3,s4,s5,s6⟩
  go_simp
  with_reducible rfl
 rotate_left
 ·simp only[Act.put,List.setIfInBounds_toArray,List.set_cons_zero,List.set_cons_succ,zad,zaf]
  rfl
 refine zaW (i:=4) (N:=some 7) (v:=?_) (a':=?_) #[true,true,false,true,true,false,false,false,false] rfl rfl (zaH ac.out HW_.out (by kernel_rfl)) (fun _ _ _ h=>h) (Or.inl ⟨by rfl,?_⟩) hHeld ?_ ?_
 rotate_left
 ·rintro w' ⟨s0,s1,s2,s3,s4,s5,s6⟩
  go_simp
  with_reducible rfl
 rotate_left
 ·simp only[Act.put,List.setIfInBounds_toArray,List.set_cons_zero,List.set_cons_succ,zad,zaf]
  rfl
 refine one_ (i:=2) (N:=some 5) #[true,true,true,true,true,false,false,false,false] rfl rfl (zaZ ac.out (by kernel_rfl)) (by decide) (fun K hK=>?_)
 refine za5 Tryz.func110 (by kernel_rfl) rfl #[.int .u64 D,.int .i64 10] (by rfl) rfl rfl lz ?_
 with_reducible refine(zbd.calls D 10 Y _ A2.out).mono ?_
 rintro e w7 ⟨rfl,hb⟩
 refine⟨_,rfl,?_⟩
 replace A:=zaa.mk (zag (g:=B) (o:=.cells #[.int .u64 I,.int .i64 J,.int .u64 D,.int .i64 E,.int .i64 O,.bool U,.int .i32 X] 74 (0,0)) bk hb)
 replace HB:=zaa.mk (zam bz hb)
 (try clear hb)
 (try clear aj)
 (try clear hk)
 (try clear hi)
 refine hK.out _ _ ⟨(zab A.out 0).trans rfl,(zab A.out 1).trans rfl,(zab A.out 2).trans rfl,(zab A.out 3).trans rfl,(zab A.out 4).trans rfl,(zab A.out 5).trans rfl,(zab A.out 6).trans rfl⟩ (fun hHeld=>?_)
 clear hK K
 refine zaY (a':=?_) ?_ ?_
 rotate_left
 ·show Act.put _ (some 5) _=_
  simp only[Act.put,List.setIfInBounds_toArray,List.set_cons_zero,List.set_cons_succ,zad,zaf]
  rfl
 refine one_ (i:=5) (N:=some 8) #[true,true,true,true,true,true,false,false,false] rfl rfl (zaZ ac.out (by kernel_rfl)) (by decide) (fun K hK=>?_)
 refine za5 Tryz.func111 (by kernel_rfl) rfl #[.string (⟨#[112]⟩:ByteArray),.int .i64 E,.int .i64 1] (by rfl) rfl rfl lz ?_
 with_reducible refine(zbq.calls (⟨#[112]⟩:ByteArray) E 1 Z _ A3.out).mono ?_
 rintro e w8 ⟨rfl,hb⟩
 refine⟨_,rfl,?_⟩
 replace A:=zaa.mk (zag (g:=B) (o:=.cells #[.int .u64 I,.int .i64 J,.int .u64 D,.int .i64 E,.int .i64 O,.bool U,.int .i32 X] 74 (0,0)) bk hb)
 replace HB:=zaa.mk (zam bz hb)
 (try clear hb)
 (try clear aj)
 (try clear hk)
 (try clear hi)
 refine hK.out _ _ ⟨(zab A.out 0).trans rfl,(zab A.out 1).trans rfl,(zab A.out 2).trans rfl,(zab A.out 3).trans rfl,(zab A.out 4).trans rfl,(zab A.out 5).trans rfl,(zab A.out 6).trans rfl⟩ (fun hHeld=>?_)
 clear hK K
 refine zaY (a':=?_) ?_ ?_
 rotate_left
 ·show Act.put _ (some 8) _=_
  simp only[Act.put,List.setIfInBounds_toArray,List.set_cons_zero,List.set_cons_succ,zad,zaf]
  rfl
 refine one_ (i:=6) (N:=some 9) #[true,true,true,true,true,true,true,false,false] rfl rfl (zaZ ac.out (by kernel_rfl)) (by decide) (fun K hK=>?_)
 refine Kd.R_lit_step Kd.string _ 9 ?hg (N:=9) ?hd (xs:=([Y,Z]:List ByteArray)) (inner:=[.string Y,.string Z]) (ok:=fun _=>True) (okp:=fun _=>True) ?hr ?hp (fun _ hk=>hk) trivial (Below.refl _ _) (Nat.le_refl _) (by simp) ?_;(case hd=>rfl);(case hg=>rfl);(case hr=>first|(go_simp;done)|(go_simp;rfl));(case hp=>exact(Reps.one (show Kd.M Kd.string _ _ _ Y [.string Y] from rfl) (Reps.one (show Kd.M Kd.string _ _ _ Z [.string Z] from rfl) (Reps.none _ _))))
 intro aw w9 ae hb hg_ hnew_
 clear hg_ hnew_
 (first|rw[←ag.out] at ae|(simp only[Int.reduceToNat] at ae;rw[←ag.out] at ae))
 have ab:=zaa.mk (Kd.R_lower ae (zaI bz))
 replace A:=zaa.mk (zag (g:=B) (o:=.cells #[.int .u64 I,.int .i64 J,.int .u64 D,.int .i64 E,.int .i64 O,.bool U,.int .i32 X] 74 (0,0)) bk hb)
 replace HB:=zaa.mk (zam bz hb)
 clear hb ae
 obtain⟨ak,al,ah⟩:=Kd.R_slice ab.out
 (first|subst ah|(injection ah with am ap an;have ar:=am.symm;have au:=an.symm;clear am ap an;subst ar;subst au))
 refine hK.out _ _ ⟨(zab A.out 0).trans rfl,(zab A.out 1).trans rfl,(zab A.out 2).trans rfl,(zab A.out 3).trans rfl,(zab A.out 4).trans rfl,(zab A.out 5).trans rfl,(zab A.out 6).trans rfl⟩ (fun hHeld=>?_)
 clear hK K
 refine zaY (a':=?_) ?_ ?_
 rotate_left
 ·show Act.put _ (some 9) _=_
  simp only[Act.put,List.setIfInBounds_toArray,List.set_cons_zero,List.set_cons_succ,zad,zaf]
  rfl
 refine one_ (i:=7) (N:=some 10) #[true,true,true,true,true,true,true,true,false] rfl rfl (zaZ ac.out (by kernel_rfl)) (by decide) (fun K hK=>?_)
 refine za5 Tryz.func109 (by kernel_rfl) rfl #[.slice ak af.length al] (by rfl) rfl rfl lz ?_
 with_reducible refine(zaC.calls _ _ af ad _ ?side1 ?side2 A4.out).mono ?_
 (case side1=>repeat(first|exact(Kd.R_reads' ab.out).2.2|(with_reducible refine Kd.C_alloc ?_ _)|(with_reducible refine Kd.C_drewN ?_ _)|(with_reducible refine Kd.C_drew ?_)))
 (case side2=>exact(Kd.R_reads' ab.out).2.1)
 rintro e ax ⟨rfl,hb⟩
 refine⟨_,rfl,?_⟩
 replace ab:=zaa.mk (Kd.R_below (by(with_reducible repeat(first|apply Kd.R_alloc|apply Kd.R_drewN|apply Kd.R_drew));exact ab.out) hb)
 replace A:=zaa.mk (zag (g:=B) (o:=.cells #[.int .u64 I,.int .i64 J,.int .u64 D,.int .i64 E,.int .i64 O,.bool U,.int .i32 X] 74 (0,0)) bk hb)
 replace HB:=zaa.mk (zam bz hb)
 (try clear hb)
 (try clear aj)
 (try clear hk)
 (try clear hi)
 refine hK.out _ _ ⟨(zab A.out 0).trans rfl,(zab A.out 1).trans rfl,(zab A.out 2).trans rfl,(zab A.out 3).trans rfl,(zab A.out 4).trans rfl,(zab A.out 5).trans rfl,(zab A.out 6).trans rfl⟩ (fun hHeld=>?_)
 clear hK K
 refine zaY (a':=?_) ?_ ?_
 rotate_left
 ·show Act.put _ (some 10) _=_
  simp only[Act.put,List.setIfInBounds_toArray,List.set_cons_zero,List.set_cons_succ,zad,zaf]
  rfl
 refine zau (i:=8) (N:=some 2) (v:=?_) (a':=?_) #[true,true,true,true,true,true,true,true,true] rfl rfl (zas ac.out (by kernel_rfl)) (fun _ _ _ h=>h) (Or.inl ⟨by rfl,?_⟩) ?_ ?_
 rotate_left
 ·intro w'
  go_simp
  with_reducible rfl
 rotate_left
 ·simp only[Act.put,List.setIfInBounds_toArray,List.set_cons_zero,List.set_cons_succ,zad,zaf]
  rfl
 refine zbx (zbs ac.out (by kernel_rfl)) ?_
 try go_wp2
 go_ret
 exact⟨ez,bz⟩
def za9.f(a0:Int):Option (ByteArray):=(zbd.f a0 16).bind fun A=>((strings_Repeat.f (⟨#[48]⟩:ByteArray) (wrap64 (16-(A.size:Int)))).bind fun B=>(if B.size+A.size≤9223372036854775807 then(some (B++A)) else(none)))
theorem za9.calls(a0:Int)(r:ByteArray)(w:World)(h:za9.f a0=some r):
  Calls Tryz.prog 113 #[.int .u64 a0] w fun e w'=>e= .returned (.string r)∧Below w.heap.size w w':=by
 have HB:=zaa.mk (Below.refl w.heap.size w)
 have H:((zbd.f a0 16).bind fun A=>((strings_Repeat.f (⟨#[48]⟩:ByteArray) (wrap64 (16-(A.size:Int)))).bind fun B=>(if B.size+A.size≤9223372036854775807 then(some (B++A)) else(none))))=some r:=h
 clear h
 replace H:=bs H
 obtain⟨A,A2,H⟩:=H
 replace H:=bs H
 obtain⟨B,A3,H⟩:=H
 by_cases c4:B.size+A.size≤9223372036854775807
 ·replace H:=hE H c4
  have E:=eq_true c4
  have I:decide (B.size+A.size≤9223372036854775807)=true:=decide_eq_true c4
  try have J:(9223372036854775807<B.size+A.size)=False:=eq_false (Nat.not_lt.2 c4)
  obtain rfl:=Option.some.inj H
  have hw_:wrap64 (16-(A.size:Int))=16-(A.size:Int):=by unfold wrap64;omega
  have A_:=A3.out
  clear A3
  rw[hw_] at A_
  clear hw_
  have A3:=zaa.mk A_
  clear A_
  go_enter Tryz.func113,Tryz.ntmps113
  go_wp2_with (first|((with_reducible refine zac (f:=110) rfl ?_);refine zal (some 5) rfl rfl Tryz.func110 (by kernel_rfl) rfl #[.int .u64 a0,.int .i64 16] rfl lz ?_;(with_reducible refine(zbd.calls a0 16 A _ A2.out).mono ?_);rintro e w5 ⟨rfl,hb⟩;refine⟨_,rfl,?_⟩;replace HB:=bN bz hb;(try clear hb);(try clear D);(try clear hk);(try clear hi))|((with_reducible refine zac (f:=46) rfl ?_);refine zal (some 9) rfl rfl Tryz.func46 (by kernel_rfl) rfl #[.string (⟨#[48]⟩:ByteArray),.int .i64 (16-(A.size:Int))] rfl lz ?_;(with_reducible refine(strings_Repeat.calls (⟨#[48]⟩:ByteArray) (16-(A.size:Int)) B _ A3.out).mono ?_);rintro e w6 ⟨rfl,hb⟩;refine⟨_,rfl,?_⟩;replace HB:=bN bz hb;(try clear hb);(try clear D);(try clear hk);(try clear hi)))
  go_ret
  exact⟨ez,bz⟩
 replace H:=hN H c4
 exact absurd H (by simp)
def zbC.f(a0:Int)(a1:Int):Option (ByteArray):=(strings_Repeat.f (strOfNums (([a0]:List Int))) (mx 0 (mn a1 1000))).bind fun A=>(some A)
theorem zbC.calls(a0:Int)(a1:Int)(r:ByteArray)(w:World)(h:zbC.f a0 a1=some r):
  Calls Tryz.prog 27 #[.int .u8 a0,.int .i64 a1] w fun e w'=>e= .returned (.string r)∧Below w.heap.size w w':=by
 have HB:=zaa.mk (Below.refl w.heap.size w)
 have H:((strings_Repeat.f (strOfNums (([a0]:List Int))) (mx 0 (mn a1 1000))).bind fun D=>(some D))=some r:=h
 clear h
 obtain⟨K,A⟩: ∃y_:List Int,y_=(([a0]:List Int)):=⟨_,rfl⟩
 replace H:((strings_Repeat.f (strOfNums K) (mx 0 (mn a1 1000))).bind fun D=>(some D))=some r:=by first|(rw[A];with_reducible exact H)|(have Z:=(Option.bind_some _ _).symm.trans H;rw[A];with_reducible exact Z)|(have Z:=(Option.bind_some _ _).symm.trans H;with_reducible exact Z)|with_reducible exact H|(rw[A];exact H)|exact H
 have O:=zaa.mk A
 clear A
 obtain⟨J,E⟩: ∃j_:Int,(mn a1 1000)=j_:=⟨_,rfl⟩
 (first|rw[E] at H|simp only[E] at H)
 (try(have ab:J≤1000:=by(rw[←E];unfold mn;(repeat' split)<;>omega)))
 (try(have ac:J≤64:=by omega))
 have ad:(if 1000<a1 then 1000 else a1)=J:=E
 obtain⟨aa,I⟩: ∃j_:Int,(mx 0 (J))=j_:=⟨_,rfl⟩
 (first|rw[I] at H|simp only[I] at H)
 have ae:(if 0<(J) then(J) else 0)=aa:=I
 replace H:=bs H
 obtain⟨D,A5,H⟩:=H
 obtain rfl:=Option.some.inj H
 go_enter Tryz.func27,Tryz.ntmps27
 go_wp2_with (first|((with_reducible refine zak (N:=6) rfl ?_);refine Kd.R_lit (Kd.int .u8) _ 5 ?hg (N:=6) ?hd (xs:=([a0]:List Int)) (inner:=[.int .u8 a0]) (ok:=fun _=>True) (okp:=fun _=>True) ?hr ?hp (fun _ hk=>hk) trivial (Below.refl _ _) (Nat.le_refl _) (by simp) ?_;(case hd=>rfl);(case hg=>rfl);(case hr=>first|(go_simp;done)|(go_simp;rfl));(case hp=>exact(Reps.one (show Kd.M (Kd.int .u8) _ _ _ a0 [.int .u8 a0] from rfl) (Reps.none _ _)));intro af w6 U hb hg_ hnew_;clear hg_ hnew_;(first|rw[←O.out] at U|(simp only[Int.reduceToNat] at U;rw[←O.out] at U));have X:=zaa.mk (Kd.R_lower U (zaI bz));have Y:=zaa.mk (zam bz hb);clear HB;have B:=X;have HB:=Y;clear X Y;clear hb U;have ag:=zdn (P:=Tryz.prog) Tryz.underlying51 Tryz.underlying5 Tryz.underlying9 (Kd.own_of_R B.out))|((with_reducible refine zac (f:=46) rfl ?_);refine zal (some 11) rfl rfl Tryz.func46 (by kernel_rfl) rfl #[.string (strOfNums K),.int .i64 aa] rfl (by(try simp only[List.map_toArray,List.map_cons,List.map_nil]);first|done|(simp only[I];rfl)|rfl|(simp only[List.length_drop,List.length_take];rfl)) ?_;(with_reducible refine(strings_Repeat.calls (strOfNums K) aa D _ A5.out).mono ?_);rintro e w9 ⟨rfl,hb⟩;refine⟨_,rfl,?_⟩;have X:=zaa.mk (Kd.R_below (by(with_reducible repeat(first|apply Kd.R_alloc|apply Kd.R_drewN|apply Kd.R_drew));exact B.out) hb);have Y:=zaa.mk (zam bz hb);clear B;clear HB;have B:=X;have HB:=Y;clear X Y;(try clear hb);(try clear ah);(try clear hk);(try clear hi)))
 go_ret
 exact⟨by first|rfl|(simp[zan,zao]<;>rfl)|(simp only[←E,←I];first|rfl|(simp[zan,zao]<;>rfl))|(simp[*,zan,zao]<;>rfl),bz⟩
end
end Go.Proofs.YtecpgdfnamkfdaaGreatDoor.Fn
end
section
namespace Go.Proofs.YtecpgdfnamkfdaaGreatDoor.Fn
open Go.RowKit Go.Proofs.YtecpgdfnamkfdaaGreatDoorW.PrintWords
set_option linter.unusedVariables false
def zbW.f(s:ByteArray):Option Int:=if s.size≤1000000∧s.data.toList.all (fun b=>b.toNat<128)=true then some (s.size:Int) else none
theorem zgi(w:World)(s:ByteArray)(pos:Nat):Below w.heap.size w (w.iter s pos):=(Below.refl _ _).alloc (Nat.le_refl _) _
set_option maxHeartbeats 4000000 in
theorem zbW.calls(a0:ByteArray)(r:Int)(w:World)(h:zbW.f a0=some r):
    Calls Tryz.prog 71 #[.string a0] w fun e w'=>e= .returned (.int .i64 r)∧Below w.heap.size w w':=by
  unfold zbW.f at h
  split at h
  case isFalse=>cases h
  rename_i hc
  obtain rfl:=Option.some.inj h
  clear h
  have hn:=hc.1
  have HA:=zaa.mk hc.2
  clear hc
  have A:=Tryz.underlying9
  go_enter Tryz.func71,Tryz.ntmps71
  go_wp2
  go_loopw [3] (fun n wr=> ∃k:Nat,k≤a0.size∧n= .int .i64 k∧wr=w.iter a0 k) (fun n _=>a0.size-(intOf n).toNat)
  case atStart=>exact⟨0,Nat.zero_le _,rfl,rfl⟩
  case round=>
    obtain⟨k,hk,rfl,rfl⟩:=hrel
    by_cases hlt:k<a0.size
    · have ha:(a0[k]'hlt).toNat<128:=by
        have:=List.all_eq_true.1 HA.out (a0[k]'hlt) (by show a0.data[k]∈a0.data.toList;exact Array.getElem_mem_toList _)
        simpa using this
      have hnx:=fun ty=>run_next_ascii (P:=Tryz.prog) w a0 k ty hlt ha
      go_wp2
      go_roundw
      case rel=>exact⟨k+1,by omega,by go_num,rfl⟩
      case measure=>simp[intOf];omega
    · obtain rfl:k=a0.size:=by omega
      have hnx:=fun ty=>run_next_end (P:=Tryz.prog) w a0 a0.size ty (Nat.lt_irrefl _)
      go_wp2
      go_ret
      exact⟨rfl,zgi w a0 _⟩
end Go.Proofs.YtecpgdfnamkfdaaGreatDoor.Fn
end
section
namespace Go.Proofs.YtecpgdfnamkfdaaGreatDoor.Fn
open Go.RowKit Go.Proofs.YtecpgdfnamkfdaaGreatDoorW.PrintWords Go.Proofs.YtecpgdfnamkfdaaGreatDoorW.PrintLast Go.Proofs.YtecpgdfnamkfdaaGreatDoorW.PrintMore
set_option linter.unusedVariables false
set_option linter.unusedSimpArgs false
set_option maxHeartbeats 8000000
set_option maxRecDepth 100000
section
attribute [local go_sem] fnW_0 fnW_1 fnW_2 fnW_3 fnW_4 fnW_5 fnW_guard fnW_eql zaK zaL zaQ zaR
def zbD.f(a0:ByteArray)(M:Bool)(J:Bool)(O:Bool)(U:Bool)(K:Bool)(A:Int)(X:Int)(Y:Int):Option (ByteArray):=(zbW.f a0).bind fun B=>(if(wrap64 ((mx 0 (mn A 1000))-B))≤0 then(some a0) else(if J=true then((zbC.f 32 (wrap64 ((mx 0 (mn A 1000))-B))).bind fun D=>(if a0.size+D.size≤9223372036854775807 then(some (a0++D)) else(none))) else(if K=true then((zbC.f 48 (wrap64 ((mx 0 (mn A 1000))-B))).bind fun E=>(if E.size+a0.size≤9223372036854775807 then(some (E++a0)) else(none))) else((zbC.f 32 (wrap64 ((mx 0 (mn A 1000))-B))).bind fun I=>(if I.size+a0.size≤9223372036854775807 then(some (I++a0)) else(none))))))
def zbD.T1:Bool×List (List Nat×List Nat):=(true,[([],[]),([0],[0]),([1],[1]),([2],[2]),([],[]),([4],[4]),([3,5],[3,5]),([6,5,0,1,2,3,4,5,6],[6])])
def zbD.B1:List Nat:=[0,1,3,7,0,16,63,127]
theorem zbD.tab1:rtab .any (opsOf Tryz.f45 1)=zbD.T1:=by kernel_rfl
theorem zbD.bits1:waitsOk zbD.T1.2 zbD.B1=true:=by kernel_rfl
theorem zbD.calls(a0:ByteArray)(J:Bool)(aa:Bool)(M:Bool)(O:Bool)(U:Bool)(D:Int)(X:Int)(Y:Int)(r:ByteArray)(w:World)(h:zbD.f a0 J aa M O U D X Y=some r):
  Calls Tryz.prog 45 #[.string a0,.agg #[.bool J,.bool aa,.bool M,.bool O,.bool U,.int .i64 D,.int .i64 X,.int .i32 Y]] w fun e w'=>e= .returned (.string r)∧Below w.heap.size w w':=by
 have bB:=Tryz.underlying26
 have HB:=zaa.mk (Below.refl w.heap.size w)
 have H:((zbW.f a0).bind fun E=>(if(wrap64 ((mx 0 (mn D 1000))-E))≤0 then(some a0) else(if aa=true then((zbC.f 32 (wrap64 ((mx 0 (mn D 1000))-E))).bind fun ab=>(if a0.size+ab.size≤9223372036854775807 then(some (a0++ab)) else(none))) else(if U=true then((zbC.f 48 (wrap64 ((mx 0 (mn D 1000))-E))).bind fun ac=>(if ac.size+a0.size≤9223372036854775807 then(some (ac++a0)) else(none))) else((zbC.f 32 (wrap64 ((mx 0 (mn D 1000))-E))).bind fun ad=>(if ad.size+a0.size≤9223372036854775807 then(some (ad++a0)) else(none)))))))=some r:=h
 clear h
 obtain⟨ah,Z⟩: ∃j_:Int,(mn D 1000)=j_:=⟨_,rfl⟩
 (first|rw[Z] at H|simp only[Z] at H)
 (try(have be:ah≤1000:=by(rw[←Z];unfold mn;(repeat' split)<;>omega)))
 (try(have bf:ah≤64:=by omega))
 have bg:(if 1000<D then 1000 else D)=ah:=Z
 obtain⟨af,I⟩: ∃j_:Int,(mx 0 (ah))=j_:=⟨_,rfl⟩
 (first|rw[I] at H|simp only[I] at H)
 have bh:(if 0<(ah) then(ah) else 0)=af:=I
 replace H:=bs H
 obtain⟨E,A5,H⟩:=H
 go_enter Tryz.func45,Tryz.ntmps45
 try go_wp2_with (first|((with_reducible refine zak (N:=3) rfl ?_);refine zaj rfl (N:=3) rfl (cs:=#[.bool J,.bool aa,.bool M,.bool O,.bool U,.int .i64 D,.int .i64 X,.int .i32 Y]) (t:=26) gz ?_;intro B hg w6 hbox hb;have bi:=gN bz hg;have A:=zaa.mk hbox;replace HB:=bN bz hb;clear hb hbox hg))
 replace A:=zaa.mk (zaw A.out)
 replace HB:=zaa.mk (zaT HB.out)
 refine zbo (n:=8) (S:=fun w'=>w'.cell? ⟨B,0,none⟩=some (.bool J)∧w'.cell? ⟨B,1,none⟩=some (.bool aa)∧w'.cell? ⟨B,2,none⟩=some (.bool M)∧w'.cell? ⟨B,3,none⟩=some (.bool O)∧w'.cell? ⟨B,4,none⟩=some (.bool U)∧w'.cell? ⟨B,5,none⟩=some (.int .i64 D)∧w'.cell? ⟨B,6,none⟩=some (.int .i64 X)∧w'.cell? ⟨B,7,none⟩=some (.int .i32 Y)) (ds:=[]) #[false,false,false,false,false,false,false,false] (by kernel_rfl) rfl rfl ⟨(zab A.out 0).trans rfl,(zab A.out 1).trans rfl,(zab A.out 2).trans rfl,(zab A.out 3).trans rfl,(zab A.out 4).trans rfl,(zab A.out 5).trans rfl,(zab A.out 6).trans rfl,(zab A.out 7).trans rfl⟩ (fun hHeld=>?_);refine zbf zbD.tab1 zbD.bits1 (fun ae HW_=>?_)
 generalize w6.drew=w7 at A HB hHeld ⊢
 refine zau (i:=0) (N:=some 6) (v:=?_) (a':=?_) #[true,false,false,false,false,false,false,false] rfl rfl (zas ae.out (by kernel_rfl)) (fun _ _ _ h=>h) (Or.inl ⟨by rfl,?_⟩) ?_ ?_
 rotate_left
 ·intro w'
  go_simp
  with_reducible rfl
 rotate_left
 ·simp only[Act.put,List.setIfInBounds_toArray,List.set_cons_zero,List.set_cons_succ,zad,zaf]
  rfl
 refine zau (i:=4) (N:=some 10) (v:=?_) (a':=?_) #[true,false,false,false,true,false,false,false] rfl rfl (zas ae.out (by kernel_rfl)) (fun _ _ _ h=>h) (Or.inl ⟨by rfl,?_⟩) ?_ ?_
 rotate_left
 ·intro w'
  go_simp
  with_reducible rfl
 rotate_left
 ·simp only[Act.put,List.setIfInBounds_toArray,List.set_cons_zero,List.set_cons_succ,zad,zaf]
  rfl
 refine zaW (i:=1) (N:=some 7) (v:=?_) (a':=?_) #[true,true,false,false,true,false,false,false] rfl rfl (zaH ae.out HW_.out (by kernel_rfl)) (fun _ _ _ h=>h) (Or.inl ⟨by rfl,?_⟩) hHeld ?_ ?_
 rotate_left
 ·rintro w' ⟨s0,s1,s2,s3,s4,s5,s6,s7⟩
  go_simp
  with_reducible rfl
 rotate_left
 ·simp only[Act.put,List.setIfInBounds_toArray,List.set_cons_zero,List.set_cons_succ,zad,zaf]
  rfl
 refine zau (i:=2) (N:=some 8) (v:=?_) (a':=?_) #[true,true,true,false,true,false,false,false] rfl rfl (zas ae.out (by kernel_rfl)) (fun _ _ _ h=>h) (Or.inl ⟨by rfl,?_⟩) ?_ ?_
 rotate_left
 ·intro w'
  go_simp
  with_reducible rfl
 rotate_left
 ·simp only[Act.put,List.setIfInBounds_toArray,List.set_cons_zero,List.set_cons_succ,zad,zaf]
  rfl
 refine zau (i:=3) (N:=some 9) (v:=?_) (a':=?_) #[true,true,true,true,true,false,false,false] rfl rfl (zas ae.out (by kernel_rfl)) (fun _ _ _ h=>h) (Or.inl ⟨by rfl,?_⟩) ?_ ?_
 rotate_left
 ·intro w'
  go_simp
  with_reducible rfl
 rotate_left
 ·simp only[Act.put,List.setIfInBounds_toArray,List.set_cons_zero,List.set_cons_succ,zad,zaf]
  rfl
 refine one_ (i:=5) (N:=some 11) #[true,true,true,true,true,true,false,false] rfl rfl (zaZ ae.out (by kernel_rfl)) (by decide) (fun K hK=>?_)
 refine za5 Tryz.func71 (by kernel_rfl) rfl #[.string a0] (by rfl) rfl rfl lz ?_
 with_reducible refine(zbW.calls a0 E _ A5.out).mono ?_
 rintro e w8 ⟨rfl,hb⟩
 refine⟨_,rfl,?_⟩
 replace A:=zaa.mk (zag (g:=B) (o:=.cells #[.bool J,.bool aa,.bool M,.bool O,.bool U,.int .i64 D,.int .i64 X,.int .i32 Y] 26 (0,0)) bk hb)
 replace HB:=zaa.mk (zam bz hb)
 (try clear hb)
 (try clear an)
 (try clear hk)
 (try clear hi)
 refine hK.out _ _ ⟨(zab A.out 0).trans rfl,(zab A.out 1).trans rfl,(zab A.out 2).trans rfl,(zab A.out 3).trans rfl,(zab A.out 4).trans rfl,(zab A.out 5).trans rfl,(zab A.out 6).trans rfl,(zab A.out 7).trans rfl⟩ (fun hHeld=>?_)
 clear hK K
 refine zaY (a':=?_) ?_ ?_
 rotate_left
 ·show Act.put _ (some 11) _=_
  simp only[Act.put,List.setIfInBounds_toArray,List.set_cons_zero,List.set_cons_succ,zad,zaf]
  rfl
 refine zau (i:=6) (N:=some 12) (v:=?_) (a':=?_) #[true,true,true,true,true,true,true,false] rfl rfl (zas ae.out (by kernel_rfl)) (fun _ _ _ h=>h) (Or.inl ⟨by rfl,?_⟩) ?_ ?_
 rotate_left
 ·intro w'
  go_simp
  with_reducible rfl
 rotate_left
 ·simp only[Act.put,List.setIfInBounds_toArray,List.set_cons_zero,List.set_cons_succ,zad,zaf]
  rfl
 refine zau (i:=7) (N:=some 5) (v:=?_) (a':=?_) #[true,true,true,true,true,true,true,true] rfl rfl (zas ae.out (by kernel_rfl)) (fun _ _ _ h=>h) (Or.inl ⟨by rfl,?_⟩) ?_ ?_
 rotate_left
 ·intro w'
  go_simp
  with_reducible rfl
 rotate_left
 ·simp only[Act.put,List.setIfInBounds_toArray,List.set_cons_zero,List.set_cons_succ,zad,zaf]
  rfl
 refine zbx (zbs ae.out (by kernel_rfl)) ?_
 go_upto_if 13 with(fail)
 by_cases c9:(wrap64 ((af)-E))≤0
 ·replace H:=hE H c9
  have ag:=decide_eq_true c9
  clear c9
  (first|rw[ag]|(simp only[zad,zaf];rw[ag])|skip)
  obtain rfl:=Option.some.inj H
  go_wp2
  go_ret
  exact⟨by first|rfl|(simp[zan,zao]<;>rfl)|(simp only[←Z,←I];first|rfl|(simp[zan,zao]<;>rfl))|(simp[*,zan,zao]<;>rfl),bz⟩
 replace H:=hN H c9
 have ag:=decide_eq_false c9
 clear c9
 (first|rw[ag]|(simp only[zad,zaf];rw[ag])|skip)
 by_cases al:aa=true
 ·subst al
  replace H:=hT H
  replace H:=bs H
  obtain⟨ab,bj,H⟩:=H
  by_cases ai:a0.size+ab.size≤9223372036854775807
  ·replace H:=hE H ai
   have bl:=eq_true ai
   have bm:decide (a0.size+ab.size≤9223372036854775807)=true:=decide_eq_true ai
   try have bn:(9223372036854775807<a0.size+ab.size)=False:=eq_false (Nat.not_lt.2 ai)
   obtain rfl:=Option.some.inj H
   obtain⟨ao,ap,ar,au,av,aw,ax,ay,az,aA,aB,aC,aD,aE,aF,aG⟩:=cz8 (W:=w8) A
   go_wp2_with (first|((with_reducible refine zac (f:=27) rfl ?_);refine zal (some 22) rfl rfl Tryz.func27 (by kernel_rfl) rfl #[.int .u8 32,.int .i64 (wrap64 ((af)-E))] rfl (by(try simp only[List.map_toArray,List.map_cons,List.map_nil]);first|done|(simp only[I];rfl)|rfl|(simp only[List.length_drop,List.length_take];rfl)) ?_;(with_reducible refine(zbC.calls 32 (wrap64 ((af)-E)) ab _ bj.out).mono ?_);rintro e bC ⟨rfl,hb⟩;refine⟨_,rfl,?_⟩;replace A:=kN (g:=B) (cs:=#[.bool J,.bool true,.bool M,.bool O,.bool U,.int .i64 D,.int .i64 X,.int .i32 Y]) hb bk;replace HB:=bN bz hb;(try clear hb);(try clear an);(try clear hk);(try clear hi)))
   go_ret
   exact⟨by first|rfl|(simp[zan,zao]<;>rfl)|(simp only[←Z,←I];first|rfl|(simp[zan,zao]<;>rfl))|(simp[*,zan,zao]<;>rfl),bz⟩
  replace H:=hN H ai
  exact absurd H (by simp)
 replace al:=Bool.eq_false_iff.mpr al
 subst al
 replace H:=hF H
 by_cases am:U=true
 ·subst am
  replace H:=hT H
  replace H:=bs H
  obtain⟨ac,bo,H⟩:=H
  by_cases aj:ac.size+a0.size≤9223372036854775807
  ·replace H:=hE H aj
   have bp:=eq_true aj
   have bq:decide (ac.size+a0.size≤9223372036854775807)=true:=decide_eq_true aj
   try have br:(9223372036854775807<ac.size+a0.size)=False:=eq_false (Nat.not_lt.2 aj)
   obtain rfl:=Option.some.inj H
   obtain⟨aH,aI,aJ,aK,aL,aM,aN,aO,aP,aQ,aR,aS,aT,aU,aV,aW⟩:=cz8 (W:=w8) A
   go_wp2_with (first|((with_reducible refine zac (f:=27) rfl ?_);refine zal (some 28) rfl rfl Tryz.func27 (by kernel_rfl) rfl #[.int .u8 48,.int .i64 (wrap64 ((af)-E))] rfl (by(try simp only[List.map_toArray,List.map_cons,List.map_nil]);first|done|(simp only[I];rfl)|rfl|(simp only[List.length_drop,List.length_take];rfl)) ?_;(with_reducible refine(zbC.calls 48 (wrap64 ((af)-E)) ac _ bo.out).mono ?_);rintro e bD ⟨rfl,hb⟩;refine⟨_,rfl,?_⟩;replace A:=kN (g:=B) (cs:=#[.bool J,.bool false,.bool M,.bool O,.bool true,.int .i64 D,.int .i64 X,.int .i32 Y]) hb bk;replace HB:=bN bz hb;(try clear hb);(try clear an);(try clear hk);(try clear hi)))
   go_ret
   exact⟨by first|rfl|(simp[zan,zao]<;>rfl)|(simp only[←Z,←I];first|rfl|(simp[zan,zao]<;>rfl))|(simp[*,zan,zao]<;>rfl),bz⟩
  replace H:=hN H aj
  exact absurd H (by simp)
 replace am:=Bool.eq_false_iff.mpr am
 subst am
 replace H:=hF H
 replace H:=bs H
 obtain⟨ad,bu,H⟩:=H
 by_cases ak:ad.size+a0.size≤9223372036854775807
 ·replace H:=hE H ak
  have bv:=eq_true ak
  have bw:decide (ad.size+a0.size≤9223372036854775807)=true:=decide_eq_true ak
  try have bA:(9223372036854775807<ad.size+a0.size)=False:=eq_false (Nat.not_lt.2 ak)
  obtain rfl:=Option.some.inj H
  obtain⟨aX,aY,aZ,a1,a2,a3,a4,a5,a6,a7,a8,a9,ba,bb,bc,bd⟩:=cz8 (W:=w8) A
  go_wp2_with (first|((with_reducible refine zac (f:=27) rfl ?_);refine zal (some 32) rfl rfl Tryz.func27 (by kernel_rfl) rfl #[.int .u8 32,.int .i64 (wrap64 ((af)-E))] rfl (by(try simp only[List.map_toArray,List.map_cons,List.map_nil]);first|done|(simp only[I];rfl)|rfl|(simp only[List.length_drop,List.length_take];rfl)) ?_;(with_reducible refine(zbC.calls 32 (wrap64 ((af)-E)) ad _ bu.out).mono ?_);rintro e bE ⟨rfl,hb⟩;refine⟨_,rfl,?_⟩;replace A:=kN (g:=B) (cs:=#[.bool J,.bool false,.bool M,.bool O,.bool false,.int .i64 D,.int .i64 X,.int .i32 Y]) hb bk;replace HB:=bN bz hb;(try clear hb);(try clear an);(try clear hk);(try clear hi)))
  go_ret
  exact⟨by first|rfl|(simp[zan,zao]<;>rfl)|(simp only[←Z,←I];first|rfl|(simp[zan,zao]<;>rfl))|(simp[*,zan,zao]<;>rfl),bz⟩
 replace H:=hN H ak
 exact absurd H (by simp)
end
end Go.Proofs.YtecpgdfnamkfdaaGreatDoor.Fn
end
section
namespace Go.Proofs.YtecpgdfnamkfdaaGreatDoor.Pure
set_option linter.unusedVariables false
def fM(f p:Nat):Nat:=if p / 2^f=0 then p%2^f else p%2^f+2^f
def fE(f p:Nat):Nat:=p / 2^f-1
def fW(f p:Nat):Nat:=fM f p*2^fE f p
theorem zbV(n:Nat):0<2^n:=Nat.pow_pos (by omega)
theorem zfj(f p:Nat):fM f p<2^(f+1):=by
  have h:=Nat.mod_lt p (zbV f)
  unfold fM
  rw[Nat.pow_succ]
  split<;>omega
theorem fParts(f k m:Nat)(h1:m<2^(f+1))(h2:2^f≤m∨k=0):fM f (k*2^f+m)=m∧fE f (k*2^f+m)=k:=by
  have hp:=zbV f
  rw[Nat.pow_succ] at h1
  unfold fM fE
  by_cases c:2^f≤m
  · have e:k*2^f+m=(m-2^f)+2^f*(k+1):=by rw[Nat.mul_add,Nat.mul_one,Nat.mul_comm (2^f) k];omega
    rw[e,Nat.add_mul_div_left _ _ hp,Nat.add_mul_mod_self_left,Nat.div_eq_of_lt (by omega),Nat.mod_eq_of_lt (by omega)]
    rw[if_neg (by omega)]
    omega
  · have hk:k=0:=h2.resolve_left c
    subst hk
    rw[Nat.zero_mul,Nat.zero_add,Nat.div_eq_of_lt (by omega),Nat.mod_eq_of_lt (by omega),if_pos rfl]
    exact⟨rfl,rfl⟩
theorem fOf(f p:Nat):p=fE f p*2^f+fM f p∧(2^f≤fM f p∨fE f p=0):=by
  have hp:=zbV f
  have hd:=Nat.div_add_mod p (2^f)
  unfold fM fE
  by_cases c:p / 2^f=0
  · rw[if_pos c,c,Nat.zero_sub,Nat.zero_mul,Nat.zero_add]
    rw[c,Nat.mul_zero,Nat.zero_add] at hd
    exact⟨hd.symm,.inr rfl⟩
  · rw[if_neg c]
    obtain⟨j,hj⟩:=Nat.exists_eq_succ_of_ne_zero c
    rw[Nat.succ_eq_add_one] at hj
    rw[hj] at hd ⊢
    rw[Nat.mul_add,Nat.mul_one,Nat.mul_comm (2^f) j] at hd
    rw[Nat.add_sub_cancel]
    omega
theorem zh9{f k m:Nat}(h1:m≤2^(f+1))(h2:2^f≤m∨k=0):fW f (k*2^f+m)=m*2^k:=by
  by_cases c:m<2^(f+1)
  · obtain⟨e1,e2⟩:=fParts f k m c h2
    unfold fW
    rw[e1,e2]
  · have hm:m=2^(f+1):=by omega
    have e:k*2^f+m=(k+1)*2^f+2^f:=by rw[hm,Nat.pow_succ,Nat.add_mul];omega
    obtain⟨e1,e2⟩:=fParts f (k+1) (2^f) (by rw[Nat.pow_succ];have:=zbV f;omega) (.inl (Nat.le_refl _))
    unfold fW
    rw[e,e1,e2,hm,Nat.pow_succ,Nat.pow_succ,Nat.mul_assoc,Nat.mul_comm 2]
theorem zcU(f p:Nat):fW f (p+1)=fW f p+2^fE f p:=by
  obtain⟨e1,e2⟩:=fOf f p
  have hlt:=zfj f p
  have e3:p+1=fE f p*2^f+(fM f p+1):=by omega
  rw[e3,zh9 (by omega) (e2.imp (fun h=>by omega) id)]
  unfold fW
  rw[Nat.add_mul,Nat.one_mul]
theorem zfk{f p q:Nat}(h:p<q):fW f p<fW f q:=by
  obtain⟨d,rfl⟩: ∃d,q=p+1+d:=⟨q-(p+1),by omega⟩
  clear h
  induction d with
  |zero=>rw[Nat.add_zero,zcU];have:=zbV (fE f p);omega
  |succ d ih=>rw[←Nat.add_assoc,zcU];have:=zbV (fE f (p+1+d));omega
theorem zfl{f p q:Nat}(h:p≤q):fW f p≤fW f q:=by
  rcases Nat.lt_or_eq_of_le h with h|rfl
  · exact Nat.le_of_lt (zfk h)
  · exact Nat.le_refl _
theorem zdY(f:Nat):fW f 0=0:=by
  have:=zh9 (f:=f) (k:=0) (m:=0) (Nat.zero_le _) (.inr rfl)
  rw[Nat.zero_mul,Nat.zero_add,Nat.zero_mul] at this
  exact this
def fFloor(f inf X B p:Nat):Prop:=p≤inf∧fW f p*B≤X∧(p<inf→X<fW f (p+1)*B)
theorem zcQ{f inf X B p q:Nat}(hB:0<B)(h1:fFloor f inf X B p)(h2:fFloor f inf X B q):p=q:=by
  obtain⟨a1,a2,a3⟩:=h1
  obtain⟨b1,b2,b3⟩:=h2
  have key: ∀p q:Nat,p<q→q≤inf→fW f q*B≤X→(p<inf→X<fW f (p+1)*B)→False:=by
    intro p q hpq hq h1 h2
    have h3:=h2 (by omega)
    have h4:fW f (p+1)*B≤fW f q*B:=Nat.mul_le_mul_right _ (zfl hpq)
    omega
  rcases Nat.lt_trichotomy p q with h|h|h
  · exact(key p q h b1 b2 a3).elim
  · exact h
  · exact(key q p h a1 a2 b3).elim
def fUp(f X B p:Nat):Prop:=(fW f p+fW f (p+1))*B<2*X∨((fW f p+fW f (p+1))*B=2*X∧p%2=1)
instance (f X B p : Nat) : Decidable (fUp f X B p) := by unfold fUp; infer_instance
def fNear(f inf X B p:Nat):Nat:=if p=inf then inf else if fUp f X B p then p+1 else p
def fFind(f X B:Nat):Nat→Nat→Nat
  |0,lo=>lo
  |n+1,lo=>if fW f (lo+2^n)*B≤X then fFind f X B n (lo+2^n) else fFind f X B n lo
theorem zds(f X B:Nat): ∀n lo,fW f lo*B≤X→fW f (fFind f X B n lo)*B≤X∧(X<fW f (lo+2^n)*B→X<fW f (fFind f X B n lo+1)*B)∧lo≤fFind f X B n lo∧fFind f X B n lo<lo+2^n
  |0,lo,h=>⟨h,fun h=>h,Nat.le_refl _,by simp[fFind]⟩
  |n+1,lo,h=>by
    unfold fFind
    have hp:=zbV n
    by_cases c:fW f (lo+2^n)*B≤X
    · rw[if_pos c]
      obtain⟨a,b,d,e⟩:=zds f X B n (lo+2^n) c
      refine⟨a,fun h2=>b ?_,by omega,by rw[Nat.pow_succ];omega⟩
      rw[show lo+2^n+2^n=lo+2^(n+1) by rw[Nat.pow_succ];omega]
      exact h2
    · rw[if_neg c]
      obtain⟨a,b,d,e⟩:=zds f X B n lo h
      exact⟨a,fun _=>b (by omega),d,by rw[Nat.pow_succ];omega⟩
end Go.Proofs.YtecpgdfnamkfdaaGreatDoor.Pure
end
section
namespace Go.Proofs.YtecpgdfnamkfdaaGreatDoor.Fn
open Go.RowKit Go.Proofs.YtecpgdfnamkfdaaGreatDoorW.PrintWords Go.Proofs.YtecpgdfnamkfdaaGreatDoorW.PrintLast Go.Proofs.YtecpgdfnamkfdaaGreatDoorW.PrintMore
set_option linter.unusedVariables false
set_option linter.unusedSimpArgs false
set_option maxHeartbeats 8000000
set_option maxRecDepth 100000
section
attribute [local go_sem] fnW_0 fnW_1 fnW_2 fnW_3 fnW_4 fnW_5 fnW_guard fnW_eql zaK zaL zaQ zaR
def zbF.f(a0:Int):Option (Int×Int×Int×Bool):=if a0=32 then(some (23,(-149),2139095040,true)) else(if a0=64 then(some (52,(-1074),9218868437227405312,true)) else(some (0,0,0,false)))
theorem zbF.calls(a0:Int)(r1:Int)(r2:Int)(r3:Int)(r4:Bool)(w:World)(h:zbF.f a0=some (r1,r2,r3,r4)):
  Calls Tryz.prog 42 #[.int .i64 a0] w fun e w'=>e= .returned (.tuple #[.agg #[.int .i64 r1,.int .i64 r2,.int .u64 r3],.bool r4])∧Below w.heap.size w w':=by
 have am:=Tryz.underlying66
 have HB:=zaa.mk (Below.refl w.heap.size w)
 have H:(if a0=32 then(some (23,(-149),2139095040,true)) else(if a0=64 then(some (52,(-1074),9218868437227405312,true)) else(some (0,0,0,false))))=some (r1,r2,r3,r4):=h
 clear h
 go_enter Tryz.func42,Tryz.ntmps42
 go_upto_if 5 with(first|((with_reducible refine zak (N:=2) rfl ?_);refine zaj rfl (N:=2) rfl (cs:=#[.int .i64 0,.int .i64 0,.int .u64 0]) (t:=66) gz ?_;intro A hg w2 hbox hb;have al:=gN bz hg;have B:=zaa.mk hbox;replace HB:=bN bz hb;clear hb hbox hg))
 (try simp only[Act.put,List.setIfInBounds_toArray,List.set_cons_zero,List.set_cons_succ])
 by_cases c3:a0=32
 ·replace H:=hE H c3
  obtain⟨D,E⟩:=eT c3
  clear c3
  try first|rw[D]|rw[E]
  simp only[Option.some.injEq,Prod.mk.injEq] at H
  obtain⟨rfl,rfl,rfl,rfl⟩:=H
  obtain⟨K,M,O,U,X,Y⟩:=cz3 (W:=w2) B
  go_wp2
  refine bodyPost_ret (zaM rfl _ _ A 66 #[.int .i64 23,.int .i64 (-149),.int .u64 2139095040] (0,0) _ rfl bk Tryz.underlying66 rfl (by kernel_rfl)) rfl ?_
  exact⟨ez,bz⟩
 replace H:=hN H c3
 obtain⟨D,E⟩:=eF c3
 try first|rw[D]|rw[E]
 by_cases c5:a0=64
 ·replace H:=hE H c5
  obtain⟨I,J⟩:=eT c5
  clear c5
  simp only[Option.some.injEq,Prod.mk.injEq] at H
  obtain⟨rfl,rfl,rfl,rfl⟩:=H
  obtain⟨Z,aa,ab,ac,ad,ae⟩:=cz3 (W:=w2) B
  go_wp2
  refine bodyPost_ret (zaM rfl _ _ A 66 #[.int .i64 52,.int .i64 (-1074),.int .u64 9218868437227405312] (0,0) _ rfl bk Tryz.underlying66 rfl (by kernel_rfl)) rfl ?_
  exact⟨ez,bz⟩
 replace H:=hN H c5
 obtain⟨I,J⟩:=eF c5
 simp only[Option.some.injEq,Prod.mk.injEq] at H
 obtain⟨rfl,rfl,rfl,rfl⟩:=H
 obtain⟨af,ag,ah,ai,aj,ak⟩:=cz3 (W:=w2) B
 go_wp2
 refine bodyPost_ret (zaM rfl _ _ A 66 #[.int .i64 0,.int .i64 0,.int .u64 0] (0,0) _ rfl bk Tryz.underlying66 rfl (by kernel_rfl)) rfl ?_
 exact⟨ez,bz⟩
def zaV.f(A:Int)(B:Int)(D:Int)(a1:Int):Option (Int×Int):=if 0≤A then(if(wrap64 (shr .u64 a1 A))=0 then(some (Go.bits .and .u64 a1 (IntKind.u64.wrap ((shl .u64 1 A)-1)),B)) else(some (Go.bits .or .u64 (Go.bits .and .u64 a1 (IntKind.u64.wrap ((shl .u64 1 A)-1))) (shl .u64 1 A),wrap64 ((wrap64 (B+(wrap64 (shr .u64 a1 A))))-1)))) else(none)
theorem zaV.calls(A:Int)(E:Int)(K:Int)(a1:Int)(r1:Int)(r2:Int)(w:World)(h:zaV.f A E K a1=some (r1,r2)):
  Calls Tryz.prog 43 #[.agg #[.int .i64 A,.int .i64 E,.int .u64 K],.int .u64 a1] w fun e w'=>e= .returned (.tuple #[.int .u64 r1,.int .i64 r2])∧Below w.heap.size w w':=by
 have aG:=Tryz.underlying66
 have HB:=zaa.mk (Below.refl w.heap.size w)
 have H:(if 0≤A then(if(wrap64 (shr .u64 a1 A))=0 then(some (Go.bits .and .u64 a1 (IntKind.u64.wrap ((shl .u64 1 A)-1)),E)) else(some (Go.bits .or .u64 (Go.bits .and .u64 a1 (IntKind.u64.wrap ((shl .u64 1 A)-1))) (shl .u64 1 A),wrap64 ((wrap64 (E+(wrap64 (shr .u64 a1 A))))-1)))) else(none))=some (r1,r2):=h
 clear h
 by_cases c3:0≤A
 ·replace H:=hE H c3
  have aH:=eq_true c3
  have aI:decide (0≤A)=true:=decide_eq_true c3
  clear c3
  obtain⟨aj,I⟩: ∃j_:Int,(shr .u64 a1 A)=j_:=⟨_,rfl⟩
  (first|rw[I] at H|simp only[I] at H)
  have aB:(a1 / 2^min A.toNat 64)=aj:=I
  have aC:A≤64→(a1 / 2^A.toNat)=aj:=zc3 I
  have aJ:=eq_true (of_decide_eq_true (by first|(with_reducible assumption)|assumption):0≤A)
  obtain⟨ai,J⟩: ∃j_:Int,(shl .u64 1 A)=j_:=⟨_,rfl⟩
  (first|rw[J] at H|simp only[J] at H)
  have ak:(IntKind.u64.wrap (1*2^min A.toNat 64))=ai:=J
  have al:A≤64→(IntKind.u64.wrap (1*2^A.toNat))=ai:=zbM J
  have aD:(IntKind.u64.wrap (2^min A.toNat 64))=ai:=by have h_:=ak;rw[Int.one_mul] at h_;exact h_
  have aE:A≤64→(IntKind.u64.wrap (2^A.toNat))=ai:=fun hle_=>by have h_:=al hle_;rw[Int.one_mul] at h_;exact h_
  go_enter Tryz.func43,Tryz.ntmps43
  go_upto_if 20 with(first|((with_reducible refine zak (N:=2) rfl ?_);refine zaj rfl (N:=2) rfl (cs:=#[.int .i64 A,.int .i64 E,.int .u64 K]) (t:=66) gz ?_;intro D hg w7 hbox hb;have ab:=gN bz hg;have ac:=gN bz hg;have B:=zaa.mk hbox;replace HB:=bN bz hb;clear hb hbox hg;obtain⟨O,U,X,Y,Z,aa⟩:=cz3 (W:=w7) B))
  repeat(go_quiet (first|((with_reducible refine zak (N:=2) rfl ?_);refine zaj rfl (N:=2) rfl (cs:=#[.int .i64 A,.int .i64 E,.int .u64 K]) (t:=66) gz ?_;intro D hg w7 hbox hb;have ad:=zaa.mk (zam bz hb);have ae:=zaa.mk (hbox);have af:=zaa.mk ((by rw[hg];exact(zaI bz):w.heap.size≤D));have ag:=zaa.mk ((by rw[hg];exact(zaI bz):w.heap.size≤D));clear HB;have HB:=ad;have B:=ae;have ab:=af;have ac:=ag;clear ad ae af ag;clear hb hbox hg;obtain⟨O,U,X,Y,Z,aa⟩:=cz3 (W:=w7) B));go_upto_if 20 with(first|((with_reducible refine zak (N:=2) rfl ?_);refine zaj rfl (N:=2) rfl (cs:=#[.int .i64 A,.int .i64 E,.int .u64 K]) (t:=66) gz ?_;intro D hg w7 hbox hb;have ad:=zaa.mk (zam bz hb);have ae:=zaa.mk (hbox);have af:=zaa.mk ((by rw[hg];exact(zaI bz):w.heap.size≤D));have ag:=zaa.mk ((by rw[hg];exact(zaI bz):w.heap.size≤D));clear HB;have HB:=ad;have B:=ae;have ab:=af;have ac:=ag;clear ad ae af ag;clear hb hbox hg;obtain⟨O,U,X,Y,Z,aa⟩:=cz3 (W:=w7) B)))
  (try simp only[Act.put,List.setIfInBounds_toArray,List.set_cons_zero,List.set_cons_succ])
  by_cases c9:(wrap64 (aj))=0
  ·replace H:=hE H c9
   obtain⟨M,ah⟩:=eT c9
   clear c9
   (first|rw[M]|rw[ah]|(simp only[zad,zaf];rw[M])|skip)
   simp only[Option.some.injEq,Prod.mk.injEq] at H
   obtain⟨rfl,rfl⟩:=H
   obtain⟨am,an,ao,ap,ar,au⟩:=cz3 (W:=w7) B
   go_wp2
   repeat(go_quiet (fail);try go_wp2)
   go_ret2
   exact⟨by first|rfl|(simp[zan,zao]<;>rfl)|(simp only[←I,←J];first|rfl|(simp[zan,zao]<;>rfl))|(simp[*,zan,zao]<;>rfl),bz⟩
  replace H:=hN H c9
  obtain⟨M,ah⟩:=eF c9
  (first|rw[M]|rw[ah]|(simp only[zad,zaf];rw[M])|skip)
  have aF:=eq_true (of_decide_eq_true (by first|(with_reducible assumption)|assumption):0≤A)
  simp only[Option.some.injEq,Prod.mk.injEq] at H
  obtain⟨rfl,rfl⟩:=H
  obtain⟨av,aw,ax,ay,az,aA⟩:=cz3 (W:=w7) B
  go_wp2
  repeat(go_quiet (fail);try go_wp2)
  go_ret2
  exact⟨by first|rfl|(simp[zan,zao]<;>rfl)|(simp only[←I,←J];first|rfl|(simp[zan,zao]<;>rfl))|(simp[*,zan,zao]<;>rfl),bz⟩
 replace H:=hN H c3
 exact absurd H (by simp)
def zbS.f(a0:Int)(a1:Int):Option (Bool×Int×Int×Int):=(zbF.f a1).bind fun A=>(if A.2.2.2=true then(if 0≤(wrap64 (a1-1)) then(if(Go.bits .and .u64 a0 (IntKind.u64.wrap ((shl .u64 1 (wrap64 (a1-1)))-1)))=A.2.2.1 then(some (((Go.bits .and .u64 (shr .u64 a0 (wrap64 (a1-1))) 1)==1),0,0,1)) else(if(Go.bits .and .u64 a0 (IntKind.u64.wrap ((shl .u64 1 (wrap64 (a1-1)))-1)))>A.2.2.1 then(some (((Go.bits .and .u64 (shr .u64 a0 (wrap64 (a1-1))) 1)==1),0,0,2)) else((zaV.f A.1 A.2.1 A.2.2.1 (Go.bits .and .u64 a0 (IntKind.u64.wrap ((shl .u64 1 (wrap64 (a1-1)))-1)))).bind fun B=>(some (((Go.bits .and .u64 (shr .u64 a0 (wrap64 (a1-1))) 1)==1),B.1,B.2,0))))) else(none)) else(some (false,0,0,3)))
theorem zbS.calls(a0:Int)(a1:Int)(r1:Bool)(r2:Int)(r3:Int)(r4:Int)(w:World)(h:zbS.f a0 a1=some (r1,r2,r3,r4)):
  Calls Tryz.prog 24 #[.int .u64 a0,.int .i64 a1] w fun e w'=>e= .returned (.tuple #[.bool r1,.int .u64 r2,.int .i64 r3,.int .i64 r4])∧Below w.heap.size w w':=by
 have aU:=Tryz.underlying66
 have HB:=zaa.mk (Below.refl w.heap.size w)
 have H:((zbF.f a1).bind fun I=>(if I.2.2.2=true then(if 0≤(wrap64 (a1-1)) then(if(Go.bits .and .u64 a0 (IntKind.u64.wrap ((shl .u64 1 (wrap64 (a1-1)))-1)))=I.2.2.1 then(some (((Go.bits .and .u64 (shr .u64 a0 (wrap64 (a1-1))) 1)==1),0,0,1)) else(if(Go.bits .and .u64 a0 (IntKind.u64.wrap ((shl .u64 1 (wrap64 (a1-1)))-1)))>I.2.2.1 then(some (((Go.bits .and .u64 (shr .u64 a0 (wrap64 (a1-1))) 1)==1),0,0,2)) else((zaV.f I.1 I.2.1 I.2.2.1 (Go.bits .and .u64 a0 (IntKind.u64.wrap ((shl .u64 1 (wrap64 (a1-1)))-1)))).bind fun aa=>(some (((Go.bits .and .u64 (shr .u64 a0 (wrap64 (a1-1))) 1)==1),aa.1,aa.2,0))))) else(none)) else(some (false,0,0,3))))=some (r1,r2,r3,r4):=h
 clear h
 replace H:=bs H
 obtain⟨⟨X,Y,J,ae⟩,A3,H⟩:=H
 dsimp only at H
 go_enter Tryz.func24,Tryz.ntmps24
 go_upto_if 20 with(first|((with_reducible refine zac (f:=42) rfl ?_);refine zal (some 16) rfl rfl Tryz.func42 (by kernel_rfl) rfl #[.int .i64 a1] rfl lz ?_;(with_reducible refine(zbF.calls a1 X Y J ae _ A3.out).mono ?_);rintro e w4 ⟨rfl,hb⟩;refine⟨_,rfl,?_⟩;replace HB:=bN bz hb;(try clear hb);(try clear aP);(try clear hk);(try clear hi))|((with_reducible refine zak (N:=8) rfl ?_);refine zaj rfl (N:=8) rfl (cs:=#[.int .i64 0,.int .i64 0,.int .u64 0]) (t:=66) gz ?_;intro ag hg w5 hbox hb;have aQ:=gN bz hg;have K:=zaa.mk hbox;replace HB:=bN bz hb;clear hb hbox hg;obtain⟨aF,aG,aH,aI,aJ,aK⟩:=cz3 (W:=w5) K))
 (try simp only[Act.put,List.setIfInBounds_toArray,List.set_cons_zero,List.set_cons_succ])
 by_cases c7:ae=true
 ·subst c7
  replace H:=hT H
  obtain⟨D,O⟩: ∃j_:Int,(wrap64 (a1-1))=j_:=⟨_,rfl⟩
  (first|rw[O] at H|simp only[O] at H)
  have aR:(IntKind.i64.wrap (a1-1))=D:=(zad _).trans O
  by_cases c9:0≤(D)
  ·replace H:=hE H c9
   have aV:=eq_true c9
   have aW:decide (0≤(D))=true:=decide_eq_true c9
   clear c9
   obtain⟨af,E⟩: ∃j_:Int,(shr .u64 a0 (D))=j_:=⟨_,rfl⟩
   (first|rw[E] at H|simp only[E] at H)
   have aL:(a0 / 2^min (D).toNat 64)=af:=E
   have aM:(D)≤64→(a0 / 2^(D).toNat)=af:=zc3 E
   have aS:=eq_true (of_decide_eq_true (by first|(with_reducible assumption)|assumption):0≤(D))
   obtain⟨B,A⟩: ∃j_:Int,(shl .u64 1 (D))=j_:=⟨_,rfl⟩
   (first|rw[A] at H|simp only[A] at H)
   have ac:(IntKind.u64.wrap (1*2^min (D).toNat 64))=B:=A
   have ad:(D)≤64→(IntKind.u64.wrap (1*2^(D).toNat))=B:=zbM A
   have aN:(IntKind.u64.wrap (2^min (D).toNat 64))=B:=by have h_:=ac;rw[Int.one_mul] at h_;exact h_
   have aO:(D)≤64→(IntKind.u64.wrap (2^(D).toNat))=B:=fun hle_=>by have h_:=ad hle_;rw[Int.one_mul] at h_;exact h_
   by_cases ab:(Go.bits .and .u64 a0 (IntKind.u64.wrap ((B)-1)))=J
   ·replace H:=hE H ab
    obtain⟨M,U⟩:=eT ab
    clear ab
    (first|rw[M]|rw[U]|(simp only[zad,zaf];rw[M])|skip)
    simp only[Option.some.injEq,Prod.mk.injEq] at H
    obtain⟨rfl,rfl,rfl,rfl⟩:=H
    obtain⟨ai,aj,ak,al,am,an⟩:=cz3 (W:=w5) K
    go_wp2
    refine bodyPost_ret (zbU (rs:=[.tmp 4,.tmp 5,.tmp 6,.tmp 7]) rfl (by simp) (.tmp (.tmp (.tmp (.tmp .nil))))) rfl ?_
    exact⟨by first|rfl|(simp[zan,zao]<;>rfl)|(simp only[←O,←E,←A];first|rfl|(simp[zan,zao]<;>rfl))|(simp[*,zan,zao]<;>rfl),bz⟩
   replace H:=hN H ab
   obtain⟨M,U⟩:=eF ab
   (first|rw[M]|rw[U]|(simp only[zad,zaf];rw[M])|skip)
   by_cases Z:(Go.bits .and .u64 a0 (IntKind.u64.wrap ((B)-1)))>J
   ·replace H:=hE H Z
    have ah:decide (J<(Go.bits .and .u64 a0 (IntKind.u64.wrap ((B)-1))))=true:=decide_eq_true Z
    clear Z
    simp only[Option.some.injEq,Prod.mk.injEq] at H
    obtain⟨rfl,rfl,rfl,rfl⟩:=H
    obtain⟨ao,ap,ar,au,av,aw⟩:=cz3 (W:=w5) K
    go_wp2
    refine bodyPost_ret (zbU (rs:=[.tmp 4,.tmp 5,.tmp 6,.tmp 7]) rfl (by simp) (.tmp (.tmp (.tmp (.tmp .nil))))) rfl ?_
    exact⟨by first|rfl|(simp[zan,zao]<;>rfl)|(simp only[←O,←E,←A];first|rfl|(simp[zan,zao]<;>rfl))|(simp[*,zan,zao]<;>rfl),bz⟩
   replace H:=hN H Z
   have ah:decide (J<(Go.bits .and .u64 a0 (IntKind.u64.wrap ((B)-1))))=false:=decide_eq_false Z
   clear Z
   replace H:=bs H
   obtain⟨⟨ax,ay⟩,aT,H⟩:=H
   dsimp only at H
   simp only[Option.some.injEq,Prod.mk.injEq] at H
   obtain⟨rfl,rfl,rfl,rfl⟩:=H
   obtain⟨az,aA,aB,aC,aD,aE⟩:=cz3 (W:=w5) K
   go_wp2_with (first|((with_reducible refine zac (f:=43) rfl ?_);refine zal (some 36) rfl rfl Tryz.func43 (by kernel_rfl) rfl #[.agg #[.int .i64 X,.int .i64 Y,.int .u64 J],.int .u64 (Go.bits .and .u64 a0 (IntKind.u64.wrap ((B)-1)))] rfl (by(try simp only[List.map_toArray,List.map_cons,List.map_nil]);first|done|(simp only[A];rfl)|rfl|(simp only[List.length_drop,List.length_take];rfl)) ?_;(with_reducible refine(zaV.calls X Y J (Go.bits .and .u64 a0 (IntKind.u64.wrap ((B)-1))) ax ay _ aT.out).mono ?_);rintro e aX ⟨rfl,hb⟩;refine⟨_,rfl,?_⟩;replace K:=kN (g:=ag) (cs:=#[.int .i64 X,.int .i64 Y,.int .u64 J]) hb bk;replace HB:=bN bz hb;(try clear hb);(try clear aP);(try clear hk);(try clear hi)))
   refine bodyPost_ret (zbU (rs:=[.tmp 4,.tmp 5,.tmp 6,.tmp 7]) rfl (by simp) (.tmp (.tmp (.tmp (.tmp .nil))))) rfl ?_
   exact⟨by first|rfl|(simp[zan,zao]<;>rfl)|(simp only[←O,←E,←A];first|rfl|(simp[zan,zao]<;>rfl))|(simp[*,zan,zao]<;>rfl),bz⟩
  replace H:=hN H c9
  exact absurd H (by simp)
 replace c7:=Bool.eq_false_iff.mpr c7
 subst c7
 replace H:=hF H
 simp only[Option.some.injEq,Prod.mk.injEq] at H
 obtain⟨rfl,rfl,rfl,rfl⟩:=H
 go_wp2
 refine bodyPost_ret (zbU (rs:=[.tmp 4,.tmp 5,.tmp 6,.tmp 7]) rfl (by simp) (.tmp (.tmp (.tmp (.tmp .nil))))) rfl ?_
 exact⟨ez,bz⟩
end
end Go.Proofs.YtecpgdfnamkfdaaGreatDoor.Fn
end
section
namespace Go.Proofs.YtecpgdfnamkfdaaGreatDoor.Pure
open Go.RowKit Go.Proofs.YtecpgdfnamkfdaaGreatDoor.Fn Go.Proofs.YtecpgdfnamkfdaaGreatDoorW.PrintWords
set_option linter.unusedVariables false
set_option linter.unusedSimpArgs false
def szB(wide:Bool):Int:=if wide then 64 else 32
def ff(wide:Bool):Nat:=if wide then 52 else 23
def ll(wide:Bool):Nat:=if wide then 1074 else 149
def ii(wide:Bool):Nat:=if wide then 9218868437227405312 else 2139095040
def tt(wide:Bool):Nat:=if wide then 9223372036854775808 else 2147483648
theorem zfx(wide:Bool):zbF.f (szB wide)=some ((ff wide:Int),-(ll wide:Int),(ii wide:Int),true):=by
  cases wide<;>simp[zbF.f,szB,ff,ll,ii]
theorem zcY(j p:Nat)(hj:j≤64)(hp:p<18446744073709551616):Go.bits .and .u64 (p:Int) ((2^j-1:Nat):Int)=((p%2^j:Nat):Int):=by
  have h2:2^j≤2^64:=Nat.pow_le_pow_right (by omega) hj
  have hpos:0<2^j:=Nat.pow_pos (by omega)
  have e:(2:Nat)^64=18446744073709551616:=by decide
  rw[u64_and_nat _ _ hp (by omega),Nat.and_two_pow_sub_one_eq_mod]
theorem zjj(j x:Nat)(hj:j≤63)(hx:x<2^j):Go.bits .or .u64 (x:Int) ((2^j:Nat):Int)=((x+2^j:Nat):Int):=by
  have h2:2^j≤2^63:=Nat.pow_le_pow_right (by omega) hj
  have e:(2:Nat)^63=9223372036854775808:=by decide
  rw[u64_or_nat _ _ (by omega) (by omega),Nat.or_comm]
  have:=Nat.two_pow_add_eq_or_of_lt hx 1
  rw[Nat.mul_one] at this
  rw[←this,Nat.add_comm]
theorem zia(wide:Bool):ff wide≤52:=by cases wide<;>simp[ff]
theorem zeu(p j:Nat)(hj:j≤64):shr .u64 (p:Int) (j:Int)=((p / 2^j:Nat):Int):=by
  unfold shr
  rw[Int.toNat_natCast,show min j (IntKind.u64.bits)=j from Nat.min_eq_left (by simpa [IntKind.bits] using hj)]
  simp
theorem zeJ(j:Nat)(hj:j≤63):shl .u64 1 (j:Int)=((2^j:Nat):Int):=by
  have h2:2^j≤2^63:=Nat.pow_le_pow_right (by omega) hj
  have e:(2:Nat)^63=9223372036854775808:=by decide
  unfold shl
  rw[Int.toNat_natCast,show min j (IntKind.u64.bits)=j from Nat.min_eq_left (by simp[IntKind.bits];omega),Int.one_mul]
  rw[show((2:Int)^j)=((2^j:Nat):Int) by simp]
  generalize 2^j=P at*
  exact zcJ (by omega) (by omega)
theorem zdt(j:Nat)(hj:j≤63):IntKind.u64.wrap (shl .u64 1 (j:Int)-1)=((2^j-1:Nat):Int):=by
  have hpos:0<2^j:=Nat.pow_pos (by omega)
  have h2:2^j≤2^63:=Nat.pow_le_pow_right (by omega) hj
  have e:(2:Nat)^63=9223372036854775808:=by decide
  rw[zeJ j hj]
  generalize 2^j=P at*
  rw[zcJ (x:=(P:Int)-1) (by omega) (by omega)]
  omega
theorem zdu(wide:Bool)(p:Nat)(hp:p<9223372036854775808):
    zaV.f (ff wide:Int) (-(ll wide:Int)) (ii wide:Int) (p:Int)=some ((fM (ff wide) p:Int),(fE (ff wide) p:Int)-(ll wide:Int)):=by
  have hf:=zia wide
  have hl:ll wide≤1074:=by cases wide<;>simp[ll]
  unfold zaV.f
  rw[if_pos (by omega),zeu p _ (by omega),zdt _ (by omega),zcY _ _ (by omega) (by omega),zeJ _ (by omega)]
  have hd:p / 2^ff wide≤p:=Nat.div_le_self _ _
  unfold fM fE
  have hpos:0<2^ff wide:=Nat.pow_pos (by omega)
  have hm:=Nat.mod_lt p hpos
  by_cases c:p / 2^ff wide=0
  · rw[if_pos c,c,if_pos (by simp[wrap64])]
    congr 2
    omega
  · rw[if_neg c,zjj _ _ (by omega) hm]
    generalize p / 2^ff wide=q at*
    rw[if_neg (by rw[zaX (by omega) (by omega)];omega),zaX (x:=(q:Int)) (by omega) (by omega),zaX (x:= -(ll wide:Int)+(q:Int)) (by omega) (by omega),zaX (by omega) (by omega)]
    congr 2
    omega
def bareN(wide:Bool)(a:Nat):Nat:=a%tt wide
def partsS(wide:Bool)(a:Nat):Bool×Int×Int×Int:=
  ((a / tt wide%2==1:Bool),if bareN wide a<ii wide then((fM (ff wide) (bareN wide a):Int),(fE (ff wide) (bareN wide a):Int)-(ll wide:Int),0) else(0,0,if bareN wide a=ii wide then 1 else 2))
theorem zfy(wide:Bool): ∃j:Nat,j≤63∧tt wide=2^j∧wrap64 (szB wide-1)=(j:Int):=by
  cases wide
  · exact⟨31,by omega,by decide,by simp[szB,wrap64]⟩
  · exact⟨63,by omega,by decide,by simp[szB,wrap64]⟩
theorem zev(wide:Bool):0<tt wide∧tt wide≤9223372036854775808:=by cases wide<;>simp[tt]
theorem zcE(wide:Bool):0<ii wide∧ii wide<tt wide∧ii wide≤9218868437227405312:=by cases wide<;>simp[ii,tt]
theorem zjk(wide:Bool)(x:Nat):(((x%2:Nat):Int)==1)=(x%2==1:Bool):=by
  rw[Bool.eq_iff_iff]
  simp
  omega
theorem parts_eq(wide:Bool)(a:Nat)(ha:a<18446744073709551616):zbS.f (a:Int) (szB wide)=some (partsS wide a):=by
  obtain⟨j,hj,ht,hw⟩:=zfy wide
  have hmt:=Nat.mod_lt a (zev wide).1
  have htt:=(zev wide).2
  unfold zbS.f
  rw[zfx]
  simp only[Option.bind_some]
  rw[if_pos trivial,hw,if_pos (by omega),zdt _ hj,zcY _ _ (by omega) ha,←ht,zeu _ _ (by omega),←ht]
  rw[show(1:Int)=((2^1-1:Nat):Int) from rfl,zcY _ _ (by omega) (Nat.lt_of_le_of_lt (Nat.div_le_self _ _) ha),zdu wide _ (by omega)]
  simp only[Option.bind_some]
  unfold partsS bareN
  rw[show(((2^1-1:Nat)):Int)=1 from rfl,show(2:Nat)^1=2 from rfl,zjk wide]
  generalize a%tt wide=p at*
  by_cases c1:p=ii wide
  · rw[if_pos (by omega),if_neg (by omega),if_pos c1]
  · rw[if_neg (by omega)]
    by_cases c2:p<ii wide
    · rw[if_neg (by omega),if_pos c2]
    · rw[if_pos (by omega),if_neg c2,if_neg c1]
theorem u64N(x:Nat)(h:x≤18446744073709551615):IntKind.u64.wrap (x:Int)=(x:Int):=zcJ (by omega) (by omega)
theorem i64N(x:Nat)(h:x≤9223372036854775807):wrap64 (x:Int)=(x:Int):=zaX (by omega) (by omega)
theorem tdivN(a b:Nat):Int.tdiv (a:Int) (b:Int)=((a / b:Nat):Int):=by rw[zdh (by omega)];simp
theorem tmodN(a b:Nat):Int.tmod (a:Int) (b:Int)=((a%b:Nat):Int):=by rw[zdg (by omega)];simp
theorem zew(wide:Bool):ll wide≤1074:=by cases wide<;>simp[ll]
end Go.Proofs.YtecpgdfnamkfdaaGreatDoor.Pure
end
section
namespace Go.Proofs.YtecpgdfnamkfdaaGreatDoor.Fn
open Go.RowKit Go.Proofs.YtecpgdfnamkfdaaGreatDoorW.PrintWords Go.Proofs.YtecpgdfnamkfdaaGreatDoorW.PrintLast Go.Proofs.YtecpgdfnamkfdaaGreatDoorW.PrintMore
set_option linter.unusedVariables false
set_option linter.unusedSimpArgs false
set_option maxHeartbeats 8000000
set_option maxRecDepth 100000
section
attribute [local go_sem] fnW_0 fnW_1 fnW_2 fnW_3 fnW_4 fnW_5 fnW_guard fnW_eql zaK zaL zaQ zaR
def za0.f(k:Nat)(B:ByteArray)(D:Int)(E:ByteArray)(I:Int):Option (Int):=(zb0.f k B D E I).bind fun A=>(some A.1)
theorem za0.calls(k:Nat)(A:ByteArray)(B:Int)(D:ByteArray)(E:Int)(r:Int)(w:World)(h:za0.f k A B D E=some r):
  Calls Tryz.prog 53 #[.agg #[.string A,.int .i64 B],.agg #[.string D,.int .i64 E]] w fun e w'=>e= .returned (.int .i64 r)∧Below w.heap.size w w':=by
 have ak:=Tryz.underlying42
 have HB:=zaa.mk (Below.refl w.heap.size w)
 have H:((zb0.f k A B D E).bind fun U=>(some U.1))=some r:=h
 clear h
 replace H:=bs H
 obtain⟨⟨Y,Z⟩,A3,H⟩:=H
 dsimp only at H
 obtain rfl:=Option.some.inj H
 go_enter Tryz.func53,Tryz.ntmps53
 go_wp2_with (first|((with_reducible refine zak (N:=2) rfl ?_);refine zaj rfl (N:=2) rfl (cs:=#[.string A,.int .i64 B]) (t:=42) gz ?_;intro I hg w4 hbox hb;have ai:=gN bz hg;have J:=zaa.mk hbox;replace HB:=bN bz hb;clear hb hbox hg)|((with_reducible refine zak (N:=3) rfl ?_);refine zaj rfl (N:=3) rfl (cs:=#[.string D,.int .i64 E]) (t:=42) gz ?_;intro X hg w5 hbox hb;have aj:=gN bz hg;have K:=lN (g:=I) (cs:=#[.string A,.int .i64 B]) hg bk;have M:=rN (g:=I) (cs:=#[.string A,.int .i64 B]) hg bk;replace J:=kN (g:=I) (cs:=#[.string A,.int .i64 B]) hb bk;have O:=zaa.mk hbox;replace HB:=bN bz hb;clear hb hbox hg;have al:=K.out;have am:=M.out;obtain⟨aa,ab,ac,ad⟩:=cz2 (W:=w5) J;obtain⟨ae,af,ag,ah⟩:=cz2 (W:=w5) O)|((with_reducible refine zac (f:=82) rfl ?_);refine zal (some 10) rfl rfl Tryz.func82 (by kernel_rfl) rfl #[.agg #[.string A,.int .i64 B],.agg #[.string D,.int .i64 E]] rfl lz ?_;(with_reducible refine(zb0.calls k A B D E Y Z _ A3.out).mono ?_);rintro e w9 ⟨rfl,hb⟩;refine⟨_,rfl,?_⟩;replace J:=kN (g:=I) (cs:=#[.string A,.int .i64 B]) hb bk;replace O:=kN (g:=X) (cs:=#[.string D,.int .i64 E]) hb bk;replace HB:=bN bz hb;(try clear hb);(try clear an);(try clear hk);(try clear hi)))
 go_ret
 exact⟨ez,bz⟩
def zaF.f(k:Nat)(J:ByteArray)(K:Int)(M:ByteArray)(O:Int)(D:Bool)(E:ByteArray)(I:Int):Option (Bool):=(za0.f k E I J K).bind fun A=>((za0.f k E I M O).bind fun B=>(if A>0 then(if B<0 then(some true) else(if D=true then(if A≥0 then(some (decide (B≤0))) else(some false)) else(some false))) else(if D=true then(if A≥0 then(some (decide (B≤0))) else(some false)) else(some false))))
def zaF.T1:Bool×List (List Nat×List Nat):=(true,[([],[]),([],[]),([1],[1]),([0,2],[0,2]),([],[]),([],[]),([5],[5]),([4,6,3],[4,6]),([3,7,0,1,2,3],[3]),([7,8,0,1,2,3,4,5,6,7,8],[7])])
def zaF.B1:List Nat:=[0,0,2,7,0,0,32,127,255,511]
theorem zaF.tab1:rtab .any (opsOf Tryz.f56 1)=zaF.T1:=by kernel_rfl
theorem zaF.bits1:waitsOk zaF.T1.2 zaF.B1=true:=by kernel_rfl
theorem zaF.calls(k:Nat)(E:ByteArray)(I:Int)(J:ByteArray)(M:Int)(ac:Bool)(O:ByteArray)(U:Int)(r:Bool)(w:World)(h:zaF.f k E I J M ac O U=some r):
  Calls Tryz.prog 56 #[.agg #[.string E,.int .i64 I,.string J,.int .i64 M,.bool ac],.agg #[.string O,.int .i64 U]] w fun e w'=>e= .returned (.bool r)∧Below w.heap.size w w':=by
 have b0:=Tryz.underlying88
 have b1:=Tryz.underlying42
 have HB:=zaa.mk (Below.refl w.heap.size w)
 have H:((za0.f k O U E I).bind fun ab=>((za0.f k O U J M).bind fun ad=>(if ab>0 then(if ad<0 then(some true) else(if ac=true then(if ab≥0 then(some (decide (ad≤0))) else(some false)) else(some false))) else(if ac=true then(if ab≥0 then(some (decide (ad≤0))) else(some false)) else(some false)))))=some r:=h
 clear h
 replace H:=bs H
 obtain⟨ab,A3,H⟩:=H
 replace H:=bs H
 obtain⟨ad,A4,H⟩:=H
 by_cases c5:ab>0
 ·replace H:=hE H c5
  have ap:decide (0<ab)=true:=decide_eq_true c5
  clear c5
  by_cases c6:ad<0
  ·replace H:=hE H c6
   have ar:=decide_eq_true c6
   clear c6
   obtain rfl:=Option.some.inj H
   go_enter Tryz.func56,Tryz.ntmps56
   try go_wp2_with (first|((with_reducible refine zak (N:=2) rfl ?_);refine zaj rfl (N:=2) rfl (cs:=#[.string E,.int .i64 I,.string J,.int .i64 M,.bool ac]) (t:=88) gz ?_;intro D hg w7 hbox hb;have ae:=gN bz hg;have af:=gN bz hg;have A:=zaa.mk hbox;replace HB:=bN bz hb;clear hb hbox hg)|((with_reducible refine zak (N:=3) rfl ?_);refine zaj rfl (N:=3) rfl (cs:=#[.string O,.int .i64 U]) (t:=42) gz ?_;intro Y hg w8 hbox hb;have ag:=gN bz hg;have ah:=gN bz hg;have Z:=lN (g:=D) (cs:=#[.string E,.int .i64 I,.string J,.int .i64 M,.bool ac]) hg bk;have aa:=rN (g:=D) (cs:=#[.string E,.int .i64 I,.string J,.int .i64 M,.bool ac]) hg bk;replace A:=kN (g:=D) (cs:=#[.string E,.int .i64 I,.string J,.int .i64 M,.bool ac]) hb bk;have B:=zaa.mk hbox;replace HB:=bN bz hb;clear hb hbox hg))
   replace A:=zaa.mk (zaw A.out)
   replace B:=zaa.mk (zaw B.out)
   replace HB:=zaa.mk (zaT HB.out)
   refine zbo (n:=10) (S:=fun w'=>w'.cell? ⟨Y,0,none⟩=some (.string O)∧w'.cell? ⟨Y,1,none⟩=some (.int .i64 U)∧w'.cell? ⟨D,0,none⟩=some (.string E)∧w'.cell? ⟨D,1,none⟩=some (.int .i64 I)∧w'.cell? ⟨D,2,none⟩=some (.string J)∧w'.cell? ⟨D,3,none⟩=some (.int .i64 M)∧w'.cell? ⟨D,4,none⟩=some (.bool ac)) (ds:=[]) #[false,false,false,false,false,false,false,false,false,false] (by kernel_rfl) rfl rfl ⟨(zab B.out 0).trans rfl,(zab B.out 1).trans rfl,(zab A.out 0).trans rfl,(zab A.out 1).trans rfl,(zab A.out 2).trans rfl,(zab A.out 3).trans rfl,(zab A.out 4).trans rfl⟩ (fun hHeld=>?_);refine zbf zaF.tab1 zaF.bits1 (fun X HW_=>?_)
   generalize w8.drew=w9 at A B HB hHeld ⊢
   refine zau (i:=1) (N:=some 8) (v:=?_) (a':=?_) #[false,true,false,false,false,false,false,false,false,false] rfl rfl (zas X.out (by kernel_rfl)) (fun _ _ _ h=>h) (Or.inl ⟨by rfl,?_⟩) ?_ ?_
   rotate_left
   ·intro w'
    go_simp
    with_reducible rfl
   rotate_left
   ·simp only[Act.put,List.setIfInBounds_toArray,List.set_cons_zero,List.set_cons_succ,zad,zaf]
    rfl
   refine zau (i:=5) (N:=some 12) (v:=?_) (a':=?_) #[false,true,false,false,false,true,false,false,false,false] rfl rfl (zas X.out (by kernel_rfl)) (fun _ _ _ h=>h) (Or.inl ⟨by rfl,?_⟩) ?_ ?_
   rotate_left
   ·intro w'
    go_simp
    with_reducible rfl
   rotate_left
   ·simp only[Act.put,List.setIfInBounds_toArray,List.set_cons_zero,List.set_cons_succ,zad,zaf]
    rfl
   refine zaW (i:=0) (N:=some 7) (v:=?_) (a':=?_) #[true,true,false,false,false,true,false,false,false,false] rfl rfl (zaH X.out HW_.out (by kernel_rfl)) (fun _ _ _ h=>h) (Or.inl ⟨by rfl,?_⟩) hHeld ?_ ?_
   rotate_left
   ·rintro w' ⟨s0,s1,s2,s3,s4,s5,s6⟩
    go_simp
    with_reducible rfl
   rotate_left
   ·simp only[Act.put,List.setIfInBounds_toArray,List.set_cons_zero,List.set_cons_succ,zad,zaf]
    rfl
   refine zaW (i:=2) (N:=some 9) (v:=?_) (a':=?_) #[true,true,true,false,false,true,false,false,false,false] rfl rfl (zaH X.out HW_.out (by kernel_rfl)) (fun _ _ _ h=>h) (Or.inl ⟨by rfl,?_⟩) hHeld ?_ ?_
   rotate_left
   ·rintro w' ⟨s0,s1,s2,s3,s4,s5,s6⟩
    go_simp
    with_reducible rfl
   rotate_left
   ·simp only[Act.put,List.setIfInBounds_toArray,List.set_cons_zero,List.set_cons_succ,zad,zaf]
    rfl
   refine zaW (i:=4) (N:=some 11) (v:=?_) (a':=?_) #[true,true,true,false,true,true,false,false,false,false] rfl rfl (zaH X.out HW_.out (by kernel_rfl)) (fun _ _ _ h=>h) (Or.inl ⟨by rfl,?_⟩) hHeld ?_ ?_
   rotate_left
   ·rintro w' ⟨s0,s1,s2,s3,s4,s5,s6⟩
    go_simp
    with_reducible rfl
   rotate_left
   ·simp only[Act.put,List.setIfInBounds_toArray,List.set_cons_zero,List.set_cons_succ,zad,zaf]
    rfl
   refine zaW (i:=6) (N:=some 13) (v:=?_) (a':=?_) #[true,true,true,false,true,true,true,false,false,false] rfl rfl (zaH X.out HW_.out (by kernel_rfl)) (fun _ _ _ h=>h) (Or.inl ⟨by rfl,?_⟩) hHeld ?_ ?_
   rotate_left
   ·rintro w' ⟨s0,s1,s2,s3,s4,s5,s6⟩
    go_simp
    with_reducible rfl
   rotate_left
   ·simp only[Act.put,List.setIfInBounds_toArray,List.set_cons_zero,List.set_cons_succ,zad,zaf]
    rfl
   refine one_ (i:=3) (N:=some 10) #[true,true,true,true,true,true,true,false,false,false] rfl rfl (zaZ X.out (by kernel_rfl)) (by decide) (fun K hK=>?_)
   refine za5 Tryz.func53 (by kernel_rfl) rfl #[.agg #[.string O,.int .i64 U],.agg #[.string E,.int .i64 I]] (by rfl) rfl rfl lz ?_
   with_reducible refine(za0.calls k O U E I ab _ A3.out).mono ?_
   rintro e b2 ⟨rfl,hb⟩
   refine⟨_,rfl,?_⟩
   replace A:=zaa.mk (zag (g:=D) (o:=.cells #[.string E,.int .i64 I,.string J,.int .i64 M,.bool ac] 88 (0,0)) bk hb)
   replace B:=zaa.mk (zag (g:=Y) (o:=.cells #[.string O,.int .i64 U] 42 (0,0)) bk hb)
   replace HB:=zaa.mk (zam bz hb)
   (try clear hb)
   (try clear ai)
   (try clear hk)
   (try clear hi)
   refine hK.out _ _ ⟨(zab B.out 0).trans rfl,(zab B.out 1).trans rfl,(zab A.out 0).trans rfl,(zab A.out 1).trans rfl,(zab A.out 2).trans rfl,(zab A.out 3).trans rfl,(zab A.out 4).trans rfl⟩ (fun hHeld=>?_)
   clear hK K
   refine zaY (a':=?_) ?_ ?_
   rotate_left
   ·show Act.put _ (some 10) _=_
    simp only[Act.put,List.setIfInBounds_toArray,List.set_cons_zero,List.set_cons_succ,zad,zaf]
    rfl
   refine one_ (i:=7) (N:=some 14) #[true,true,true,true,true,true,true,true,false,false] rfl rfl (zaZ X.out (by kernel_rfl)) (by decide) (fun K hK=>?_)
   refine za5 Tryz.func53 (by kernel_rfl) rfl #[.agg #[.string O,.int .i64 U],.agg #[.string J,.int .i64 M]] (by rfl) rfl rfl lz ?_
   with_reducible refine(za0.calls k O U J M ad _ A4.out).mono ?_
   rintro e b3 ⟨rfl,hb⟩
   refine⟨_,rfl,?_⟩
   replace A:=zaa.mk (zag (g:=D) (o:=.cells #[.string E,.int .i64 I,.string J,.int .i64 M,.bool ac] 88 (0,0)) bk hb)
   replace B:=zaa.mk (zag (g:=Y) (o:=.cells #[.string O,.int .i64 U] 42 (0,0)) bk hb)
   replace HB:=zaa.mk (zam bz hb)
   (try clear hb)
   (try clear ai)
   (try clear hk)
   (try clear hi)
   refine hK.out _ _ ⟨(zab B.out 0).trans rfl,(zab B.out 1).trans rfl,(zab A.out 0).trans rfl,(zab A.out 1).trans rfl,(zab A.out 2).trans rfl,(zab A.out 3).trans rfl,(zab A.out 4).trans rfl⟩ (fun hHeld=>?_)
   clear hK K
   refine zaY (a':=?_) ?_ ?_
   rotate_left
   ·show Act.put _ (some 14) _=_
    simp only[Act.put,List.setIfInBounds_toArray,List.set_cons_zero,List.set_cons_succ,zad,zaf]
    rfl
   refine zau (i:=8) (N:=some 5) (v:=?_) (a':=?_) #[true,true,true,true,true,true,true,true,true,false] rfl rfl (zas X.out (by kernel_rfl)) (fun _ _ _ h=>h) (Or.inl ⟨by rfl,?_⟩) ?_ ?_
   rotate_left
   ·intro w'
    go_simp
    with_reducible rfl
   rotate_left
   ·simp only[Act.put,List.setIfInBounds_toArray,List.set_cons_zero,List.set_cons_succ,zad,zaf]
    rfl
   refine zau (i:=9) (N:=some 6) (v:=?_) (a':=?_) #[true,true,true,true,true,true,true,true,true,true] rfl rfl (zas X.out (by kernel_rfl)) (fun _ _ _ h=>h) (Or.inl ⟨by rfl,?_⟩) ?_ ?_
   rotate_left
   ·intro w'
    go_simp
    with_reducible rfl
   rotate_left
   ·simp only[Act.put,List.setIfInBounds_toArray,List.set_cons_zero,List.set_cons_succ,zad,zaf]
    rfl
   refine zbx (zbs X.out (by kernel_rfl)) ?_
   try go_wp2
   go_ret
   exact⟨ez,bz⟩
  replace H:=hN H c6
  have ar:=decide_eq_false c6
  clear c6
  by_cases al:ac=true
  ·subst al
   replace H:=hT H
   by_cases aj:ab≥0
   ·replace H:=hE H aj
    have an:decide (0≤ab)=true:=decide_eq_true aj
    clear aj
    obtain rfl:=Option.some.inj H
    go_enter Tryz.func56,Tryz.ntmps56
    try go_wp2_with (first|((with_reducible refine zak (N:=2) rfl ?_);refine zaj rfl (N:=2) rfl (cs:=#[.string E,.int .i64 I,.string J,.int .i64 M,.bool true]) (t:=88) gz ?_;intro D hg b4 hbox hb;have ae:=gN bz hg;have af:=gN bz hg;have A:=zaa.mk hbox;replace HB:=bN bz hb;clear hb hbox hg)|((with_reducible refine zak (N:=3) rfl ?_);refine zaj rfl (N:=3) rfl (cs:=#[.string O,.int .i64 U]) (t:=42) gz ?_;intro Y hg bw hbox hb;have ag:=gN bz hg;have ah:=gN bz hg;have Z:=lN (g:=D) (cs:=#[.string E,.int .i64 I,.string J,.int .i64 M,.bool true]) hg bk;have aa:=rN (g:=D) (cs:=#[.string E,.int .i64 I,.string J,.int .i64 M,.bool true]) hg bk;replace A:=kN (g:=D) (cs:=#[.string E,.int .i64 I,.string J,.int .i64 M,.bool true]) hb bk;have B:=zaa.mk hbox;replace HB:=bN bz hb;clear hb hbox hg))
    replace A:=zaa.mk (zaw A.out)
    replace B:=zaa.mk (zaw B.out)
    replace HB:=zaa.mk (zaT HB.out)
    refine zbo (n:=10) (S:=fun w'=>w'.cell? ⟨Y,0,none⟩=some (.string O)∧w'.cell? ⟨Y,1,none⟩=some (.int .i64 U)∧w'.cell? ⟨D,0,none⟩=some (.string E)∧w'.cell? ⟨D,1,none⟩=some (.int .i64 I)∧w'.cell? ⟨D,2,none⟩=some (.string J)∧w'.cell? ⟨D,3,none⟩=some (.int .i64 M)∧w'.cell? ⟨D,4,none⟩=some (.bool true)) (ds:=[]) #[false,false,false,false,false,false,false,false,false,false] (by kernel_rfl) rfl rfl ⟨(zab B.out 0).trans rfl,(zab B.out 1).trans rfl,(zab A.out 0).trans rfl,(zab A.out 1).trans rfl,(zab A.out 2).trans rfl,(zab A.out 3).trans rfl,(zab A.out 4).trans rfl⟩ (fun hHeld=>?_);refine zbf zaF.tab1 zaF.bits1 (fun X HW_=>?_)
    generalize bw.drew=b5 at A B HB hHeld ⊢
    refine zau (i:=1) (N:=some 8) (v:=?_) (a':=?_) #[false,true,false,false,false,false,false,false,false,false] rfl rfl (zas X.out (by kernel_rfl)) (fun _ _ _ h=>h) (Or.inl ⟨by rfl,?_⟩) ?_ ?_
    rotate_left
    ·intro w'
     go_simp
     with_reducible rfl
    rotate_left
    ·simp only[Act.put,List.setIfInBounds_toArray,List.set_cons_zero,List.set_cons_succ,zad,zaf]
     rfl
    refine zau (i:=5) (N:=some 12) (v:=?_) (a':=?_) #[false,true,false,false,false,true,false,false,false,false] rfl rfl (zas X.out (by kernel_rfl)) (fun _ _ _ h=>h) (Or.inl ⟨by rfl,?_⟩) ?_ ?_
    rotate_left
    ·intro w'
     go_simp
     with_reducible rfl
    rotate_left
    ·simp only[Act.put,List.setIfInBounds_toArray,List.set_cons_zero,List.set_cons_succ,zad,zaf]
     rfl
    refine zaW (i:=0) (N:=some 7) (v:=?_) (a':=?_) #[true,true,false,false,false,true,false,false,false,false] rfl rfl (zaH X.out HW_.out (by kernel_rfl)) (fun _ _ _ h=>h) (Or.inl ⟨by rfl,?_⟩) hHeld ?_ ?_
    rotate_left
    ·rintro w' ⟨s0,s1,s2,s3,s4,s5,s6⟩
     go_simp
     with_reducible rfl
    rotate_left
    ·simp only[Act.put,List.setIfInBounds_toArray,List.set_cons_zero,List.set_cons_succ,zad,zaf]
     rfl
    refine zaW (i:=2) (N:=some 9) (v:=?_) (a':=?_) #[true,true,true,false,false,true,false,false,false,false] rfl rfl (zaH X.out HW_.out (by kernel_rfl)) (fun _ _ _ h=>h) (Or.inl ⟨by rfl,?_⟩) hHeld ?_ ?_
    rotate_left
    ·rintro w' ⟨s0,s1,s2,s3,s4,s5,s6⟩
     go_simp
     with_reducible rfl
    rotate_left
    ·simp only[Act.put,List.setIfInBounds_toArray,List.set_cons_zero,List.set_cons_succ,zad,zaf]
     rfl
    refine zaW (i:=4) (N:=some 11) (v:=?_) (a':=?_) #[true,true,true,false,true,true,false,false,false,false] rfl rfl (zaH X.out HW_.out (by kernel_rfl)) (fun _ _ _ h=>h) (Or.inl ⟨by rfl,?_⟩) hHeld ?_ ?_
    rotate_left
    ·rintro w' ⟨s0,s1,s2,s3,s4,s5,s6⟩
     go_simp
     with_reducible rfl
    rotate_left
    ·simp only[Act.put,List.setIfInBounds_toArray,List.set_cons_zero,List.set_cons_succ,zad,zaf]
     rfl
    refine zaW (i:=6) (N:=some 13) (v:=?_) (a':=?_) #[true,true,true,false,true,true,true,false,false,false] rfl rfl (zaH X.out HW_.out (by kernel_rfl)) (fun _ _ _ h=>h) (Or.inl ⟨by rfl,?_⟩) hHeld ?_ ?_
    rotate_left
    ·rintro w' ⟨s0,s1,s2,s3,s4,s5,s6⟩
     go_simp
     with_reducible rfl
    rotate_left
    ·simp only[Act.put,List.setIfInBounds_toArray,List.set_cons_zero,List.set_cons_succ,zad,zaf]
     rfl
    refine one_ (i:=3) (N:=some 10) #[true,true,true,true,true,true,true,false,false,false] rfl rfl (zaZ X.out (by kernel_rfl)) (by decide) (fun K hK=>?_)
    refine za5 Tryz.func53 (by kernel_rfl) rfl #[.agg #[.string O,.int .i64 U],.agg #[.string E,.int .i64 I]] (by rfl) rfl rfl lz ?_
    with_reducible refine(za0.calls k O U E I ab _ A3.out).mono ?_
    rintro e b6 ⟨rfl,hb⟩
    refine⟨_,rfl,?_⟩
    replace A:=zaa.mk (zag (g:=D) (o:=.cells #[.string E,.int .i64 I,.string J,.int .i64 M,.bool true] 88 (0,0)) bk hb)
    replace B:=zaa.mk (zag (g:=Y) (o:=.cells #[.string O,.int .i64 U] 42 (0,0)) bk hb)
    replace HB:=zaa.mk (zam bz hb)
    (try clear hb)
    (try clear ai)
    (try clear hk)
    (try clear hi)
    refine hK.out _ _ ⟨(zab B.out 0).trans rfl,(zab B.out 1).trans rfl,(zab A.out 0).trans rfl,(zab A.out 1).trans rfl,(zab A.out 2).trans rfl,(zab A.out 3).trans rfl,(zab A.out 4).trans rfl⟩ (fun hHeld=>?_)
    clear hK K
    refine zaY (a':=?_) ?_ ?_
    rotate_left
    ·show Act.put _ (some 10) _=_
     simp only[Act.put,List.setIfInBounds_toArray,List.set_cons_zero,List.set_cons_succ,zad,zaf]
     rfl
    refine one_ (i:=7) (N:=some 14) #[true,true,true,true,true,true,true,true,false,false] rfl rfl (zaZ X.out (by kernel_rfl)) (by decide) (fun K hK=>?_)
    refine za5 Tryz.func53 (by kernel_rfl) rfl #[.agg #[.string O,.int .i64 U],.agg #[.string J,.int .i64 M]] (by rfl) rfl rfl lz ?_
    with_reducible refine(za0.calls k O U J M ad _ A4.out).mono ?_
    rintro e bA ⟨rfl,hb⟩
    refine⟨_,rfl,?_⟩
    replace A:=zaa.mk (zag (g:=D) (o:=.cells #[.string E,.int .i64 I,.string J,.int .i64 M,.bool true] 88 (0,0)) bk hb)
    replace B:=zaa.mk (zag (g:=Y) (o:=.cells #[.string O,.int .i64 U] 42 (0,0)) bk hb)
    replace HB:=zaa.mk (zam bz hb)
    (try clear hb)
    (try clear ai)
    (try clear hk)
    (try clear hi)
    refine hK.out _ _ ⟨(zab B.out 0).trans rfl,(zab B.out 1).trans rfl,(zab A.out 0).trans rfl,(zab A.out 1).trans rfl,(zab A.out 2).trans rfl,(zab A.out 3).trans rfl,(zab A.out 4).trans rfl⟩ (fun hHeld=>?_)
    clear hK K
    refine zaY (a':=?_) ?_ ?_
    rotate_left
    ·show Act.put _ (some 14) _=_
     simp only[Act.put,List.setIfInBounds_toArray,List.set_cons_zero,List.set_cons_succ,zad,zaf]
     rfl
    refine zau (i:=8) (N:=some 5) (v:=?_) (a':=?_) #[true,true,true,true,true,true,true,true,true,false] rfl rfl (zas X.out (by kernel_rfl)) (fun _ _ _ h=>h) (Or.inl ⟨by rfl,?_⟩) ?_ ?_
    rotate_left
    ·intro w'
     go_simp
     with_reducible rfl
    rotate_left
    ·simp only[Act.put,List.setIfInBounds_toArray,List.set_cons_zero,List.set_cons_succ,zad,zaf]
     rfl
    refine zau (i:=9) (N:=some 6) (v:=?_) (a':=?_) #[true,true,true,true,true,true,true,true,true,true] rfl rfl (zas X.out (by kernel_rfl)) (fun _ _ _ h=>h) (Or.inl ⟨by rfl,?_⟩) ?_ ?_
    rotate_left
    ·intro w'
     go_simp
     with_reducible rfl
    rotate_left
    ·simp only[Act.put,List.setIfInBounds_toArray,List.set_cons_zero,List.set_cons_succ,zad,zaf]
     rfl
    refine zbx (zbs X.out (by kernel_rfl)) ?_
    have bB:=Z.out
    have bC:=aa.out
    obtain⟨au,av,aw,ax,ay,az,aA,aB,aC,aD⟩:=cz5 (W:=bA) A
    try go_wp2
    go_ret
    exact⟨ez,bz⟩
   replace H:=hN H aj
   have an:decide (0≤ab)=false:=decide_eq_false aj
   clear aj
   obtain rfl:=Option.some.inj H
   go_enter Tryz.func56,Tryz.ntmps56
   try go_wp2_with (first|((with_reducible refine zak (N:=2) rfl ?_);refine zaj rfl (N:=2) rfl (cs:=#[.string E,.int .i64 I,.string J,.int .i64 M,.bool true]) (t:=88) gz ?_;intro D hg b7 hbox hb;have ae:=gN bz hg;have af:=gN bz hg;have A:=zaa.mk hbox;replace HB:=bN bz hb;clear hb hbox hg)|((with_reducible refine zak (N:=3) rfl ?_);refine zaj rfl (N:=3) rfl (cs:=#[.string O,.int .i64 U]) (t:=42) gz ?_;intro Y hg bD hbox hb;have ag:=gN bz hg;have ah:=gN bz hg;have Z:=lN (g:=D) (cs:=#[.string E,.int .i64 I,.string J,.int .i64 M,.bool true]) hg bk;have aa:=rN (g:=D) (cs:=#[.string E,.int .i64 I,.string J,.int .i64 M,.bool true]) hg bk;replace A:=kN (g:=D) (cs:=#[.string E,.int .i64 I,.string J,.int .i64 M,.bool true]) hb bk;have B:=zaa.mk hbox;replace HB:=bN bz hb;clear hb hbox hg))
   replace A:=zaa.mk (zaw A.out)
   replace B:=zaa.mk (zaw B.out)
   replace HB:=zaa.mk (zaT HB.out)
   refine zbo (n:=10) (S:=fun w'=>w'.cell? ⟨Y,0,none⟩=some (.string O)∧w'.cell? ⟨Y,1,none⟩=some (.int .i64 U)∧w'.cell? ⟨D,0,none⟩=some (.string E)∧w'.cell? ⟨D,1,none⟩=some (.int .i64 I)∧w'.cell? ⟨D,2,none⟩=some (.string J)∧w'.cell? ⟨D,3,none⟩=some (.int .i64 M)∧w'.cell? ⟨D,4,none⟩=some (.bool true)) (ds:=[]) #[false,false,false,false,false,false,false,false,false,false] (by kernel_rfl) rfl rfl ⟨(zab B.out 0).trans rfl,(zab B.out 1).trans rfl,(zab A.out 0).trans rfl,(zab A.out 1).trans rfl,(zab A.out 2).trans rfl,(zab A.out 3).trans rfl,(zab A.out 4).trans rfl⟩ (fun hHeld=>?_);refine zbf zaF.tab1 zaF.bits1 (fun X HW_=>?_)
   generalize bD.drew=b8 at A B HB hHeld ⊢
   refine zau (i:=1) (N:=some 8) (v:=?_) (a':=?_) #[false,true,false,false,false,false,false,false,false,false] rfl rfl (zas X.out (by kernel_rfl)) (fun _ _ _ h=>h) (Or.inl ⟨by rfl,?_⟩) ?_ ?_
   rotate_left
   ·intro w'
    go_simp
    with_reducible rfl
   rotate_left
   ·simp only[Act.put,List.setIfInBounds_toArray,List.set_cons_zero,List.set_cons_succ,zad,zaf]
    rfl
   refine zau (i:=5) (N:=some 12) (v:=?_) (a':=?_) #[false,true,false,false,false,true,false,false,false,false] rfl rfl (zas X.out (by kernel_rfl)) (fun _ _ _ h=>h) (Or.inl ⟨by rfl,?_⟩) ?_ ?_
   rotate_left
   ·intro w'
    go_simp
    with_reducible rfl
   rotate_left
   ·simp only[Act.put,List.setIfInBounds_toArray,List.set_cons_zero,List.set_cons_succ,zad,zaf]
    rfl
   refine zaW (i:=0) (N:=some 7) (v:=?_) (a':=?_) #[true,true,false,false,false,true,false,false,false,false] rfl rfl (zaH X.out HW_.out (by kernel_rfl)) (fun _ _ _ h=>h) (Or.inl ⟨by rfl,?_⟩) hHeld ?_ ?_
   rotate_left
   ·rintro w' ⟨s0,s1,s2,s3,s4,s5,s6⟩
    go_simp
    with_reducible rfl
   rotate_left
   ·simp only[Act.put,List.setIfInBounds_toArray,List.set_cons_zero,List.set_cons_succ,zad,zaf]
    rfl
   refine zaW (i:=2) (N:=some 9) (v:=?_) (a':=?_) #[true,true,true,false,false,true,false,false,false,false] rfl rfl (zaH X.out HW_.out (by kernel_rfl)) (fun _ _ _ h=>h) (Or.inl ⟨by rfl,?_⟩) hHeld ?_ ?_
   rotate_left
   ·rintro w' ⟨s0,s1,s2,s3,s4,s5,s6⟩
    go_simp
    with_reducible rfl
   rotate_left
   ·simp only[Act.put,List.setIfInBounds_toArray,List.set_cons_zero,List.set_cons_succ,zad,zaf]
    rfl
   refine zaW (i:=4) (N:=some 11) (v:=?_) (a':=?_) #[true,true,true,false,true,true,false,false,false,false] rfl rfl (zaH X.out HW_.out (by kernel_rfl)) (fun _ _ _ h=>h) (Or.inl ⟨by rfl,?_⟩) hHeld ?_ ?_
   rotate_left
   ·rintro w' ⟨s0,s1,s2,s3,s4,s5,s6⟩
    go_simp
    with_reducible rfl
   rotate_left
   ·simp only[Act.put,List.setIfInBounds_toArray,List.set_cons_zero,List.set_cons_succ,zad,zaf]
    rfl
   refine zaW (i:=6) (N:=some 13) (v:=?_) (a':=?_) #[true,true,true,false,true,true,true,false,false,false] rfl rfl (zaH X.out HW_.out (by kernel_rfl)) (fun _ _ _ h=>h) (Or.inl ⟨by rfl,?_⟩) hHeld ?_ ?_
   rotate_left
   ·rintro w' ⟨s0,s1,s2,s3,s4,s5,s6⟩
    go_simp
    with_reducible rfl
   rotate_left
   ·simp only[Act.put,List.setIfInBounds_toArray,List.set_cons_zero,List.set_cons_succ,zad,zaf]
    rfl
   refine one_ (i:=3) (N:=some 10) #[true,true,true,true,true,true,true,false,false,false] rfl rfl (zaZ X.out (by kernel_rfl)) (by decide) (fun K hK=>?_)
   refine za5 Tryz.func53 (by kernel_rfl) rfl #[.agg #[.string O,.int .i64 U],.agg #[.string E,.int .i64 I]] (by rfl) rfl rfl lz ?_
   with_reducible refine(za0.calls k O U E I ab _ A3.out).mono ?_
   rintro e ca ⟨rfl,hb⟩
   refine⟨_,rfl,?_⟩
   replace A:=zaa.mk (zag (g:=D) (o:=.cells #[.string E,.int .i64 I,.string J,.int .i64 M,.bool true] 88 (0,0)) bk hb)
   replace B:=zaa.mk (zag (g:=Y) (o:=.cells #[.string O,.int .i64 U] 42 (0,0)) bk hb)
   replace HB:=zaa.mk (zam bz hb)
   (try clear hb)
   (try clear ai)
   (try clear hk)
   (try clear hi)
   refine hK.out _ _ ⟨(zab B.out 0).trans rfl,(zab B.out 1).trans rfl,(zab A.out 0).trans rfl,(zab A.out 1).trans rfl,(zab A.out 2).trans rfl,(zab A.out 3).trans rfl,(zab A.out 4).trans rfl⟩ (fun hHeld=>?_)
   clear hK K
   refine zaY (a':=?_) ?_ ?_
   rotate_left
   ·show Act.put _ (some 10) _=_
    simp only[Act.put,List.setIfInBounds_toArray,List.set_cons_zero,List.set_cons_succ,zad,zaf]
    rfl
   refine one_ (i:=7) (N:=some 14) #[true,true,true,true,true,true,true,true,false,false] rfl rfl (zaZ X.out (by kernel_rfl)) (by decide) (fun K hK=>?_)
   refine za5 Tryz.func53 (by kernel_rfl) rfl #[.agg #[.string O,.int .i64 U],.agg #[.string J,.int .i64 M]] (by rfl) rfl rfl lz ?_
   with_reducible refine(za0.calls k O U J M ad _ A4.out).mono ?_
   rintro e bE ⟨rfl,hb⟩
   refine⟨_,rfl,?_⟩
   replace A:=zaa.mk (zag (g:=D) (o:=.cells #[.string E,.int .i64 I,.string J,.int .i64 M,.bool true] 88 (0,0)) bk hb)
   replace B:=zaa.mk (zag (g:=Y) (o:=.cells #[.string O,.int .i64 U] 42 (0,0)) bk hb)
   replace HB:=zaa.mk (zam bz hb)
   (try clear hb)
   (try clear ai)
   (try clear hk)
   (try clear hi)
   refine hK.out _ _ ⟨(zab B.out 0).trans rfl,(zab B.out 1).trans rfl,(zab A.out 0).trans rfl,(zab A.out 1).trans rfl,(zab A.out 2).trans rfl,(zab A.out 3).trans rfl,(zab A.out 4).trans rfl⟩ (fun hHeld=>?_)
   clear hK K
   refine zaY (a':=?_) ?_ ?_
   rotate_left
   ·show Act.put _ (some 14) _=_
    simp only[Act.put,List.setIfInBounds_toArray,List.set_cons_zero,List.set_cons_succ,zad,zaf]
    rfl
   refine zau (i:=8) (N:=some 5) (v:=?_) (a':=?_) #[true,true,true,true,true,true,true,true,true,false] rfl rfl (zas X.out (by kernel_rfl)) (fun _ _ _ h=>h) (Or.inl ⟨by rfl,?_⟩) ?_ ?_
   rotate_left
   ·intro w'
    go_simp
    with_reducible rfl
   rotate_left
   ·simp only[Act.put,List.setIfInBounds_toArray,List.set_cons_zero,List.set_cons_succ,zad,zaf]
    rfl
   refine zau (i:=9) (N:=some 6) (v:=?_) (a':=?_) #[true,true,true,true,true,true,true,true,true,true] rfl rfl (zas X.out (by kernel_rfl)) (fun _ _ _ h=>h) (Or.inl ⟨by rfl,?_⟩) ?_ ?_
   rotate_left
   ·intro w'
    go_simp
    with_reducible rfl
   rotate_left
   ·simp only[Act.put,List.setIfInBounds_toArray,List.set_cons_zero,List.set_cons_succ,zad,zaf]
    rfl
   refine zbx (zbs X.out (by kernel_rfl)) ?_
   have bG:=Z.out
   have bH:=aa.out
   obtain⟨aE,aF,aG,aH,aI,aJ,aK,aL,aM,aN⟩:=cz5 (W:=bE) A
   try go_wp2
   go_ret
   exact⟨ez,bz⟩
  replace al:=Bool.eq_false_iff.mpr al
  subst al
  replace H:=hF H
  obtain rfl:=Option.some.inj H
  go_enter Tryz.func56,Tryz.ntmps56
  try go_wp2_with (first|((with_reducible refine zak (N:=2) rfl ?_);refine zaj rfl (N:=2) rfl (cs:=#[.string E,.int .i64 I,.string J,.int .i64 M,.bool false]) (t:=88) gz ?_;intro D hg cb hbox hb;have ae:=gN bz hg;have af:=gN bz hg;have A:=zaa.mk hbox;replace HB:=bN bz hb;clear hb hbox hg)|((with_reducible refine zak (N:=3) rfl ?_);refine zaj rfl (N:=3) rfl (cs:=#[.string O,.int .i64 U]) (t:=42) gz ?_;intro Y hg bI hbox hb;have ag:=gN bz hg;have ah:=gN bz hg;have Z:=lN (g:=D) (cs:=#[.string E,.int .i64 I,.string J,.int .i64 M,.bool false]) hg bk;have aa:=rN (g:=D) (cs:=#[.string E,.int .i64 I,.string J,.int .i64 M,.bool false]) hg bk;replace A:=kN (g:=D) (cs:=#[.string E,.int .i64 I,.string J,.int .i64 M,.bool false]) hb bk;have B:=zaa.mk hbox;replace HB:=bN bz hb;clear hb hbox hg))
  replace A:=zaa.mk (zaw A.out)
  replace B:=zaa.mk (zaw B.out)
  replace HB:=zaa.mk (zaT HB.out)
  refine zbo (n:=10) (S:=fun w'=>w'.cell? ⟨Y,0,none⟩=some (.string O)∧w'.cell? ⟨Y,1,none⟩=some (.int .i64 U)∧w'.cell? ⟨D,0,none⟩=some (.string E)∧w'.cell? ⟨D,1,none⟩=some (.int .i64 I)∧w'.cell? ⟨D,2,none⟩=some (.string J)∧w'.cell? ⟨D,3,none⟩=some (.int .i64 M)∧w'.cell? ⟨D,4,none⟩=some (.bool false)) (ds:=[]) #[false,false,false,false,false,false,false,false,false,false] (by kernel_rfl) rfl rfl ⟨(zab B.out 0).trans rfl,(zab B.out 1).trans rfl,(zab A.out 0).trans rfl,(zab A.out 1).trans rfl,(zab A.out 2).trans rfl,(zab A.out 3).trans rfl,(zab A.out 4).trans rfl⟩ (fun hHeld=>?_);refine zbf zaF.tab1 zaF.bits1 (fun X HW_=>?_)
  generalize bI.drew=cc at A B HB hHeld ⊢
  refine zau (i:=1) (N:=some 8) (v:=?_) (a':=?_) #[false,true,false,false,false,false,false,false,false,false] rfl rfl (zas X.out (by kernel_rfl)) (fun _ _ _ h=>h) (Or.inl ⟨by rfl,?_⟩) ?_ ?_
  rotate_left
  ·intro w'
   go_simp
   with_reducible rfl
  rotate_left
  ·simp only[Act.put,List.setIfInBounds_toArray,List.set_cons_zero,List.set_cons_succ,zad,zaf]
   rfl
  refine zau (i:=5) (N:=some 12) (v:=?_) (a':=?_) #[false,true,false,false,false,true,false,false,false,false] rfl rfl (zas X.out (by kernel_rfl)) (fun _ _ _ h=>h) (Or.inl ⟨by rfl,?_⟩) ?_ ?_
  rotate_left
  ·intro w'
   go_simp
   with_reducible rfl
  rotate_left
  ·simp only[Act.put,List.setIfInBounds_toArray,List.set_cons_zero,List.set_cons_succ,zad,zaf]
   rfl
  refine zaW (i:=0) (N:=some 7) (v:=?_) (a':=?_) #[true,true,false,false,false,true,false,false,false,false] rfl rfl (zaH X.out HW_.out (by kernel_rfl)) (fun _ _ _ h=>h) (Or.inl ⟨by rfl,?_⟩) hHeld ?_ ?_
  rotate_left
  ·rintro w' ⟨s0,s1,s2,s3,s4,s5,s6⟩
   go_simp
   with_reducible rfl
  rotate_left
  ·simp only[Act.put,List.setIfInBounds_toArray,List.set_cons_zero,List.set_cons_succ,zad,zaf]
   rfl
  refine zaW (i:=2) (N:=some 9) (v:=?_) (a':=?_) #[true,true,true,false,false,true,false,false,false,false] rfl rfl (zaH X.out HW_.out (by kernel_rfl)) (fun _ _ _ h=>h) (Or.inl ⟨by rfl,?_⟩) hHeld ?_ ?_
  rotate_left
  ·rintro w' ⟨s0,s1,s2,s3,s4,s5,s6⟩
   go_simp
   with_reducible rfl
  rotate_left
  ·simp only[Act.put,List.setIfInBounds_toArray,List.set_cons_zero,List.set_cons_succ,zad,zaf]
   rfl
  refine zaW (i:=4) (N:=some 11) (v:=?_) (a':=?_) #[true,true,true,false,true,true,false,false,false,false] rfl rfl (zaH X.out HW_.out (by kernel_rfl)) (fun _ _ _ h=>h) (Or.inl ⟨by rfl,?_⟩) hHeld ?_ ?_
  rotate_left
  ·rintro w' ⟨s0,s1,s2,s3,s4,s5,s6⟩
   go_simp
   with_reducible rfl
  rotate_left
  ·simp only[Act.put,List.setIfInBounds_toArray,List.set_cons_zero,List.set_cons_succ,zad,zaf]
   rfl
  refine zaW (i:=6) (N:=some 13) (v:=?_) (a':=?_) #[true,true,true,false,true,true,true,false,false,false] rfl rfl (zaH X.out HW_.out (by kernel_rfl)) (fun _ _ _ h=>h) (Or.inl ⟨by rfl,?_⟩) hHeld ?_ ?_
  rotate_left
  ·rintro w' ⟨s0,s1,s2,s3,s4,s5,s6⟩
   go_simp
   with_reducible rfl
  rotate_left
  ·simp only[Act.put,List.setIfInBounds_toArray,List.set_cons_zero,List.set_cons_succ,zad,zaf]
   rfl
  refine one_ (i:=3) (N:=some 10) #[true,true,true,true,true,true,true,false,false,false] rfl rfl (zaZ X.out (by kernel_rfl)) (by decide) (fun K hK=>?_)
  refine za5 Tryz.func53 (by kernel_rfl) rfl #[.agg #[.string O,.int .i64 U],.agg #[.string E,.int .i64 I]] (by rfl) rfl rfl lz ?_
  with_reducible refine(za0.calls k O U E I ab _ A3.out).mono ?_
  rintro e cd ⟨rfl,hb⟩
  refine⟨_,rfl,?_⟩
  replace A:=zaa.mk (zag (g:=D) (o:=.cells #[.string E,.int .i64 I,.string J,.int .i64 M,.bool false] 88 (0,0)) bk hb)
  replace B:=zaa.mk (zag (g:=Y) (o:=.cells #[.string O,.int .i64 U] 42 (0,0)) bk hb)
  replace HB:=zaa.mk (zam bz hb)
  (try clear hb)
  (try clear ai)
  (try clear hk)
  (try clear hi)
  refine hK.out _ _ ⟨(zab B.out 0).trans rfl,(zab B.out 1).trans rfl,(zab A.out 0).trans rfl,(zab A.out 1).trans rfl,(zab A.out 2).trans rfl,(zab A.out 3).trans rfl,(zab A.out 4).trans rfl⟩ (fun hHeld=>?_)
  clear hK K
  refine zaY (a':=?_) ?_ ?_
  rotate_left
  ·show Act.put _ (some 10) _=_
   simp only[Act.put,List.setIfInBounds_toArray,List.set_cons_zero,List.set_cons_succ,zad,zaf]
   rfl
  refine one_ (i:=7) (N:=some 14) #[true,true,true,true,true,true,true,true,false,false] rfl rfl (zaZ X.out (by kernel_rfl)) (by decide) (fun K hK=>?_)
  refine za5 Tryz.func53 (by kernel_rfl) rfl #[.agg #[.string O,.int .i64 U],.agg #[.string J,.int .i64 M]] (by rfl) rfl rfl lz ?_
  with_reducible refine(za0.calls k O U J M ad _ A4.out).mono ?_
  rintro e bJ ⟨rfl,hb⟩
  refine⟨_,rfl,?_⟩
  replace A:=zaa.mk (zag (g:=D) (o:=.cells #[.string E,.int .i64 I,.string J,.int .i64 M,.bool false] 88 (0,0)) bk hb)
  replace B:=zaa.mk (zag (g:=Y) (o:=.cells #[.string O,.int .i64 U] 42 (0,0)) bk hb)
  replace HB:=zaa.mk (zam bz hb)
  (try clear hb)
  (try clear ai)
  (try clear hk)
  (try clear hi)
  refine hK.out _ _ ⟨(zab B.out 0).trans rfl,(zab B.out 1).trans rfl,(zab A.out 0).trans rfl,(zab A.out 1).trans rfl,(zab A.out 2).trans rfl,(zab A.out 3).trans rfl,(zab A.out 4).trans rfl⟩ (fun hHeld=>?_)
  clear hK K
  refine zaY (a':=?_) ?_ ?_
  rotate_left
  ·show Act.put _ (some 14) _=_
   simp only[Act.put,List.setIfInBounds_toArray,List.set_cons_zero,List.set_cons_succ,zad,zaf]
   rfl
  refine zau (i:=8) (N:=some 5) (v:=?_) (a':=?_) #[true,true,true,true,true,true,true,true,true,false] rfl rfl (zas X.out (by kernel_rfl)) (fun _ _ _ h=>h) (Or.inl ⟨by rfl,?_⟩) ?_ ?_
  rotate_left
  ·intro w'
   go_simp
   with_reducible rfl
  rotate_left
  ·simp only[Act.put,List.setIfInBounds_toArray,List.set_cons_zero,List.set_cons_succ,zad,zaf]
   rfl
  refine zau (i:=9) (N:=some 6) (v:=?_) (a':=?_) #[true,true,true,true,true,true,true,true,true,true] rfl rfl (zas X.out (by kernel_rfl)) (fun _ _ _ h=>h) (Or.inl ⟨by rfl,?_⟩) ?_ ?_
  rotate_left
  ·intro w'
   go_simp
   with_reducible rfl
  rotate_left
  ·simp only[Act.put,List.setIfInBounds_toArray,List.set_cons_zero,List.set_cons_succ,zad,zaf]
   rfl
  refine zbx (zbs X.out (by kernel_rfl)) ?_
  have bK:=Z.out
  have bL:=aa.out
  obtain⟨aO,aP,aQ,aR,aS,aT,aU,aV,aW,aX⟩:=cz5 (W:=bJ) A
  try go_wp2
  go_ret
  exact⟨ez,bz⟩
 replace H:=hN H c5
 have ap:decide (0<ab)=false:=decide_eq_false c5
 clear c5
 by_cases am:ac=true
 ·subst am
  replace H:=hT H
  by_cases ak:ab≥0
  ·replace H:=hE H ak
   have ao:decide (0≤ab)=true:=decide_eq_true ak
   clear ak
   obtain rfl:=Option.some.inj H
   go_enter Tryz.func56,Tryz.ntmps56
   try go_wp2_with (first|((with_reducible refine zak (N:=2) rfl ?_);refine zaj rfl (N:=2) rfl (cs:=#[.string E,.int .i64 I,.string J,.int .i64 M,.bool true]) (t:=88) gz ?_;intro D hg ce hbox hb;have ae:=gN bz hg;have af:=gN bz hg;have A:=zaa.mk hbox;replace HB:=bN bz hb;clear hb hbox hg)|((with_reducible refine zak (N:=3) rfl ?_);refine zaj rfl (N:=3) rfl (cs:=#[.string O,.int .i64 U]) (t:=42) gz ?_;intro Y hg bM hbox hb;have ag:=gN bz hg;have ah:=gN bz hg;have Z:=lN (g:=D) (cs:=#[.string E,.int .i64 I,.string J,.int .i64 M,.bool true]) hg bk;have aa:=rN (g:=D) (cs:=#[.string E,.int .i64 I,.string J,.int .i64 M,.bool true]) hg bk;replace A:=kN (g:=D) (cs:=#[.string E,.int .i64 I,.string J,.int .i64 M,.bool true]) hb bk;have B:=zaa.mk hbox;replace HB:=bN bz hb;clear hb hbox hg))
   replace A:=zaa.mk (zaw A.out)
   replace B:=zaa.mk (zaw B.out)
   replace HB:=zaa.mk (zaT HB.out)
   refine zbo (n:=10) (S:=fun w'=>w'.cell? ⟨Y,0,none⟩=some (.string O)∧w'.cell? ⟨Y,1,none⟩=some (.int .i64 U)∧w'.cell? ⟨D,0,none⟩=some (.string E)∧w'.cell? ⟨D,1,none⟩=some (.int .i64 I)∧w'.cell? ⟨D,2,none⟩=some (.string J)∧w'.cell? ⟨D,3,none⟩=some (.int .i64 M)∧w'.cell? ⟨D,4,none⟩=some (.bool true)) (ds:=[]) #[false,false,false,false,false,false,false,false,false,false] (by kernel_rfl) rfl rfl ⟨(zab B.out 0).trans rfl,(zab B.out 1).trans rfl,(zab A.out 0).trans rfl,(zab A.out 1).trans rfl,(zab A.out 2).trans rfl,(zab A.out 3).trans rfl,(zab A.out 4).trans rfl⟩ (fun hHeld=>?_);refine zbf zaF.tab1 zaF.bits1 (fun X HW_=>?_)
   generalize bM.drew=cf at A B HB hHeld ⊢
   refine zau (i:=1) (N:=some 8) (v:=?_) (a':=?_) #[false,true,false,false,false,false,false,false,false,false] rfl rfl (zas X.out (by kernel_rfl)) (fun _ _ _ h=>h) (Or.inl ⟨by rfl,?_⟩) ?_ ?_
   rotate_left
   ·intro w'
    go_simp
    with_reducible rfl
   rotate_left
   ·simp only[Act.put,List.setIfInBounds_toArray,List.set_cons_zero,List.set_cons_succ,zad,zaf]
    rfl
   refine zau (i:=5) (N:=some 12) (v:=?_) (a':=?_) #[false,true,false,false,false,true,false,false,false,false] rfl rfl (zas X.out (by kernel_rfl)) (fun _ _ _ h=>h) (Or.inl ⟨by rfl,?_⟩) ?_ ?_
   rotate_left
   ·intro w'
    go_simp
    with_reducible rfl
   rotate_left
   ·simp only[Act.put,List.setIfInBounds_toArray,List.set_cons_zero,List.set_cons_succ,zad,zaf]
    rfl
   refine zaW (i:=0) (N:=some 7) (v:=?_) (a':=?_) #[true,true,false,false,false,true,false,false,false,false] rfl rfl (zaH X.out HW_.out (by kernel_rfl)) (fun _ _ _ h=>h) (Or.inl ⟨by rfl,?_⟩) hHeld ?_ ?_
   rotate_left
   ·rintro w' ⟨s0,s1,s2,s3,s4,s5,s6⟩
    go_simp
    with_reducible rfl
   rotate_left
   ·simp only[Act.put,List.setIfInBounds_toArray,List.set_cons_zero,List.set_cons_succ,zad,zaf]
    rfl
   refine zaW (i:=2) (N:=some 9) (v:=?_) (a':=?_) #[true,true,true,false,false,true,false,false,false,false] rfl rfl (zaH X.out HW_.out (by kernel_rfl)) (fun _ _ _ h=>h) (Or.inl ⟨by rfl,?_⟩) hHeld ?_ ?_
   rotate_left
   ·rintro w' ⟨s0,s1,s2,s3,s4,s5,s6⟩
    go_simp
    with_reducible rfl
   rotate_left
   ·simp only[Act.put,List.setIfInBounds_toArray,List.set_cons_zero,List.set_cons_succ,zad,zaf]
    rfl
   refine zaW (i:=4) (N:=some 11) (v:=?_) (a':=?_) #[true,true,true,false,true,true,false,false,false,false] rfl rfl (zaH X.out HW_.out (by kernel_rfl)) (fun _ _ _ h=>h) (Or.inl ⟨by rfl,?_⟩) hHeld ?_ ?_
   rotate_left
   ·rintro w' ⟨s0,s1,s2,s3,s4,s5,s6⟩
    go_simp
    with_reducible rfl
   rotate_left
   ·simp only[Act.put,List.setIfInBounds_toArray,List.set_cons_zero,List.set_cons_succ,zad,zaf]
    rfl
   refine zaW (i:=6) (N:=some 13) (v:=?_) (a':=?_) #[true,true,true,false,true,true,true,false,false,false] rfl rfl (zaH X.out HW_.out (by kernel_rfl)) (fun _ _ _ h=>h) (Or.inl ⟨by rfl,?_⟩) hHeld ?_ ?_
   rotate_left
   ·rintro w' ⟨s0,s1,s2,s3,s4,s5,s6⟩
    go_simp
    with_reducible rfl
   rotate_left
   ·simp only[Act.put,List.setIfInBounds_toArray,List.set_cons_zero,List.set_cons_succ,zad,zaf]
    rfl
   refine one_ (i:=3) (N:=some 10) #[true,true,true,true,true,true,true,false,false,false] rfl rfl (zaZ X.out (by kernel_rfl)) (by decide) (fun K hK=>?_)
   refine za5 Tryz.func53 (by kernel_rfl) rfl #[.agg #[.string O,.int .i64 U],.agg #[.string E,.int .i64 I]] (by rfl) rfl rfl lz ?_
   with_reducible refine(za0.calls k O U E I ab _ A3.out).mono ?_
   rintro e cg ⟨rfl,hb⟩
   refine⟨_,rfl,?_⟩
   replace A:=zaa.mk (zag (g:=D) (o:=.cells #[.string E,.int .i64 I,.string J,.int .i64 M,.bool true] 88 (0,0)) bk hb)
   replace B:=zaa.mk (zag (g:=Y) (o:=.cells #[.string O,.int .i64 U] 42 (0,0)) bk hb)
   replace HB:=zaa.mk (zam bz hb)
   (try clear hb)
   (try clear ai)
   (try clear hk)
   (try clear hi)
   refine hK.out _ _ ⟨(zab B.out 0).trans rfl,(zab B.out 1).trans rfl,(zab A.out 0).trans rfl,(zab A.out 1).trans rfl,(zab A.out 2).trans rfl,(zab A.out 3).trans rfl,(zab A.out 4).trans rfl⟩ (fun hHeld=>?_)
   clear hK K
   refine zaY (a':=?_) ?_ ?_
   rotate_left
   ·show Act.put _ (some 10) _=_
    simp only[Act.put,List.setIfInBounds_toArray,List.set_cons_zero,List.set_cons_succ,zad,zaf]
    rfl
   refine one_ (i:=7) (N:=some 14) #[true,true,true,true,true,true,true,true,false,false] rfl rfl (zaZ X.out (by kernel_rfl)) (by decide) (fun K hK=>?_)
   refine za5 Tryz.func53 (by kernel_rfl) rfl #[.agg #[.string O,.int .i64 U],.agg #[.string J,.int .i64 M]] (by rfl) rfl rfl lz ?_
   with_reducible refine(za0.calls k O U J M ad _ A4.out).mono ?_
   rintro e bO ⟨rfl,hb⟩
   refine⟨_,rfl,?_⟩
   replace A:=zaa.mk (zag (g:=D) (o:=.cells #[.string E,.int .i64 I,.string J,.int .i64 M,.bool true] 88 (0,0)) bk hb)
   replace B:=zaa.mk (zag (g:=Y) (o:=.cells #[.string O,.int .i64 U] 42 (0,0)) bk hb)
   replace HB:=zaa.mk (zam bz hb)
   (try clear hb)
   (try clear ai)
   (try clear hk)
   (try clear hi)
   refine hK.out _ _ ⟨(zab B.out 0).trans rfl,(zab B.out 1).trans rfl,(zab A.out 0).trans rfl,(zab A.out 1).trans rfl,(zab A.out 2).trans rfl,(zab A.out 3).trans rfl,(zab A.out 4).trans rfl⟩ (fun hHeld=>?_)
   clear hK K
   refine zaY (a':=?_) ?_ ?_
   rotate_left
   ·show Act.put _ (some 14) _=_
    simp only[Act.put,List.setIfInBounds_toArray,List.set_cons_zero,List.set_cons_succ,zad,zaf]
    rfl
   refine zau (i:=8) (N:=some 5) (v:=?_) (a':=?_) #[true,true,true,true,true,true,true,true,true,false] rfl rfl (zas X.out (by kernel_rfl)) (fun _ _ _ h=>h) (Or.inl ⟨by rfl,?_⟩) ?_ ?_
   rotate_left
   ·intro w'
    go_simp
    with_reducible rfl
   rotate_left
   ·simp only[Act.put,List.setIfInBounds_toArray,List.set_cons_zero,List.set_cons_succ,zad,zaf]
    rfl
   refine zau (i:=9) (N:=some 6) (v:=?_) (a':=?_) #[true,true,true,true,true,true,true,true,true,true] rfl rfl (zas X.out (by kernel_rfl)) (fun _ _ _ h=>h) (Or.inl ⟨by rfl,?_⟩) ?_ ?_
   rotate_left
   ·intro w'
    go_simp
    with_reducible rfl
   rotate_left
   ·simp only[Act.put,List.setIfInBounds_toArray,List.set_cons_zero,List.set_cons_succ,zad,zaf]
    rfl
   refine zbx (zbs X.out (by kernel_rfl)) ?_
   have bP:=Z.out
   have bQ:=aa.out
   obtain⟨aY,aZ,a1,a2,a3,a4,a5,a6,a7,a8⟩:=cz5 (W:=bO) A
   try go_wp2
   go_ret
   exact⟨ez,bz⟩
  replace H:=hN H ak
  have ao:decide (0≤ab)=false:=decide_eq_false ak
  clear ak
  obtain rfl:=Option.some.inj H
  go_enter Tryz.func56,Tryz.ntmps56
  try go_wp2_with (first|((with_reducible refine zak (N:=2) rfl ?_);refine zaj rfl (N:=2) rfl (cs:=#[.string E,.int .i64 I,.string J,.int .i64 M,.bool true]) (t:=88) gz ?_;intro D hg ci hbox hb;have ae:=gN bz hg;have af:=gN bz hg;have A:=zaa.mk hbox;replace HB:=bN bz hb;clear hb hbox hg)|((with_reducible refine zak (N:=3) rfl ?_);refine zaj rfl (N:=3) rfl (cs:=#[.string O,.int .i64 U]) (t:=42) gz ?_;intro Y hg bR hbox hb;have ag:=gN bz hg;have ah:=gN bz hg;have Z:=lN (g:=D) (cs:=#[.string E,.int .i64 I,.string J,.int .i64 M,.bool true]) hg bk;have aa:=rN (g:=D) (cs:=#[.string E,.int .i64 I,.string J,.int .i64 M,.bool true]) hg bk;replace A:=kN (g:=D) (cs:=#[.string E,.int .i64 I,.string J,.int .i64 M,.bool true]) hb bk;have B:=zaa.mk hbox;replace HB:=bN bz hb;clear hb hbox hg))
  replace A:=zaa.mk (zaw A.out)
  replace B:=zaa.mk (zaw B.out)
  replace HB:=zaa.mk (zaT HB.out)
  refine zbo (n:=10) (S:=fun w'=>w'.cell? ⟨Y,0,none⟩=some (.string O)∧w'.cell? ⟨Y,1,none⟩=some (.int .i64 U)∧w'.cell? ⟨D,0,none⟩=some (.string E)∧w'.cell? ⟨D,1,none⟩=some (.int .i64 I)∧w'.cell? ⟨D,2,none⟩=some (.string J)∧w'.cell? ⟨D,3,none⟩=some (.int .i64 M)∧w'.cell? ⟨D,4,none⟩=some (.bool true)) (ds:=[]) #[false,false,false,false,false,false,false,false,false,false] (by kernel_rfl) rfl rfl ⟨(zab B.out 0).trans rfl,(zab B.out 1).trans rfl,(zab A.out 0).trans rfl,(zab A.out 1).trans rfl,(zab A.out 2).trans rfl,(zab A.out 3).trans rfl,(zab A.out 4).trans rfl⟩ (fun hHeld=>?_);refine zbf zaF.tab1 zaF.bits1 (fun X HW_=>?_)
  generalize bR.drew=cj at A B HB hHeld ⊢
  refine zau (i:=1) (N:=some 8) (v:=?_) (a':=?_) #[false,true,false,false,false,false,false,false,false,false] rfl rfl (zas X.out (by kernel_rfl)) (fun _ _ _ h=>h) (Or.inl ⟨by rfl,?_⟩) ?_ ?_
  rotate_left
  ·intro w'
   go_simp
   with_reducible rfl
  rotate_left
  ·simp only[Act.put,List.setIfInBounds_toArray,List.set_cons_zero,List.set_cons_succ,zad,zaf]
   rfl
  refine zau (i:=5) (N:=some 12) (v:=?_) (a':=?_) #[false,true,false,false,false,true,false,false,false,false] rfl rfl (zas X.out (by kernel_rfl)) (fun _ _ _ h=>h) (Or.inl ⟨by rfl,?_⟩) ?_ ?_
  rotate_left
  ·intro w'
   go_simp
   with_reducible rfl
  rotate_left
  ·simp only[Act.put,List.setIfInBounds_toArray,List.set_cons_zero,List.set_cons_succ,zad,zaf]
   rfl
  refine zaW (i:=0) (N:=some 7) (v:=?_) (a':=?_) #[true,true,false,false,false,true,false,false,false,false] rfl rfl (zaH X.out HW_.out (by kernel_rfl)) (fun _ _ _ h=>h) (Or.inl ⟨by rfl,?_⟩) hHeld ?_ ?_
  rotate_left
  ·rintro w' ⟨s0,s1,s2,s3,s4,s5,s6⟩
   go_simp
   with_reducible rfl
  rotate_left
  ·simp only[Act.put,List.setIfInBounds_toArray,List.set_cons_zero,List.set_cons_succ,zad,zaf]
   rfl
  refine zaW (i:=2) (N:=some 9) (v:=?_) (a':=?_) #[true,true,true,false,false,true,false,false,false,false] rfl rfl (zaH X.out HW_.out (by kernel_rfl)) (fun _ _ _ h=>h) (Or.inl ⟨by rfl,?_⟩) hHeld ?_ ?_
  rotate_left
  ·rintro w' ⟨s0,s1,s2,s3,s4,s5,s6⟩
   go_simp
   with_reducible rfl
  rotate_left
  ·simp only[Act.put,List.setIfInBounds_toArray,List.set_cons_zero,List.set_cons_succ,zad,zaf]
   rfl
  refine zaW (i:=4) (N:=some 11) (v:=?_) (a':=?_) #[true,true,true,false,true,true,false,false,false,false] rfl rfl (zaH X.out HW_.out (by kernel_rfl)) (fun _ _ _ h=>h) (Or.inl ⟨by rfl,?_⟩) hHeld ?_ ?_
  rotate_left
  ·rintro w' ⟨s0,s1,s2,s3,s4,s5,s6⟩
   go_simp
   with_reducible rfl
  rotate_left
  ·simp only[Act.put,List.setIfInBounds_toArray,List.set_cons_zero,List.set_cons_succ,zad,zaf]
   rfl
  refine zaW (i:=6) (N:=some 13) (v:=?_) (a':=?_) #[true,true,true,false,true,true,true,false,false,false] rfl rfl (zaH X.out HW_.out (by kernel_rfl)) (fun _ _ _ h=>h) (Or.inl ⟨by rfl,?_⟩) hHeld ?_ ?_
  rotate_left
  ·rintro w' ⟨s0,s1,s2,s3,s4,s5,s6⟩
   go_simp
   with_reducible rfl
  rotate_left
  ·simp only[Act.put,List.setIfInBounds_toArray,List.set_cons_zero,List.set_cons_succ,zad,zaf]
   rfl
  refine one_ (i:=3) (N:=some 10) #[true,true,true,true,true,true,true,false,false,false] rfl rfl (zaZ X.out (by kernel_rfl)) (by decide) (fun K hK=>?_)
  refine za5 Tryz.func53 (by kernel_rfl) rfl #[.agg #[.string O,.int .i64 U],.agg #[.string E,.int .i64 I]] (by rfl) rfl rfl lz ?_
  with_reducible refine(za0.calls k O U E I ab _ A3.out).mono ?_
  rintro e ck ⟨rfl,hb⟩
  refine⟨_,rfl,?_⟩
  replace A:=zaa.mk (zag (g:=D) (o:=.cells #[.string E,.int .i64 I,.string J,.int .i64 M,.bool true] 88 (0,0)) bk hb)
  replace B:=zaa.mk (zag (g:=Y) (o:=.cells #[.string O,.int .i64 U] 42 (0,0)) bk hb)
  replace HB:=zaa.mk (zam bz hb)
  (try clear hb)
  (try clear ai)
  (try clear hk)
  (try clear hi)
  refine hK.out _ _ ⟨(zab B.out 0).trans rfl,(zab B.out 1).trans rfl,(zab A.out 0).trans rfl,(zab A.out 1).trans rfl,(zab A.out 2).trans rfl,(zab A.out 3).trans rfl,(zab A.out 4).trans rfl⟩ (fun hHeld=>?_)
  clear hK K
  refine zaY (a':=?_) ?_ ?_
  rotate_left
  ·show Act.put _ (some 10) _=_
   simp only[Act.put,List.setIfInBounds_toArray,List.set_cons_zero,List.set_cons_succ,zad,zaf]
   rfl
  refine one_ (i:=7) (N:=some 14) #[true,true,true,true,true,true,true,true,false,false] rfl rfl (zaZ X.out (by kernel_rfl)) (by decide) (fun K hK=>?_)
  refine za5 Tryz.func53 (by kernel_rfl) rfl #[.agg #[.string O,.int .i64 U],.agg #[.string J,.int .i64 M]] (by rfl) rfl rfl lz ?_
  with_reducible refine(za0.calls k O U J M ad _ A4.out).mono ?_
  rintro e bS ⟨rfl,hb⟩
  refine⟨_,rfl,?_⟩
  replace A:=zaa.mk (zag (g:=D) (o:=.cells #[.string E,.int .i64 I,.string J,.int .i64 M,.bool true] 88 (0,0)) bk hb)
  replace B:=zaa.mk (zag (g:=Y) (o:=.cells #[.string O,.int .i64 U] 42 (0,0)) bk hb)
  replace HB:=zaa.mk (zam bz hb)
  (try clear hb)
  (try clear ai)
  (try clear hk)
  (try clear hi)
  refine hK.out _ _ ⟨(zab B.out 0).trans rfl,(zab B.out 1).trans rfl,(zab A.out 0).trans rfl,(zab A.out 1).trans rfl,(zab A.out 2).trans rfl,(zab A.out 3).trans rfl,(zab A.out 4).trans rfl⟩ (fun hHeld=>?_)
  clear hK K
  refine zaY (a':=?_) ?_ ?_
  rotate_left
  ·show Act.put _ (some 14) _=_
   simp only[Act.put,List.setIfInBounds_toArray,List.set_cons_zero,List.set_cons_succ,zad,zaf]
   rfl
  refine zau (i:=8) (N:=some 5) (v:=?_) (a':=?_) #[true,true,true,true,true,true,true,true,true,false] rfl rfl (zas X.out (by kernel_rfl)) (fun _ _ _ h=>h) (Or.inl ⟨by rfl,?_⟩) ?_ ?_
  rotate_left
  ·intro w'
   go_simp
   with_reducible rfl
  rotate_left
  ·simp only[Act.put,List.setIfInBounds_toArray,List.set_cons_zero,List.set_cons_succ,zad,zaf]
   rfl
  refine zau (i:=9) (N:=some 6) (v:=?_) (a':=?_) #[true,true,true,true,true,true,true,true,true,true] rfl rfl (zas X.out (by kernel_rfl)) (fun _ _ _ h=>h) (Or.inl ⟨by rfl,?_⟩) ?_ ?_
  rotate_left
  ·intro w'
   go_simp
   with_reducible rfl
  rotate_left
  ·simp only[Act.put,List.setIfInBounds_toArray,List.set_cons_zero,List.set_cons_succ,zad,zaf]
   rfl
  refine zbx (zbs X.out (by kernel_rfl)) ?_
  have bU:=Z.out
  have bV:=aa.out
  obtain⟨a9,ba,bb,bc,bd,be,bf,bg,bh,bi⟩:=cz5 (W:=bS) A
  try go_wp2
  go_ret
  exact⟨ez,bz⟩
 replace am:=Bool.eq_false_iff.mpr am
 subst am
 replace H:=hF H
 obtain rfl:=Option.some.inj H
 go_enter Tryz.func56,Tryz.ntmps56
 try go_wp2_with (first|((with_reducible refine zak (N:=2) rfl ?_);refine zaj rfl (N:=2) rfl (cs:=#[.string E,.int .i64 I,.string J,.int .i64 M,.bool false]) (t:=88) gz ?_;intro D hg cm hbox hb;have ae:=gN bz hg;have af:=gN bz hg;have A:=zaa.mk hbox;replace HB:=bN bz hb;clear hb hbox hg)|((with_reducible refine zak (N:=3) rfl ?_);refine zaj rfl (N:=3) rfl (cs:=#[.string O,.int .i64 U]) (t:=42) gz ?_;intro Y hg bW hbox hb;have ag:=gN bz hg;have ah:=gN bz hg;have Z:=lN (g:=D) (cs:=#[.string E,.int .i64 I,.string J,.int .i64 M,.bool false]) hg bk;have aa:=rN (g:=D) (cs:=#[.string E,.int .i64 I,.string J,.int .i64 M,.bool false]) hg bk;replace A:=kN (g:=D) (cs:=#[.string E,.int .i64 I,.string J,.int .i64 M,.bool false]) hb bk;have B:=zaa.mk hbox;replace HB:=bN bz hb;clear hb hbox hg))
 replace A:=zaa.mk (zaw A.out)
 replace B:=zaa.mk (zaw B.out)
 replace HB:=zaa.mk (zaT HB.out)
 refine zbo (n:=10) (S:=fun w'=>w'.cell? ⟨Y,0,none⟩=some (.string O)∧w'.cell? ⟨Y,1,none⟩=some (.int .i64 U)∧w'.cell? ⟨D,0,none⟩=some (.string E)∧w'.cell? ⟨D,1,none⟩=some (.int .i64 I)∧w'.cell? ⟨D,2,none⟩=some (.string J)∧w'.cell? ⟨D,3,none⟩=some (.int .i64 M)∧w'.cell? ⟨D,4,none⟩=some (.bool false)) (ds:=[]) #[false,false,false,false,false,false,false,false,false,false] (by kernel_rfl) rfl rfl ⟨(zab B.out 0).trans rfl,(zab B.out 1).trans rfl,(zab A.out 0).trans rfl,(zab A.out 1).trans rfl,(zab A.out 2).trans rfl,(zab A.out 3).trans rfl,(zab A.out 4).trans rfl⟩ (fun hHeld=>?_);refine zbf zaF.tab1 zaF.bits1 (fun X HW_=>?_)
 generalize bW.drew=cn at A B HB hHeld ⊢
 refine zau (i:=1) (N:=some 8) (v:=?_) (a':=?_) #[false,true,false,false,false,false,false,false,false,false] rfl rfl (zas X.out (by kernel_rfl)) (fun _ _ _ h=>h) (Or.inl ⟨by rfl,?_⟩) ?_ ?_
 rotate_left
 ·intro w'
  go_simp
  with_reducible rfl
 rotate_left
 ·simp only[Act.put,List.setIfInBounds_toArray,List.set_cons_zero,List.set_cons_succ,zad,zaf]
  rfl
 refine zau (i:=5) (N:=some 12) (v:=?_) (a':=?_) #[false,true,false,false,false,true,false,false,false,false] rfl rfl (zas X.out (by kernel_rfl)) (fun _ _ _ h=>h) (Or.inl ⟨by rfl,?_⟩) ?_ ?_
 rotate_left
 ·intro w'
  go_simp
  with_reducible rfl
 rotate_left
 ·simp only[Act.put,List.setIfInBounds_toArray,List.set_cons_zero,List.set_cons_succ,zad,zaf]
  rfl
 refine zaW (i:=0) (N:=some 7) (v:=?_) (a':=?_) #[true,true,false,false,false,true,false,false,false,false] rfl rfl (zaH X.out HW_.out (by kernel_rfl)) (fun _ _ _ h=>h) (Or.inl ⟨by rfl,?_⟩) hHeld ?_ ?_
 rotate_left
 ·rintro w' ⟨s0,s1,s2,s3,s4,s5,s6⟩
  go_simp
  with_reducible rfl
 rotate_left
 ·simp only[Act.put,List.setIfInBounds_toArray,List.set_cons_zero,List.set_cons_succ,zad,zaf]
  rfl
 refine zaW (i:=2) (N:=some 9) (v:=?_) (a':=?_) #[true,true,true,false,false,true,false,false,false,false] rfl rfl (zaH X.out HW_.out (by kernel_rfl)) (fun _ _ _ h=>h) (Or.inl ⟨by rfl,?_⟩) hHeld ?_ ?_
 rotate_left
 ·rintro w' ⟨s0,s1,s2,s3,s4,s5,s6⟩
  go_simp
  with_reducible rfl
 rotate_left
 ·simp only[Act.put,List.setIfInBounds_toArray,List.set_cons_zero,List.set_cons_succ,zad,zaf]
  rfl
 refine zaW (i:=4) (N:=some 11) (v:=?_) (a':=?_) #[true,true,true,false,true,true,false,false,false,false] rfl rfl (zaH X.out HW_.out (by kernel_rfl)) (fun _ _ _ h=>h) (Or.inl ⟨by rfl,?_⟩) hHeld ?_ ?_
 rotate_left
 ·rintro w' ⟨s0,s1,s2,s3,s4,s5,s6⟩
  go_simp
  with_reducible rfl
 rotate_left
 ·simp only[Act.put,List.setIfInBounds_toArray,List.set_cons_zero,List.set_cons_succ,zad,zaf]
  rfl
 refine zaW (i:=6) (N:=some 13) (v:=?_) (a':=?_) #[true,true,true,false,true,true,true,false,false,false] rfl rfl (zaH X.out HW_.out (by kernel_rfl)) (fun _ _ _ h=>h) (Or.inl ⟨by rfl,?_⟩) hHeld ?_ ?_
 rotate_left
 ·rintro w' ⟨s0,s1,s2,s3,s4,s5,s6⟩
  go_simp
  with_reducible rfl
 rotate_left
 ·simp only[Act.put,List.setIfInBounds_toArray,List.set_cons_zero,List.set_cons_succ,zad,zaf]
  rfl
 refine one_ (i:=3) (N:=some 10) #[true,true,true,true,true,true,true,false,false,false] rfl rfl (zaZ X.out (by kernel_rfl)) (by decide) (fun K hK=>?_)
 refine za5 Tryz.func53 (by kernel_rfl) rfl #[.agg #[.string O,.int .i64 U],.agg #[.string E,.int .i64 I]] (by rfl) rfl rfl lz ?_
 with_reducible refine(za0.calls k O U E I ab _ A3.out).mono ?_
 rintro e co ⟨rfl,hb⟩
 refine⟨_,rfl,?_⟩
 replace A:=zaa.mk (zag (g:=D) (o:=.cells #[.string E,.int .i64 I,.string J,.int .i64 M,.bool false] 88 (0,0)) bk hb)
 replace B:=zaa.mk (zag (g:=Y) (o:=.cells #[.string O,.int .i64 U] 42 (0,0)) bk hb)
 replace HB:=zaa.mk (zam bz hb)
 (try clear hb)
 (try clear ai)
 (try clear hk)
 (try clear hi)
 refine hK.out _ _ ⟨(zab B.out 0).trans rfl,(zab B.out 1).trans rfl,(zab A.out 0).trans rfl,(zab A.out 1).trans rfl,(zab A.out 2).trans rfl,(zab A.out 3).trans rfl,(zab A.out 4).trans rfl⟩ (fun hHeld=>?_)
 clear hK K
 refine zaY (a':=?_) ?_ ?_
 rotate_left
 ·show Act.put _ (some 10) _=_
  simp only[Act.put,List.setIfInBounds_toArray,List.set_cons_zero,List.set_cons_succ,zad,zaf]
  rfl
 refine one_ (i:=7) (N:=some 14) #[true,true,true,true,true,true,true,true,false,false] rfl rfl (zaZ X.out (by kernel_rfl)) (by decide) (fun K hK=>?_)
 refine za5 Tryz.func53 (by kernel_rfl) rfl #[.agg #[.string O,.int .i64 U],.agg #[.string J,.int .i64 M]] (by rfl) rfl rfl lz ?_
 with_reducible refine(za0.calls k O U J M ad _ A4.out).mono ?_
 rintro e bX ⟨rfl,hb⟩
 refine⟨_,rfl,?_⟩
 replace A:=zaa.mk (zag (g:=D) (o:=.cells #[.string E,.int .i64 I,.string J,.int .i64 M,.bool false] 88 (0,0)) bk hb)
 replace B:=zaa.mk (zag (g:=Y) (o:=.cells #[.string O,.int .i64 U] 42 (0,0)) bk hb)
 replace HB:=zaa.mk (zam bz hb)
 (try clear hb)
 (try clear ai)
 (try clear hk)
 (try clear hi)
 refine hK.out _ _ ⟨(zab B.out 0).trans rfl,(zab B.out 1).trans rfl,(zab A.out 0).trans rfl,(zab A.out 1).trans rfl,(zab A.out 2).trans rfl,(zab A.out 3).trans rfl,(zab A.out 4).trans rfl⟩ (fun hHeld=>?_)
 clear hK K
 refine zaY (a':=?_) ?_ ?_
 rotate_left
 ·show Act.put _ (some 14) _=_
  simp only[Act.put,List.setIfInBounds_toArray,List.set_cons_zero,List.set_cons_succ,zad,zaf]
  rfl
 refine zau (i:=8) (N:=some 5) (v:=?_) (a':=?_) #[true,true,true,true,true,true,true,true,true,false] rfl rfl (zas X.out (by kernel_rfl)) (fun _ _ _ h=>h) (Or.inl ⟨by rfl,?_⟩) ?_ ?_
 rotate_left
 ·intro w'
  go_simp
  with_reducible rfl
 rotate_left
 ·simp only[Act.put,List.setIfInBounds_toArray,List.set_cons_zero,List.set_cons_succ,zad,zaf]
  rfl
 refine zau (i:=9) (N:=some 6) (v:=?_) (a':=?_) #[true,true,true,true,true,true,true,true,true,true] rfl rfl (zas X.out (by kernel_rfl)) (fun _ _ _ h=>h) (Or.inl ⟨by rfl,?_⟩) ?_ ?_
 rotate_left
 ·intro w'
  go_simp
  with_reducible rfl
 rotate_left
 ·simp only[Act.put,List.setIfInBounds_toArray,List.set_cons_zero,List.set_cons_succ,zad,zaf]
  rfl
 refine zbx (zbs X.out (by kernel_rfl)) ?_
 have bY:=Z.out
 have bZ:=aa.out
 obtain⟨bj,bl,bm,bn,bo,bp,bq,br,bu,bv⟩:=cz5 (W:=bX) A
 try go_wp2
 go_ret
 exact⟨ez,bz⟩
def za1.l0:Nat→Int→ByteArray→Int→ByteArray→Int→Bool→ByteArray→Int→ByteArray→Int→Option (ByteArray×Int×Bool)
 |0,_,_,_,_,_,_,_,_,_,_=>none
 |k+1,U,A,B,D,E,I,J,K,M,O=>if U<2 then(if U=0 then((zaF.f k A B D E I J K).bind fun X=>(if X=true then(some (J,K,true)) else(za1.l0 k (wrap64 (U+1)) A B D E I J K M O))) else(if U=1 then((zaF.f k A B D E I M O).bind fun Y=>(if Y=true then(some (M,O,true)) else(za1.l0 k (wrap64 (U+1)) A B D E I J K M O))) else(none))) else(some ((⟨#[]⟩:ByteArray),0,false))
def za1.f(k:Nat)(D:ByteArray)(E:Int)(a1:Int)(J:ByteArray)(K:Int)(M:ByteArray)(O:Int)(U:Bool):Option (ByteArray×Int×Bool):=if a1≥(D.size:Int) then(some (D,E,true)) else((zbp.f k D E a1).bind fun A=>((zaF.f k J K M O U A.1 A.2.1).bind fun X=>(if X=true then(some (A.1,A.2.1,true)) else(if 0≤a1 then(if a1≤(D.size:Int) then((zaA.f k (D.extract 0 (a1:Int).toNat) E).bind fun B=>((zaz.f k B.1 B.2.1 (⟨#[49]⟩:ByteArray) (wrap64 ((wrap64 (E-a1))+1))).bind fun I=>(za1.l0 k 0 J K M O U B.1 B.2.1 I.1 I.2.1))) else(none)) else(none)))))
def za1.T7:Bool×List (List Nat×List Nat):=(true,[([],[]),([0],[0]),([],[]),([1,2],[1,2]),([],[]),([4],[4]),([3,5],[3,5]),([6],[6]),([7],[7]),([8],[8]),([8],[8]),([],[]),([11,9,7,0,1,2,3,4,5,6,7,8,9,11],[9,11]),([10,12,0,1,2,3,4,5,6,7,8,9,10,11,12],[10])])
def za1.B7:List Nat:=[0,1,0,7,0,16,63,127,255,511,511,0,3071,8191]
theorem za1.tab7:rtab .any (opsOf Tryz.f57 7)=za1.T7:=by kernel_rfl
theorem za1.bits7:waitsOk za1.T7.2 za1.B7=true:=by kernel_rfl
theorem za1.calls(k:Nat)(J:ByteArray)(A:Int)(a1:Int)(aH:ByteArray)(aI:Int)(aJ:ByteArray)(aK:Int)(aL:Bool)(r1:ByteArray)(r2:Int)(r3:Bool)(w:World)(h:za1.f k J A a1 aH aI aJ aK aL=some (r1,r2,r3)):
  Calls Tryz.prog 57 #[.agg #[.string J,.int .i64 A],.int .i64 a1,.func (.func 56) #[.agg #[.string aH,.int .i64 aI,.string aJ,.int .i64 aK,.bool aL]] #[]] w fun e w'=>e= .returned (.tuple #[.agg #[.string r1,.int .i64 r2],.bool r3])∧Below w.heap.size w w':=by
 have hf:=Tryz.underlying42
 have fc:=Tryz.underlying119
 have HB:=zaa.mk (Below.refl w.heap.size w)
 have H:(if a1≥(J.size:Int) then(some (J,A,true)) else((zbp.f k J A a1).bind fun bd=>((zaF.f k aH aI aJ aK aL bd.1 bd.2.1).bind fun bG=>(if bG=true then(some (bd.1,bd.2.1,true)) else(if 0≤a1 then(if a1≤(J.size:Int) then((zaA.f k (J.extract 0 (a1:Int).toNat) A).bind fun be=>((zaz.f k be.1 be.2.1 (⟨#[49]⟩:ByteArray) (wrap64 ((wrap64 (A-a1))+1))).bind fun bU=>(za1.l0 k 0 aH aI aJ aK aL be.1 be.2.1 bU.1 bU.2.1))) else(none)) else(none))))))=some (r1,r2,r3):=h
 clear h
 go_enter Tryz.func57,Tryz.ntmps57
 go_upto_if 21 with(first|((with_reducible refine zak (N:=3) rfl ?_);refine zaj rfl (N:=3) rfl (cs:=#[.string J,.int .i64 A]) (t:=42) gz ?_;intro D hg w4 hbox hb;have fe:=gN bz hg;have M:=zaa.mk hbox;replace HB:=bN bz hb;clear hb hbox hg)|((with_reducible refine zak (N:=6) rfl ?_);refine zaj rfl (N:=6) rfl (cs:=#[.string (⟨#[]⟩:ByteArray),.int .i64 0]) (t:=42) gz ?_;intro E hg w5 hbox hb;have fg:=gN bz hg;have ai:=lN (g:=D) (cs:=#[.string J,.int .i64 A]) hg bk;have aj:=rN (g:=D) (cs:=#[.string J,.int .i64 A]) hg bk;replace M:=kN (g:=D) (cs:=#[.string J,.int .i64 A]) hb bk;have U:=zaa.mk hbox;replace HB:=bN bz hb;clear hb hbox hg;have hh:=ai.out;have hj:=aj.out;obtain⟨cN,cO,cP,cQ⟩:=cz2 (W:=w5) M))
 (try simp only[Act.put,List.setIfInBounds_toArray,List.set_cons_zero,List.set_cons_succ])
 by_cases c8:a1≥(J.size:Int)
 ·replace H:=hE H c8
  have bH:decide ((J.size:Int)≤a1)=true:=decide_eq_true c8
  clear c8
  try rw[bH]
  simp only[Option.some.injEq,Prod.mk.injEq] at H
  obtain⟨rfl,rfl,rfl⟩:=H
  have hl:=ai.out
  have hm:=aj.out
  obtain⟨bV,bW,bX,bY⟩:=cz2 (W:=w5) M
  obtain⟨bZ,b0,b1,b2⟩:=cz2 (W:=w5) U
  go_wp2
  refine bodyPost_ret (zaM rfl _ _ E 42 #[.string J,.int .i64 A] (0,0) _ rfl bk Tryz.underlying42 rfl (by kernel_rfl)) rfl ?_
  exact⟨ez,bz⟩
 replace H:=hN H c8
 have bH:decide ((J.size:Int)≤a1)=false:=decide_eq_false c8
 clear c8
 try rw[bH]
 replace H:=bs H
 obtain⟨⟨Z,aa,dE⟩,fh,H⟩:=H
 dsimp only at H
 replace H:=bs H
 obtain⟨bG,fi,H⟩:=H
 have fj:=ai.out
 have fk:=aj.out
 obtain⟨b3,b4,b5,b6⟩:=cz2 (W:=w5) M
 go_upto_if 31 with(first|((with_reducible refine zac (f:=32) rfl ?_);refine zal (some 26) rfl rfl Tryz.func32 (by kernel_rfl) rfl #[.agg #[.string J,.int .i64 A],.int .i64 a1] rfl lz ?_;(with_reducible refine(zbp.calls k J A a1 Z aa dE _ fh.out).mono ?_);rintro e hp ⟨rfl,hb⟩;refine⟨_,rfl,?_⟩;replace M:=kN (g:=D) (cs:=#[.string J,.int .i64 A]) hb bk;replace U:=kN (g:=E) (cs:=#[.string (⟨#[]⟩:ByteArray),.int .i64 0]) hb bk;replace HB:=bN bz hb;(try clear hb);(try clear bI);(try clear hk);(try clear hi))|((with_reducible refine zak (N:=8) rfl ?_);refine zaj rfl (N:=8) rfl (cs:=#[.string (⟨#[]⟩:ByteArray),.int .i64 0]) (t:=42) gz ?_;intro O hg fl hbox hb;have fm:=gN bz hg;have aE:=lN (g:=D) (cs:=#[.string J,.int .i64 A]) hg bk;have aF:=rN (g:=D) (cs:=#[.string J,.int .i64 A]) hg bk;have aw:=lN (g:=E) (cs:=#[.string (⟨#[]⟩:ByteArray),.int .i64 0]) hg bk;have ax:=rN (g:=E) (cs:=#[.string (⟨#[]⟩:ByteArray),.int .i64 0]) hg bk;replace M:=kN (g:=D) (cs:=#[.string J,.int .i64 A]) hb bk;replace U:=kN (g:=E) (cs:=#[.string (⟨#[]⟩:ByteArray),.int .i64 0]) hb bk;have ac:=zaa.mk hbox;replace HB:=bN bz hb;clear hb hbox hg;have fo:=aF.out;have fp:=aE.out;have fq:=ax.out;have fs:=aw.out;obtain⟨b7,b8,ca,cb⟩:=cz2 (W:=fl) ac)|(go_at_call 56;(with_reducible refine(zaF.calls k aH aI aJ aK aL Z aa bG _ fi.out).mono ?_);rintro e df ⟨rfl,hb⟩;replace M:=kN (g:=D) (cs:=#[.string J,.int .i64 A]) hb bk;replace U:=kN (g:=E) (cs:=#[.string (⟨#[]⟩:ByteArray),.int .i64 0]) hb bk;replace ac:=kN (g:=O) (cs:=#[.string Z,.int .i64 aa]) hb bk;replace HB:=bN bz hb;(try clear hb);(try clear bI);(try clear hk);(try clear hi)))
 (try simp only[Act.put,List.setIfInBounds_toArray,List.set_cons_zero,List.set_cons_succ])
 by_cases cc:bG=true
 ·subst cc
  replace H:=hT H
  simp only[Option.some.injEq,Prod.mk.injEq] at H
  obtain⟨rfl,rfl,rfl⟩:=H
  have ft:=aF.out
  have fu:=aE.out
  have fv:=ax.out
  have fw:=aw.out
  obtain⟨cd,ce,cf,cg⟩:=cz2 (W:=df) ac
  have fx:=aj.out
  have fy:=ai.out
  obtain⟨ci,cj,ck,cm⟩:=cz2 (W:=df) U
  go_wp2
  refine bodyPost_ret (zaM rfl _ _ E 42 #[.string Z,.int .i64 aa] (0,0) _ rfl bk Tryz.underlying42 rfl (by kernel_rfl)) rfl ?_
  exact⟨ez,bz⟩
 replace cc:=Bool.eq_false_iff.mpr cc
 subst cc
 replace H:=hF H
 by_cases bJ:0≤a1
 ·replace H:=hE H bJ
  have dh:=eq_true bJ
  have di:decide (0≤a1)=true:=decide_eq_true bJ
  clear bJ
  by_cases bK:a1≤(J.size:Int)
  ·replace H:=hE H bK
   have dj:=eq_true bK
   have dk:decide (a1≤(J.size:Int))=true:=decide_eq_true bK
   clear bK
   replace H:=bs H
   obtain⟨⟨af,ag,bh⟩,dF,H⟩:=H
   dsimp only at H
   replace H:=bs H
   obtain⟨⟨au,av,dG⟩,fz,H⟩:=H
   dsimp only at H
   have H':=zaa.mk H
   clear H
   have fA:=ai.out
   have fC:=aj.out
   have fD:=aE.out
   have fF:=aF.out
   obtain⟨cn,co,cp,cq⟩:=cz2 (W:=df) M
   try go_wp2_with (first|((with_reducible refine zak (N:=10) rfl ?_);refine zaj rfl (N:=10) rfl (cs:=#[.string (⟨#[]⟩:ByteArray),.int .i64 0]) (t:=42) gz ?_;intro I hg bi hbox hb;have fG:=gN bz hg;have bj:=lN (g:=D) (cs:=#[.string J,.int .i64 A]) hg bk;have bl:=rN (g:=D) (cs:=#[.string J,.int .i64 A]) hg bk;have ay:=lN (g:=E) (cs:=#[.string (⟨#[]⟩:ByteArray),.int .i64 0]) hg bk;have az:=rN (g:=E) (cs:=#[.string (⟨#[]⟩:ByteArray),.int .i64 0]) hg bk;have bm:=lN (g:=O) (cs:=#[.string Z,.int .i64 aa]) hg bk;have bn:=rN (g:=O) (cs:=#[.string Z,.int .i64 aa]) hg bk;replace M:=kN (g:=D) (cs:=#[.string J,.int .i64 A]) hb bk;replace U:=kN (g:=E) (cs:=#[.string (⟨#[]⟩:ByteArray),.int .i64 0]) hb bk;replace ac:=kN (g:=O) (cs:=#[.string Z,.int .i64 aa]) hb bk;have ah:=zaa.mk hbox;replace HB:=bN bz hb;clear hb hbox hg;have fH:=bl.out;have fI:=bj.out;have fJ:=az.out;have fK:=ay.out;have fL:=bn.out;have fN:=bm.out;obtain⟨cr,ct,cu,cv⟩:=cz2 (W:=bi) ah))
   have bL:zaa (((bi.setCell ⟨I,0,none⟩ (.string (⟨#[49]⟩:ByteArray))).setCell ⟨I,1,none⟩ (.int .i64 (wrap64 ((wrap64 (A-a1))+1)))).heap[D]? =some (.cells #[.string J,.int .i64 A] 42 (0,0))):=⟨bk⟩
   have bM:zaa (((bi.setCell ⟨I,0,none⟩ (.string (⟨#[49]⟩:ByteArray))).setCell ⟨I,1,none⟩ (.int .i64 (wrap64 ((wrap64 (A-a1))+1)))).heap[E]? =some (.cells #[.string (⟨#[]⟩:ByteArray),.int .i64 0] 42 (0,0))):=⟨bk⟩
   have bO:zaa (((bi.setCell ⟨I,0,none⟩ (.string (⟨#[49]⟩:ByteArray))).setCell ⟨I,1,none⟩ (.int .i64 (wrap64 ((wrap64 (A-a1))+1)))).heap[O]? =some (.cells #[.string Z,.int .i64 aa] 42 (0,0))):=⟨bk⟩
   have bP:zaa (((bi.setCell ⟨I,0,none⟩ (.string (⟨#[49]⟩:ByteArray))).setCell ⟨I,1,none⟩ (.int .i64 (wrap64 ((wrap64 (A-a1))+1)))).heap[I]? =some (.cells #[.string (⟨#[49]⟩:ByteArray),.int .i64 (wrap64 ((wrap64 (A-a1))+1))] 42 (0,0))):=⟨bk⟩
   have bQ:zaa (Below w.heap.size w ((bi.setCell ⟨I,0,none⟩ (.string (⟨#[49]⟩:ByteArray))).setCell ⟨I,1,none⟩ (.int .i64 (wrap64 ((wrap64 (A-a1))+1))))):=⟨bz⟩
   (try clear M)
   (try clear U)
   (try clear ac)
   (try clear ah)
   (try clear HB)
   generalize ((bi.setCell ⟨I,0,none⟩ (.string (⟨#[49]⟩:ByteArray))).setCell ⟨I,1,none⟩ (.int .i64 (wrap64 ((wrap64 (A-a1))+1))))=fO at bL bM bO bP bQ ⊢
   have M:=bL
   have U:=bM
   have ac:=bO
   have ah:=bP
   have HB:=bQ
   clear bL bM bO bP bQ
   replace M:=zaa.mk (zaw M.out)
   replace U:=zaa.mk (zaw U.out)
   replace ac:=zaa.mk (zaw ac.out)
   replace ah:=zaa.mk (zaw ah.out)
   replace HB:=zaa.mk (zaT HB.out)
   refine zbo (n:=14) (S:=fun w'=>w'.cell? ⟨D,0,none⟩=some (.string J)∧w'.cell? ⟨D,1,none⟩=some (.int .i64 A)) (ds:=[]) #[false,false,false,false,false,false,false,false,false,false,false,false,false,false] (by kernel_rfl) rfl rfl ⟨(zab M.out 0).trans rfl,(zab M.out 1).trans rfl⟩ (fun hHeld=>?_);refine zbf za1.tab7 za1.bits7 (fun aA HW_=>?_)
   generalize fO.drew=hq at M U ac ah HB hHeld ⊢
   refine zau (i:=0) (N:=some 40) (v:=?_) (a':=?_) #[true,false,false,false,false,false,false,false,false,false,false,false,false,false] rfl rfl (zas aA.out (by kernel_rfl)) (fun _ _ _ h=>h) (Or.inl ⟨by rfl,?_⟩) ?_ ?_
   rotate_left
   ·intro w'
    go_simp
    with_reducible rfl
   rotate_left
   ·simp only[Act.put,List.setIfInBounds_toArray,List.set_cons_zero,List.set_cons_succ,zad,zaf]
    rfl
   refine zau (i:=2) (N:=some 42) (v:=?_) (a':=?_) #[true,false,true,false,false,false,false,false,false,false,false,false,false,false] rfl rfl (zas aA.out (by kernel_rfl)) (fun _ _ _ h=>h) (Or.inl ⟨by rfl,?_⟩) ?_ ?_
   rotate_left
   ·intro w'
    go_simp
    with_reducible rfl
   rotate_left
   ·simp only[Act.put,List.setIfInBounds_toArray,List.set_cons_zero,List.set_cons_succ,zad,zaf]
    rfl
   refine zau (i:=4) (N:=some 44) (v:=?_) (a':=?_) #[true,false,true,false,true,false,false,false,false,false,false,false,false,false] rfl rfl (zas aA.out (by kernel_rfl)) (fun _ _ _ h=>h) (Or.inl ⟨by rfl,?_⟩) ?_ ?_
   rotate_left
   ·intro w'
    go_simp
    with_reducible rfl
   rotate_left
   ·simp only[Act.put,List.setIfInBounds_toArray,List.set_cons_zero,List.set_cons_succ,zad,zaf]
    rfl
   refine zaW (i:=1) (N:=some 41) (v:=?_) (a':=?_) #[true,true,true,false,true,false,false,false,false,false,false,false,false,false] rfl rfl (zaH aA.out HW_.out (by kernel_rfl)) (fun _ _ _ h=>h) (Or.inl ⟨by rfl,?_⟩) hHeld ?_ ?_
   rotate_left
   ·rintro w' ⟨s0,s1⟩
    go_simp
    with_reducible rfl
   rotate_left
   ·simp only[Act.put,List.setIfInBounds_toArray,List.set_cons_zero,List.set_cons_succ,zad,zaf]
    rfl
   refine zau (i:=3) (N:=some 43) (v:=?_) (a':=?_) #[true,true,true,true,true,false,false,false,false,false,false,false,false,false] rfl rfl (zas aA.out (by kernel_rfl)) (fun _ _ _ h=>h) (Or.inl ⟨by rfl,?_⟩) ?_ ?_
   rotate_left
   ·intro w'
    go_simp
    with_reducible rfl
   rotate_left
   ·simp only[Act.put,List.setIfInBounds_toArray,List.set_cons_zero,List.set_cons_succ,zad,zaf]
    rfl
   refine zaW (i:=5) (N:=some 45) (v:=?_) (a':=?_) #[true,true,true,true,true,true,false,false,false,false,false,false,false,false] rfl rfl (zaH aA.out HW_.out (by kernel_rfl)) (fun _ _ _ h=>h) (Or.inl ⟨by rfl,?_⟩) hHeld ?_ ?_
   rotate_left
   ·rintro w' ⟨s0,s1⟩
    go_simp
    with_reducible rfl
   rotate_left
   ·simp only[Act.put,List.setIfInBounds_toArray,List.set_cons_zero,List.set_cons_succ,zad,zaf]
    rfl
   refine zau (i:=6) (N:=some 46) (v:=?_) (a':=?_) #[true,true,true,true,true,true,true,false,false,false,false,false,false,false] rfl rfl (zas aA.out (by kernel_rfl)) (fun _ _ _ h=>h) (Or.inl ⟨by rfl,?_⟩) ?_ ?_
   rotate_left
   ·intro w'
    go_simp
    with_reducible rfl
   rotate_left
   ·simp only[Act.put,List.setIfInBounds_toArray,List.set_cons_zero,List.set_cons_succ,zad,zaf]
    rfl
   refine zjH (σ:=Nat) 2 #[true,true,true,true,true,true,true,true,true,true,true,true,false,false] (fun s_=>[(47,.tuple #[.agg #[.string af,.int .i64 ag],.int .i64 bh]),(11,.pointer (some ⟨s_,0,none⟩)),(39,.tuple #[.agg #[.string af,.int .i64 ag],.int .i64 bh]),(48,.agg #[.string af,.int .i64 ag]),(49,.int .i64 bh)]) (fun s_ w'=>(w'.cell? ⟨D,0,none⟩=some (.string J)∧w'.cell? ⟨D,1,none⟩=some (.int .i64 A))∧(w'.heap[D]? =some (.cells #[.string J,.int .i64 A] 42 (0,0)))∧(w'.heap[E]? =some (.cells #[.string (⟨#[]⟩:ByteArray),.int .i64 0] 42 (0,0)))∧(w'.heap[O]? =some (.cells #[.string Z,.int .i64 aa] 42 (0,0)))∧(w'.heap[I]? =some (.cells #[.string (⟨#[49]⟩:ByteArray),.int .i64 (wrap64 ((wrap64 (A-a1))+1))] 42 (0,0)))∧(w'.heap[s_]? =some (.cells #[.string (⟨#[]⟩:ByteArray),.int .i64 0] 42 (0,0)))∧(w.heap.size≤s_)∧(w.heap.size≤s_)∧(D≠s_)∧(s_≠D)∧(E≠s_)∧(s_≠E)∧(O≠s_)∧(s_≠O)∧(I≠s_)∧(s_≠I)∧(Below w.heap.size w w')) ?_ ?_
   rotate_left
   ·intro hCont
    refine two_ (i:=7) (j:=11) (Ni:=some 47) (Nj:=some 11) #[true,true,true,true,true,true,true,true,false,false,false,false,false,false] #[true,true,true,true,true,true,true,false,false,false,false,true,false,false] rfl rfl rfl rfl (zjb aA.out (by kernel_rfl)) (by decide) (by decide) (fun K hK=>?_) (fun K hK=>?_)
    ·skip
     refine za5 Tryz.func50 (by kernel_rfl) rfl #[.agg #[.string (J.extract 0 (a1:Int).toNat),.int .i64 A]] (by rfl) rfl rfl lz ?_
     with_reducible refine(zaA.calls k (J.extract 0 (a1:Int).toNat) A af ag bh _ dF.out).mono ?_
     rintro e fP ⟨rfl,hb⟩
     refine⟨_,rfl,?_⟩
     replace M:=zaa.mk (zag (g:=D) (o:=.cells #[.string J,.int .i64 A] 42 (0,0)) bk hb)
     replace U:=zaa.mk (zag (g:=E) (o:=.cells #[.string (⟨#[]⟩:ByteArray),.int .i64 0] 42 (0,0)) bk hb)
     replace ac:=zaa.mk (zag (g:=O) (o:=.cells #[.string Z,.int .i64 aa] 42 (0,0)) bk hb)
     replace ah:=zaa.mk (zag (g:=I) (o:=.cells #[.string (⟨#[49]⟩:ByteArray),.int .i64 (wrap64 ((wrap64 (A-a1))+1))] 42 (0,0)) bk hb)
     replace HB:=zaa.mk (zam bz hb)
     (try clear hb)
     (try clear bI)
     (try clear hk)
     (try clear hi)
     refine hK.out _ _ ⟨(zab M.out 0).trans rfl,(zab M.out 1).trans rfl⟩ (fun hHeld=>?_)
     clear hK K
     refine zaY (a':=?_) ?_ ?_
     rotate_left
     ·show Act.put _ (some 47) _=_
      simp only[Act.put,List.setIfInBounds_toArray,List.set_cons_zero,List.set_cons_succ,zad,zaf]
      rfl
     refine zau (i:=8) (N:=some 39) (v:=?_) (a':=?_) #[true,true,true,true,true,true,true,true,true,false,false,false,false,false] rfl rfl (zas aA.out (by kernel_rfl)) (fun _ _ _ h=>h) (Or.inl ⟨by rfl,?_⟩) ?_ ?_
     rotate_left
     ·intro w'
      go_simp
      with_reducible rfl
     rotate_left
     ·simp only[Act.put,List.setIfInBounds_toArray,List.set_cons_zero,List.set_cons_succ,zad,zaf]
      rfl
     refine zau (i:=9) (N:=some 48) (v:=?_) (a':=?_) #[true,true,true,true,true,true,true,true,true,true,false,false,false,false] rfl rfl (zas aA.out (by kernel_rfl)) (fun _ _ _ h=>h) (Or.inl ⟨by rfl,?_⟩) ?_ ?_
     rotate_left
     ·intro w'
      go_simp
      with_reducible rfl
     rotate_left
     ·simp only[Act.put,List.setIfInBounds_toArray,List.set_cons_zero,List.set_cons_succ,zad,zaf]
      rfl
     refine zau (i:=10) (N:=some 49) (v:=?_) (a':=?_) #[true,true,true,true,true,true,true,true,true,true,true,false,false,false] rfl rfl (zas aA.out (by kernel_rfl)) (fun _ _ _ h=>h) (Or.inl ⟨by rfl,?_⟩) ?_ ?_
     rotate_left
     ·intro w'
      go_simp
      with_reducible rfl
     rotate_left
     ·simp only[Act.put,List.setIfInBounds_toArray,List.set_cons_zero,List.set_cons_succ,zad,zaf]
      rfl
     refine one_ (i:=11) (N:=some 11) #[true,true,true,true,true,true,true,true,true,true,true,true,false,false] rfl rfl (zaZ aA.out (by kernel_rfl)) (by decide) (fun K hK=>?_)
     refine zfq ?hg (N:=11) ?hd (cs:=#[.string (⟨#[]⟩:ByteArray),.int .i64 0]) (t:=42) ?hr ?_;(case hd=>rfl);(case hg=>rfl);(case hr=>first|(go_simp;done)|(go_simp;rfl))
     intro B hg fQ hbox hb
     have ak:=zaa.mk (hbox)
     have bf:=zaa.mk ((by rw[hg];exact(zaI bz):w.heap.size≤B))
     have bg:=zaa.mk ((by rw[hg];exact(zaI bz):w.heap.size≤B))
     have ab:=zaa.mk ((by rw[hg];exact Nat.ne_of_lt (za3 (g:=D) (o:=.cells #[.string J,.int .i64 A] 42 (0,0)) bk):D≠B))
     have al:=zaa.mk ((by rw[hg];exact Nat.ne_of_gt (za3 (g:=D) (o:=.cells #[.string J,.int .i64 A] 42 (0,0)) bk):B≠D))
     have ad:=zaa.mk ((by rw[hg];exact Nat.ne_of_lt (za3 (g:=E) (o:=.cells #[.string (⟨#[]⟩:ByteArray),.int .i64 0] 42 (0,0)) bk):E≠B))
     have ae:=zaa.mk ((by rw[hg];exact Nat.ne_of_gt (za3 (g:=E) (o:=.cells #[.string (⟨#[]⟩:ByteArray),.int .i64 0] 42 (0,0)) bk):B≠E))
     have am:=zaa.mk ((by rw[hg];exact Nat.ne_of_lt (za3 (g:=O) (o:=.cells #[.string Z,.int .i64 aa] 42 (0,0)) bk):O≠B))
     have an:=zaa.mk ((by rw[hg];exact Nat.ne_of_gt (za3 (g:=O) (o:=.cells #[.string Z,.int .i64 aa] 42 (0,0)) bk):B≠O))
     have ao:=zaa.mk ((by rw[hg];exact Nat.ne_of_lt (za3 (g:=I) (o:=.cells #[.string (⟨#[49]⟩:ByteArray),.int .i64 (wrap64 ((wrap64 (A-a1))+1))] 42 (0,0)) bk):I≠B))
     have ap:=zaa.mk ((by rw[hg];exact Nat.ne_of_gt (za3 (g:=I) (o:=.cells #[.string (⟨#[49]⟩:ByteArray),.int .i64 (wrap64 ((wrap64 (A-a1))+1))] 42 (0,0)) bk):B≠I))
     replace M:=zaa.mk (zag (g:=D) (o:=.cells #[.string J,.int .i64 A] 42 (0,0)) bk hb)
     replace U:=zaa.mk (zag (g:=E) (o:=.cells #[.string (⟨#[]⟩:ByteArray),.int .i64 0] 42 (0,0)) bk hb)
     replace ac:=zaa.mk (zag (g:=O) (o:=.cells #[.string Z,.int .i64 aa] 42 (0,0)) bk hb)
     replace ah:=zaa.mk (zag (g:=I) (o:=.cells #[.string (⟨#[49]⟩:ByteArray),.int .i64 (wrap64 ((wrap64 (A-a1))+1))] 42 (0,0)) bk hb)
     replace HB:=zaa.mk (zam bz hb)
     clear hb hbox hg
     refine hK.out _ _ ⟨(zab M.out 0).trans rfl,(zab M.out 1).trans rfl⟩ (fun hHeld=>?_)
     clear hK K
     refine zaY (a':=?_) ?_ ?_
     rotate_left
     ·show Act.put _ (some 11) _=_
      simp only[Act.put,List.setIfInBounds_toArray,List.set_cons_zero,List.set_cons_succ,zad,zaf]
      rfl
     exact zaY (by simp only[putAll,Act.put,List.setIfInBounds_toArray,List.set_cons_zero,List.set_cons_succ]) (hCont (B) _ ⟨hHeld,bk,bk,bk,bk,bk,bf.out,bg.out,ab.out,al.out,ad.out,ae.out,am.out,an.out,ao.out,ap.out,bz⟩)
    skip
    refine zfq ?hg (N:=11) ?hd (cs:=#[.string (⟨#[]⟩:ByteArray),.int .i64 0]) (t:=42) ?hr ?_;(case hd=>rfl);(case hg=>rfl);(case hr=>first|(go_simp;done)|(go_simp;rfl))
    intro B hg fP hbox hb
    have ak:=zaa.mk (hbox)
    have bf:=zaa.mk ((by rw[hg];exact(zaI bz):w.heap.size≤B))
    have bg:=zaa.mk ((by rw[hg];exact(zaI bz):w.heap.size≤B))
    have ab:=zaa.mk ((by rw[hg];exact Nat.ne_of_lt (za3 (g:=D) (o:=.cells #[.string J,.int .i64 A] 42 (0,0)) bk):D≠B))
    have al:=zaa.mk ((by rw[hg];exact Nat.ne_of_gt (za3 (g:=D) (o:=.cells #[.string J,.int .i64 A] 42 (0,0)) bk):B≠D))
    have ad:=zaa.mk ((by rw[hg];exact Nat.ne_of_lt (za3 (g:=E) (o:=.cells #[.string (⟨#[]⟩:ByteArray),.int .i64 0] 42 (0,0)) bk):E≠B))
    have ae:=zaa.mk ((by rw[hg];exact Nat.ne_of_gt (za3 (g:=E) (o:=.cells #[.string (⟨#[]⟩:ByteArray),.int .i64 0] 42 (0,0)) bk):B≠E))
    have am:=zaa.mk ((by rw[hg];exact Nat.ne_of_lt (za3 (g:=O) (o:=.cells #[.string Z,.int .i64 aa] 42 (0,0)) bk):O≠B))
    have an:=zaa.mk ((by rw[hg];exact Nat.ne_of_gt (za3 (g:=O) (o:=.cells #[.string Z,.int .i64 aa] 42 (0,0)) bk):B≠O))
    have ao:=zaa.mk ((by rw[hg];exact Nat.ne_of_lt (za3 (g:=I) (o:=.cells #[.string (⟨#[49]⟩:ByteArray),.int .i64 (wrap64 ((wrap64 (A-a1))+1))] 42 (0,0)) bk):I≠B))
    have ap:=zaa.mk ((by rw[hg];exact Nat.ne_of_gt (za3 (g:=I) (o:=.cells #[.string (⟨#[49]⟩:ByteArray),.int .i64 (wrap64 ((wrap64 (A-a1))+1))] 42 (0,0)) bk):B≠I))
    replace M:=zaa.mk (zag (g:=D) (o:=.cells #[.string J,.int .i64 A] 42 (0,0)) bk hb)
    replace U:=zaa.mk (zag (g:=E) (o:=.cells #[.string (⟨#[]⟩:ByteArray),.int .i64 0] 42 (0,0)) bk hb)
    replace ac:=zaa.mk (zag (g:=O) (o:=.cells #[.string Z,.int .i64 aa] 42 (0,0)) bk hb)
    replace ah:=zaa.mk (zag (g:=I) (o:=.cells #[.string (⟨#[49]⟩:ByteArray),.int .i64 (wrap64 ((wrap64 (A-a1))+1))] 42 (0,0)) bk hb)
    replace HB:=zaa.mk (zam bz hb)
    clear hb hbox hg
    refine hK.out _ _ ⟨(zab M.out 0).trans rfl,(zab M.out 1).trans rfl⟩ (fun hHeld=>?_)
    clear hK K
    refine zaY (a':=?_) ?_ ?_
    rotate_left
    ·show Act.put _ (some 11) _=_
     simp only[Act.put,List.setIfInBounds_toArray,List.set_cons_zero,List.set_cons_succ,zad,zaf]
     rfl
    refine one_ (i:=7) (N:=some 47) #[true,true,true,true,true,true,true,true,false,false,false,true,false,false] rfl rfl (zaZ aA.out (by kernel_rfl)) (by decide) (fun K hK=>?_)
    refine za5 Tryz.func50 (by kernel_rfl) rfl #[.agg #[.string (J.extract 0 (a1:Int).toNat),.int .i64 A]] (by rfl) rfl rfl lz ?_
    with_reducible refine(zaA.calls k (J.extract 0 (a1:Int).toNat) A af ag bh _ dF.out).mono ?_
    rintro e fQ ⟨rfl,hb⟩
    refine⟨_,rfl,?_⟩
    replace M:=zaa.mk (zag (g:=D) (o:=.cells #[.string J,.int .i64 A] 42 (0,0)) bk hb)
    replace U:=zaa.mk (zag (g:=E) (o:=.cells #[.string (⟨#[]⟩:ByteArray),.int .i64 0] 42 (0,0)) bk hb)
    replace ac:=zaa.mk (zag (g:=O) (o:=.cells #[.string Z,.int .i64 aa] 42 (0,0)) bk hb)
    replace ah:=zaa.mk (zag (g:=I) (o:=.cells #[.string (⟨#[49]⟩:ByteArray),.int .i64 (wrap64 ((wrap64 (A-a1))+1))] 42 (0,0)) bk hb)
    replace ak:=zaa.mk (zag (g:=B) (o:=.cells #[.string (⟨#[]⟩:ByteArray),.int .i64 0] 42 (0,0)) bk hb)
    replace HB:=zaa.mk (zam bz hb)
    (try clear hb)
    (try clear bI)
    (try clear hk)
    (try clear hi)
    refine hK.out _ _ ⟨(zab M.out 0).trans rfl,(zab M.out 1).trans rfl⟩ (fun hHeld=>?_)
    clear hK K
    refine zaY (a':=?_) ?_ ?_
    rotate_left
    ·show Act.put _ (some 47) _=_
     simp only[Act.put,List.setIfInBounds_toArray,List.set_cons_zero,List.set_cons_succ,zad,zaf]
     rfl
    refine zau (i:=8) (N:=some 39) (v:=?_) (a':=?_) #[true,true,true,true,true,true,true,true,true,false,false,true,false,false] rfl rfl (zas aA.out (by kernel_rfl)) (fun _ _ _ h=>h) (Or.inl ⟨by rfl,?_⟩) ?_ ?_
    rotate_left
    ·intro w'
     go_simp
     with_reducible rfl
    rotate_left
    ·simp only[Act.put,List.setIfInBounds_toArray,List.set_cons_zero,List.set_cons_succ,zad,zaf]
     rfl
    refine zau (i:=9) (N:=some 48) (v:=?_) (a':=?_) #[true,true,true,true,true,true,true,true,true,true,false,true,false,false] rfl rfl (zas aA.out (by kernel_rfl)) (fun _ _ _ h=>h) (Or.inl ⟨by rfl,?_⟩) ?_ ?_
    rotate_left
    ·intro w'
     go_simp
     with_reducible rfl
    rotate_left
    ·simp only[Act.put,List.setIfInBounds_toArray,List.set_cons_zero,List.set_cons_succ,zad,zaf]
     rfl
    refine zau (i:=10) (N:=some 49) (v:=?_) (a':=?_) #[true,true,true,true,true,true,true,true,true,true,true,true,false,false] rfl rfl (zas aA.out (by kernel_rfl)) (fun _ _ _ h=>h) (Or.inl ⟨by rfl,?_⟩) ?_ ?_
    rotate_left
    ·intro w'
     go_simp
     with_reducible rfl
    rotate_left
    ·simp only[Act.put,List.setIfInBounds_toArray,List.set_cons_zero,List.set_cons_succ,zad,zaf]
     rfl
    exact zaY (by simp only[putAll,Act.put,List.setIfInBounds_toArray,List.set_cons_zero,List.set_cons_succ]) (hCont (B) _ ⟨hHeld,bk,bk,bk,bk,bk,bf.out,bg.out,ab.out,al.out,ad.out,ae.out,am.out,an.out,ao.out,ap.out,bz⟩)
   rintro B aM ⟨hS_,dH,dI,dJ,dK,dL,dM,dN,dO,dP,dQ,cV,cW,cX,cY,cZ,c5⟩
   have bL:zaa (aM.heap[D]? =some (.cells #[.string J,.int .i64 A] 42 (0,0))):=⟨dH⟩
   have bM:zaa (aM.heap[E]? =some (.cells #[.string (⟨#[]⟩:ByteArray),.int .i64 0] 42 (0,0))):=⟨dI⟩
   have bO:zaa (aM.heap[O]? =some (.cells #[.string Z,.int .i64 aa] 42 (0,0))):=⟨dJ⟩
   have bP:zaa (aM.heap[I]? =some (.cells #[.string (⟨#[49]⟩:ByteArray),.int .i64 (wrap64 ((wrap64 (A-a1))+1))] 42 (0,0))):=⟨dK⟩
   have bQ:zaa (aM.heap[B]? =some (.cells #[.string (⟨#[]⟩:ByteArray),.int .i64 0] 42 (0,0))):=⟨dL⟩
   have dR:zaa (w.heap.size≤B):=⟨dM⟩
   have dS:zaa (w.heap.size≤B):=⟨dN⟩
   have dT:zaa (D≠B):=⟨dO⟩
   have dU:zaa (B≠D):=⟨dP⟩
   have dV:zaa (E≠B):=⟨dQ⟩
   have c6:zaa (B≠E):=⟨cV⟩
   have c7:zaa (O≠B):=⟨cW⟩
   have c9:zaa (B≠O):=⟨cX⟩
   have da:zaa (I≠B):=⟨cY⟩
   have db:zaa (B≠I):=⟨cZ⟩
   have dc:zaa (Below w.heap.size w aM):=⟨c5⟩
   clear M
   clear U
   clear ac
   clear ah
   clear HB
   clear dH dI dJ dK dL dM dN dO dP dQ cV cW cX cY cZ c5
   have M:=bL
   have U:=bM
   have ac:=bO
   have ah:=bP
   have ak:=bQ
   have bf:=dR
   have bg:=dS
   have ab:=dT
   have al:=dU
   have ad:=dV
   have ae:=c6
   have am:=c7
   have an:=c9
   have ao:=da
   have ap:=db
   have HB:=dc
   clear bL bM bO bP bQ dR dS dT dU dV c6 c7 c9 da db dc
   have hHeld:aM.cell? ⟨D,0,none⟩=some (.string J)∧aM.cell? ⟨D,1,none⟩=some (.int .i64 A):=hS_
   refine zaY (a':=?_) ?_ ?_
   rotate_left
   ·simp only[putAll,Act.put,List.setIfInBounds_toArray,List.set_cons_zero,List.set_cons_succ]
    rfl
   refine one_ (i:=12) (N:=none) #[true,true,true,true,true,true,true,true,true,true,true,true,true,false] rfl rfl (zaZ aA.out (by kernel_rfl)) (by decide) (fun K hK=>?_)
   have hn:aM.cell? ⟨B,0,none⟩=some (.string (⟨#[]⟩:ByteArray)):=(zab ak.out 0).trans rfl
   have fR:=zaP ak.out 0
   have dW:=ab.out
   have dY:=ad.out
   have dZ:=am.out
   have d0:=ao.out
   have d5:=al.out
   have d6:=ae.out
   have d7:=an.out
   have d8:=ap.out
   have ho:aM.cell? ⟨B,1,none⟩=some (.int .i64 0):=(zab ak.out 1).trans rfl
   have fS:=zaP ak.out 1
   have d9:=ab.out
   have ea:=ad.out
   have eb:=am.out
   have ec:=ao.out
   have ed:=al.out
   have ee:=ae.out
   have ef:=an.out
   have eg:=ap.out
   refine zep (w1:=?_) (by rfl) rfl ?_ ?_
   rotate_left
   ·go_simp
    rfl
   refine hK.out _ _ ⟨((cell_far (p:=⟨B,_,none⟩) ab.out _).trans (((cell_far (p:=⟨B,_,none⟩) ab.out _).trans (hHeld.1)))),((cell_far (p:=⟨B,_,none⟩) ab.out _).trans (((cell_far (p:=⟨B,_,none⟩) ab.out _).trans (hHeld.2))))⟩ (fun hHeld=>?_)
   clear hK K
   refine zau (i:=13) (N:=some 12) (v:=?_) (a':=?_) #[true,true,true,true,true,true,true,true,true,true,true,true,true,true] rfl rfl (zas aA.out (by kernel_rfl)) (fun _ _ _ h=>h) (Or.inl ⟨by rfl,?_⟩) ?_ ?_
   rotate_left
   ·intro w'
    go_simp
    with_reducible rfl
   rotate_left
   ·simp only[Act.put,List.setIfInBounds_toArray,List.set_cons_zero,List.set_cons_succ,zad,zaf]
    rfl
   refine zbx (zbs aA.out (by kernel_rfl)) ?_
   have fT:=al.out
   have fU:=ab.out
   have fV:=ae.out
   have fX:=ad.out
   have fY:=an.out
   have fZ:=am.out
   have f0:=ap.out
   have f2:=ao.out
   obtain⟨cw,cx,cy,cz⟩:=cz2 (W:=aM) ak
   obtain⟨cA,cB,cC,cD⟩:=cz2 (W:=aM) ah
   try go_wp2_with (first|((with_reducible refine zac (f:=83) rfl ?_);refine zal (some 53) rfl rfl Tryz.func83 (by kernel_rfl) rfl #[.agg #[.string af,.int .i64 ag],.agg #[.string (⟨#[49]⟩:ByteArray),.int .i64 (wrap64 ((wrap64 (A-a1))+1))]] rfl lz ?_;(with_reducible refine(zaz.calls k af ag (⟨#[49]⟩:ByteArray) (wrap64 ((wrap64 (A-a1))+1)) au av dG _ fz.out).mono ?_);rintro e hs ⟨rfl,hb⟩;refine⟨_,rfl,?_⟩;replace M:=kN (g:=D) (cs:=#[.string J,.int .i64 A]) hb bk;replace U:=kN (g:=E) (cs:=#[.string (⟨#[]⟩:ByteArray),.int .i64 0]) hb bk;replace ac:=kN (g:=O) (cs:=#[.string Z,.int .i64 aa]) hb bk;replace ah:=kN (g:=I) (cs:=#[.string (⟨#[49]⟩:ByteArray),.int .i64 (wrap64 ((wrap64 (A-a1))+1))]) hb bk;replace ak:=kN (g:=B) (cs:=#[.string af,.int .i64 ag]) hb bk;replace HB:=bN bz hb;(try clear hb);(try clear bI);(try clear hk);(try clear hi))|((with_reducible refine zak (N:=13) rfl ?_);refine zaj rfl (N:=13) rfl (cs:=#[.string (⟨#[]⟩:ByteArray),.int .i64 0]) (t:=42) gz ?_;intro aB hg eh hbox hb;have f3:=gN bz hg;have bo:=lN (g:=D) (cs:=#[.string J,.int .i64 A]) hg bk;have bp:=rN (g:=D) (cs:=#[.string J,.int .i64 A]) hg bk;have aC:=lN (g:=E) (cs:=#[.string (⟨#[]⟩:ByteArray),.int .i64 0]) hg bk;have aD:=rN (g:=E) (cs:=#[.string (⟨#[]⟩:ByteArray),.int .i64 0]) hg bk;have bq:=lN (g:=O) (cs:=#[.string Z,.int .i64 aa]) hg bk;have br:=rN (g:=O) (cs:=#[.string Z,.int .i64 aa]) hg bk;have bu:=lN (g:=I) (cs:=#[.string (⟨#[49]⟩:ByteArray),.int .i64 (wrap64 ((wrap64 (A-a1))+1))]) hg bk;have bv:=rN (g:=I) (cs:=#[.string (⟨#[49]⟩:ByteArray),.int .i64 (wrap64 ((wrap64 (A-a1))+1))]) hg bk;have bw:=lN (g:=B) (cs:=#[.string af,.int .i64 ag]) hg bk;have bA:=rN (g:=B) (cs:=#[.string af,.int .i64 ag]) hg bk;replace M:=kN (g:=D) (cs:=#[.string J,.int .i64 A]) hb bk;replace U:=kN (g:=E) (cs:=#[.string (⟨#[]⟩:ByteArray),.int .i64 0]) hb bk;replace ac:=kN (g:=O) (cs:=#[.string Z,.int .i64 aa]) hb bk;replace ah:=kN (g:=I) (cs:=#[.string (⟨#[49]⟩:ByteArray),.int .i64 (wrap64 ((wrap64 (A-a1))+1))]) hb bk;replace ak:=kN (g:=B) (cs:=#[.string af,.int .i64 ag]) hb bk;have aG:=zaa.mk hbox;replace HB:=bN bz hb;clear hb hbox hg;have f4:=bp.out;have f5:=bo.out;have f6:=aD.out;have f7:=aC.out;have f8:=br.out;have f9:=bq.out;have ga:=bv.out;have gb:=bu.out;have ge:=bA.out;have gf:=bw.out;obtain⟨cF,cG,cH,cI⟩:=cz2 (W:=eh) aG;obtain⟨cJ,cK,cL,cM⟩:=cz2 (W:=eh) ak))
   go_loopg [59] k (fun kq gg w'=> ∃(ar:Int) (X:ByteArray) (Y:Int),gg= .int .i64 ar∧zaa (za1.l0 kq ar aH aI aJ aK aL af ag au av=some (r1,r2,r3))∧zaa (kq≤k)∧zaa (w'.heap[D]? =some (.cells #[.string J,.int .i64 A] 42 (0,0)))∧zaa (w'.heap[E]? =some (.cells #[.string X,.int .i64 Y] 42 (0,0)))∧zaa (w'.heap[O]? =some (.cells #[.string Z,.int .i64 aa] 42 (0,0)))∧zaa (w'.heap[I]? =some (.cells #[.string (⟨#[49]⟩:ByteArray),.int .i64 (wrap64 ((wrap64 (A-a1))+1))] 42 (0,0)))∧zaa (w'.heap[B]? =some (.cells #[.string af,.int .i64 ag] 42 (0,0)))∧zaa (w'.heap[aB]? =some (.cells #[.string au,.int .i64 av] 42 (0,0)))∧zaa (Below w.heap.size w w'))
   case atStart=>exact⟨(0),((⟨#[]⟩:ByteArray)),(0),rz,H',⟨Nat.le_refl _⟩,⟨bk⟩,⟨bk⟩,⟨bk⟩,⟨bk⟩,⟨bk⟩,⟨bk⟩,⟨bz⟩⟩
   case round=>
    clear H'
    try clear c8
    try clear bH
    try clear cc
    try clear bJ
    try clear dh
    try clear di
    try clear bK
    try clear dj
    try clear dk
    try clear bV bW bX bY
    try clear bZ b0 b1 b2
    try clear b3 b4 b5 b6
    try clear b7 b8 ca cb
    try clear cd ce cf cg
    try clear ci cj ck cm
    try clear cn co cp cq
    try clear cr ct cu cv
    try clear cw cx cy cz
    try clear cA cB cC cD
    try clear cF cG cH cI
    try clear cJ cK cL cM
    try clear cN cO cP cQ
    obtain⟨ar,X,Y,rfl,HA,cR,M,U,ac,ah,ak,aG,HB⟩:=hrel
    cases gk with
    |zero=>exact absurd HA.out (by simp[za1.l0])
    |succ k1=>
     have H:=HA.out
     clear HA
     simp only[za1.l0] at H
     by_cases bR:ar<2
     ·replace H:=hE H bR
      have bB:=decide_eq_true bR
      clear bR
      try rw[bB]
      by_cases bC:ar=0
      ·replace H:=hE H bC
       have dl:(ar==0)=true:=beq_iff_eq.mpr bC
       have hix_: ∀W:World,(Instr.index 119 (.agg #[.string af,.int .i64 ag,.string au,.int .i64 av]) (.int .i64 ar)).run Tryz.prog W= .ok (.agg #[.string af,.int .i64 ag]) W:=by intro W;rw[bC];kernel_rfl
       have dm:(ar !=0)=false:=bne_eq_false_iff_eq.mpr bC
       clear bC
       replace H:=bs H
       obtain⟨dd,gh,H⟩:=H
       go_upto_if 64 with(first|((with_reducible refine zak (N:=16) rfl ?_);refine zaj rfl (N:=16) rfl (cs:=#[.string (⟨#[]⟩:ByteArray),.int .i64 0]) (t:=42) gz ?_;intro dn hg gi hbox hb;have gj:=gN bz hg;have aN:=lN (g:=D) (cs:=#[.string J,.int .i64 A]) hg bk;have aO:=rN (g:=D) (cs:=#[.string J,.int .i64 A]) hg bk;have aP:=lN (g:=E) (cs:=#[.string X,.int .i64 Y]) hg bk;have aQ:=rN (g:=E) (cs:=#[.string X,.int .i64 Y]) hg bk;have aR:=lN (g:=O) (cs:=#[.string Z,.int .i64 aa]) hg bk;have aS:=rN (g:=O) (cs:=#[.string Z,.int .i64 aa]) hg bk;have aT:=lN (g:=I) (cs:=#[.string (⟨#[49]⟩:ByteArray),.int .i64 (wrap64 ((wrap64 (A-a1))+1))]) hg bk;have aU:=rN (g:=I) (cs:=#[.string (⟨#[49]⟩:ByteArray),.int .i64 (wrap64 ((wrap64 (A-a1))+1))]) hg bk;have aV:=lN (g:=B) (cs:=#[.string af,.int .i64 ag]) hg bk;have aW:=rN (g:=B) (cs:=#[.string af,.int .i64 ag]) hg bk;have aX:=lN (g:=aB) (cs:=#[.string au,.int .i64 av]) hg bk;have aY:=rN (g:=aB) (cs:=#[.string au,.int .i64 av]) hg bk;replace M:=kN (g:=D) (cs:=#[.string J,.int .i64 A]) hb bk;replace U:=kN (g:=E) (cs:=#[.string X,.int .i64 Y]) hb bk;replace ac:=kN (g:=O) (cs:=#[.string Z,.int .i64 aa]) hb bk;replace ah:=kN (g:=I) (cs:=#[.string (⟨#[49]⟩:ByteArray),.int .i64 (wrap64 ((wrap64 (A-a1))+1))]) hb bk;replace ak:=kN (g:=B) (cs:=#[.string af,.int .i64 ag]) hb bk;replace aG:=kN (g:=aB) (cs:=#[.string au,.int .i64 av]) hb bk;have bD:=zaa.mk hbox;replace HB:=bN bz hb;clear hb hbox hg;have gl:=aO.out;have gm:=aN.out;have gn:=aQ.out;have gp:=aP.out;have gq:=aS.out;have gr:=aR.out;have gs:=aU.out;have gt:=aT.out;have gu:=aW.out;have gv:=aV.out;have gw:=aY.out;have gx:=aX.out;obtain⟨ei,ej,ek,em⟩:=cz2 (W:=gi) bD)|(go_at_call 56;(with_reducible refine(zaF.calls k1 aH aI aJ aK aL af ag dd _ gh.out).mono ?_);rintro e en ⟨rfl,hb⟩;replace M:=kN (g:=D) (cs:=#[.string J,.int .i64 A]) hb bk;replace U:=kN (g:=E) (cs:=#[.string X,.int .i64 Y]) hb bk;replace ac:=kN (g:=O) (cs:=#[.string Z,.int .i64 aa]) hb bk;replace ah:=kN (g:=I) (cs:=#[.string (⟨#[49]⟩:ByteArray),.int .i64 (wrap64 ((wrap64 (A-a1))+1))]) hb bk;replace ak:=kN (g:=B) (cs:=#[.string af,.int .i64 ag]) hb bk;replace aG:=kN (g:=aB) (cs:=#[.string au,.int .i64 av]) hb bk;replace bD:=kN (g:=dn) (cs:=#[.string af,.int .i64 ag]) hb bk;replace HB:=bN bz hb;(try clear hb);(try clear bI);(try clear hk);(try clear hi)))
       (try simp only[Act.put,List.setIfInBounds_toArray,List.set_cons_zero,List.set_cons_succ])
       by_cases cS:dd=true
       ·subst cS
        replace H:=hT H
        simp only[Option.some.injEq,Prod.mk.injEq] at H
        obtain⟨rfl,rfl,rfl⟩:=H
        have gy:=aO.out
        have gA:=aN.out
        have gB:=aQ.out
        have gC:=aP.out
        have gD:=aS.out
        have gE:=aR.out
        have gF:=aU.out
        have gG:=aT.out
        have gH:=aW.out
        have gI:=aV.out
        have gJ:=aY.out
        have gK:=aX.out
        obtain⟨eo,ep,eq,er⟩:=cz2 (W:=en) bD
        have gL:=aj.out
        have gM:=ai.out
        have gO:=aw.out
        have gP:=ax.out
        have gQ:=ay.out
        have gR:=az.out
        have gS:=ad.out
        have gT:=ae.out
        have gU:=aC.out
        have gV:=aD.out
        obtain⟨et,eu,ev,ew⟩:=cz2 (W:=en) U
        go_wp2
        refine bodyPost_ret (zaM rfl _ _ E 42 #[.string af,.int .i64 ag] (0,0) _ rfl bk Tryz.underlying42 rfl (by kernel_rfl)) rfl ?_
        exact⟨ez,bz⟩
       replace cS:=Bool.eq_false_iff.mpr cS
       subst cS
       replace H:=hF H
       have H':=zaa.mk H
       clear H
       go_wp2
       go_roundg k1
       case measure=>have:=cR.out;omega
       case rel=>exact⟨(wrap64 (ar+1)),(X),(Y),rz,H',⟨by have:=cR.out;omega⟩,⟨bk⟩,⟨bk⟩,⟨bk⟩,⟨bk⟩,⟨bk⟩,⟨bk⟩,⟨bz⟩⟩
      replace H:=hN H bC
      obtain⟨dl,dm⟩:=eF bC
      by_cases bS:ar=1
      ·replace H:=hE H bS
       have gW:(ar==1)=true:=beq_iff_eq.mpr bS
       have hix_: ∀W:World,(Instr.index 119 (.agg #[.string af,.int .i64 ag,.string au,.int .i64 av]) (.int .i64 ar)).run Tryz.prog W= .ok (.agg #[.string au,.int .i64 av]) W:=by intro W;rw[bS];kernel_rfl
       have gX:(ar !=1)=false:=bne_eq_false_iff_eq.mpr bS
       clear bS
       replace H:=bs H
       obtain⟨de,gY,H⟩:=H
       go_upto_if 64 with(first|((with_reducible refine zak (N:=16) rfl ?_);refine zaj rfl (N:=16) rfl (cs:=#[.string (⟨#[]⟩:ByteArray),.int .i64 0]) (t:=42) gz ?_;intro dp hg gZ hbox hb;have g0:=gN bz hg;have aZ:=lN (g:=D) (cs:=#[.string J,.int .i64 A]) hg bk;have a2:=rN (g:=D) (cs:=#[.string J,.int .i64 A]) hg bk;have a3:=lN (g:=E) (cs:=#[.string X,.int .i64 Y]) hg bk;have a4:=rN (g:=E) (cs:=#[.string X,.int .i64 Y]) hg bk;have a5:=lN (g:=O) (cs:=#[.string Z,.int .i64 aa]) hg bk;have a6:=rN (g:=O) (cs:=#[.string Z,.int .i64 aa]) hg bk;have a7:=lN (g:=I) (cs:=#[.string (⟨#[49]⟩:ByteArray),.int .i64 (wrap64 ((wrap64 (A-a1))+1))]) hg bk;have a8:=rN (g:=I) (cs:=#[.string (⟨#[49]⟩:ByteArray),.int .i64 (wrap64 ((wrap64 (A-a1))+1))]) hg bk;have a9:=lN (g:=B) (cs:=#[.string af,.int .i64 ag]) hg bk;have ba:=rN (g:=B) (cs:=#[.string af,.int .i64 ag]) hg bk;have bb:=lN (g:=aB) (cs:=#[.string au,.int .i64 av]) hg bk;have bc:=rN (g:=aB) (cs:=#[.string au,.int .i64 av]) hg bk;replace M:=kN (g:=D) (cs:=#[.string J,.int .i64 A]) hb bk;replace U:=kN (g:=E) (cs:=#[.string X,.int .i64 Y]) hb bk;replace ac:=kN (g:=O) (cs:=#[.string Z,.int .i64 aa]) hb bk;replace ah:=kN (g:=I) (cs:=#[.string (⟨#[49]⟩:ByteArray),.int .i64 (wrap64 ((wrap64 (A-a1))+1))]) hb bk;replace ak:=kN (g:=B) (cs:=#[.string af,.int .i64 ag]) hb bk;replace aG:=kN (g:=aB) (cs:=#[.string au,.int .i64 av]) hb bk;have bE:=zaa.mk hbox;replace HB:=bN bz hb;clear hb hbox hg;have g1:=a2.out;have g2:=aZ.out;have g3:=a4.out;have g4:=a3.out;have g5:=a6.out;have g6:=a5.out;have g7:=a8.out;have g8:=a7.out;have g9:=ba.out;have ha:=a9.out;have hc:=bc.out;have he:=bb.out;obtain⟨ey,eA,eB,eC⟩:=cz2 (W:=gZ) bE)|(go_at_call 56;(with_reducible refine(zaF.calls k1 aH aI aJ aK aL au av de _ gY.out).mono ?_);rintro e eD ⟨rfl,hb⟩;replace M:=kN (g:=D) (cs:=#[.string J,.int .i64 A]) hb bk;replace U:=kN (g:=E) (cs:=#[.string X,.int .i64 Y]) hb bk;replace ac:=kN (g:=O) (cs:=#[.string Z,.int .i64 aa]) hb bk;replace ah:=kN (g:=I) (cs:=#[.string (⟨#[49]⟩:ByteArray),.int .i64 (wrap64 ((wrap64 (A-a1))+1))]) hb bk;replace ak:=kN (g:=B) (cs:=#[.string af,.int .i64 ag]) hb bk;replace aG:=kN (g:=aB) (cs:=#[.string au,.int .i64 av]) hb bk;replace bE:=kN (g:=dp) (cs:=#[.string au,.int .i64 av]) hb bk;replace HB:=bN bz hb;(try clear hb);(try clear bI);(try clear hk);(try clear hi)))
       (try simp only[Act.put,List.setIfInBounds_toArray,List.set_cons_zero,List.set_cons_succ])
       by_cases cT:de=true
       ·subst cT
        replace H:=hT H
        simp only[Option.some.injEq,Prod.mk.injEq] at H
        obtain⟨rfl,rfl,rfl⟩:=H
        have eE:=a2.out
        have eG:=aZ.out
        have eH:=a4.out
        have eI:=a3.out
        have eJ:=a6.out
        have eK:=a5.out
        have eL:=a8.out
        have eM:=a7.out
        have eN:=ba.out
        have eO:=a9.out
        have eP:=bc.out
        have eQ:=bb.out
        obtain⟨dq,dr,dt,du⟩:=cz2 (W:=eD) bE
        have eR:=aj.out
        have eS:=ai.out
        have eU:=aw.out
        have eV:=ax.out
        have eW:=ay.out
        have eX:=az.out
        have eY:=ad.out
        have eZ:=ae.out
        have e0:=aC.out
        have e1:=aD.out
        obtain⟨dv,dw,dx,dy⟩:=cz2 (W:=eD) U
        go_wp2
        refine bodyPost_ret (zaM rfl _ _ E 42 #[.string au,.int .i64 av] (0,0) _ rfl bk Tryz.underlying42 rfl (by kernel_rfl)) rfl ?_
        exact⟨ez,bz⟩
       replace cT:=Bool.eq_false_iff.mpr cT
       subst cT
       replace H:=hF H
       have H':=zaa.mk H
       clear H
       go_wp2
       go_roundg k1
       case measure=>have:=cR.out;omega
       case rel=>exact⟨(wrap64 (ar+1)),(X),(Y),rz,H',⟨by have:=cR.out;omega⟩,⟨bk⟩,⟨bk⟩,⟨bk⟩,⟨bk⟩,⟨bk⟩,⟨bk⟩,⟨bz⟩⟩
      replace H:=hN H bS
      exact absurd H (by simp)
     replace H:=hN H bR
     have bB:=decide_eq_false bR
     clear bR
     try rw[bB]
     simp only[Option.some.injEq,Prod.mk.injEq] at H
     obtain⟨rfl,rfl,rfl⟩:=H
     have e2:=aj.out
     have e3:=ai.out
     have e4:=aw.out
     have e5:=ax.out
     have e6:=ay.out
     have e7:=az.out
     have e8:=ad.out
     have e9:=ae.out
     have fa:=aC.out
     have fb:=aD.out
     obtain⟨dA,dB,dC,dD⟩:=cz2 (W:=wr) U
     go_wp2
     refine bodyPost_ret (zaM rfl _ _ E 42 #[.string (⟨#[]⟩:ByteArray),.int .i64 0] (0,0) _ rfl bk Tryz.underlying42 rfl (by kernel_rfl)) rfl ?_
     exact⟨ez,bz⟩
  replace H:=hN H bK
  exact absurd H (by simp)
 replace H:=hN H bJ
 exact absurd H (by simp)
end
end Go.Proofs.YtecpgdfnamkfdaaGreatDoor.Fn
end
