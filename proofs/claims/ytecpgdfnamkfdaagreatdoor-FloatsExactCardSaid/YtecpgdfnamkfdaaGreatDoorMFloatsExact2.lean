/- The law FloatsExact: the walks through its functions and its plain law (part 2). Own texts and the kit's printed words for this seat, without what the law does not use: put together by merge.py (of this work). -/
import Derived.Test.YtecpgdfnamkfdaaGreatDoorMFloatsExact1
section
namespace Go.Proofs.YtecpgdfnamkfdaaGreatDoor.Fn
open Go.RowKit Go.Proofs.YtecpgdfnamkfdaaGreatDoorW.PrintWords Go.Proofs.YtecpgdfnamkfdaaGreatDoorW.PrintLast Go.Proofs.YtecpgdfnamkfdaaGreatDoorW.PrintMore
set_option linter.unusedVariables false
set_option linter.unusedSimpArgs false
set_option maxHeartbeats 8000000
set_option maxRecDepth 100000
section
attribute [local go_sem] fnW_0 fnW_1 fnW_2 fnW_3 fnW_4 fnW_5 fnW_guard fnW_eql zaF zaG zaK zaL
def zaJ.f(J:Int)(K:Int)(A:Int)(B:Int)(M:Int)(O:Bool)(U:Int):Option (ByteArray):=(zaY.f A 10).bind fun D=>((zbb.f (⟨#[112]⟩:ByteArray) B 1).bind fun E=>((zat.f (([D,E]:List ByteArray))).bind fun I=>(some I)))
def zaJ.T1:Bool×List (List Nat×List Nat):=(true,[([],[]),([0],[0]),([1],[1]),([],[]),([3],[3]),([4,2],[4]),([2,5],[2,5]),([6,5],[6]),([7,7,0,1,2,3,4,5,6,7],[7])])
def zaJ.B1:List Nat:=[0,1,3,0,8,31,63,127,255]
theorem zaJ.tab1:rtab .any (opsOf Tryz.f69 1)=zaJ.T1:=by kernel_rfl
theorem zaJ.bits1:waitsOk zaJ.T1.2 zaJ.B1=true:=by kernel_rfl
theorem zaJ.calls(aa:Int)(ab:Int)(U:Int)(X:Int)(ac:Int)(ad:Bool)(ae:Int)(r:ByteArray)(w:World)(h:zaJ.f aa ab U X ac ad ae=some r):
  Calls Tryz.prog 69 #[.agg #[.int .u64 aa,.int .i64 ab,.int .u64 U,.int .i64 X,.int .i64 ac,.bool ad,.int .i32 ae]] w fun e w'=>e= .returned (.string r)∧Below w.heap.size w w':=by
 have av:=Tryz.underlying74
 have HB:=zaa.mk (Below.refl w.heap.size w)
 have H:((zaY.f U 10).bind fun D=>((zbb.f (⟨#[112]⟩:ByteArray) X 1).bind fun E=>((zat.f (([D,E]:List ByteArray))).bind fun Y=>(some Y))))=some r:=h
 clear h
 replace H:=bs H
 obtain⟨D,A2,H⟩:=H
 replace H:=bs H
 obtain⟨E,A3,H⟩:=H
 obtain⟨af,I⟩: ∃y_:List ByteArray,y_=(([D,E]:List ByteArray)):=⟨_,rfl⟩
 replace H:((zat.f af).bind fun Y=>(some Y))=some r:=by first|(rw[I];with_reducible exact H)|(have ai:=(Option.bind_some _ _).symm.trans H;rw[I];with_reducible exact ai)|(have ai:=(Option.bind_some _ _).symm.trans H;with_reducible exact ai)|with_reducible exact H|(rw[I];exact H)|exact H
 have ag:=zaa.mk I
 clear I
 replace H:=bs H
 obtain⟨Y,A4,H⟩:=H
 obtain rfl:=Option.some.inj H
 go_enter Tryz.func69,Tryz.ntmps69
 try go_wp2_with (first|((with_reducible refine zah (N:=1) rfl ?_);refine zag rfl (N:=1) rfl (cs:=#[.int .u64 aa,.int .i64 ab,.int .u64 U,.int .i64 X,.int .i64 ac,.bool ad,.int .i32 ae]) (t:=74) gz ?_;intro B hg w5 hbox hb;have ao:=gN bz hg;have A:=zaa.mk hbox;replace HB:=bN bz hb;clear hb hbox hg))
 replace A:=zaa.mk (zao A.out)
 replace HB:=zaa.mk (zaM HB.out)
 refine zbc (n:=9) (S:=fun w'=>w'.cell? ⟨B,0,none⟩=some (.int .u64 aa)∧w'.cell? ⟨B,1,none⟩=some (.int .i64 ab)∧w'.cell? ⟨B,2,none⟩=some (.int .u64 U)∧w'.cell? ⟨B,3,none⟩=some (.int .i64 X)∧w'.cell? ⟨B,4,none⟩=some (.int .i64 ac)∧w'.cell? ⟨B,5,none⟩=some (.bool ad)∧w'.cell? ⟨B,6,none⟩=some (.int .i32 ae)) (ds:=[]) #[false,false,false,false,false,false,false,false,false] (by kernel_rfl) rfl rfl ⟨(zab A.out 0).trans rfl,(zab A.out 1).trans rfl,(zab A.out 2).trans rfl,(zab A.out 3).trans rfl,(zab A.out 4).trans rfl,(zab A.out 5).trans rfl,(zab A.out 6).trans rfl⟩ (fun hHeld=>?_);refine za3 zaJ.tab1 zaJ.bits1 (fun O HW_=>?_)
 generalize w5.drew=w6 at A HB hHeld ⊢
 refine pz (i:=0) (N:=3) O ?_
 refine pz (i:=3) (N:=6) O ?_
 refine tz (i:=1) (N:=4) rfl O HW_ hHeld (by(rintro w' ⟨s0,s1,s2,s3,s4,s5,s6⟩;go_simp;with_reducible rfl)) ?_
 refine tz (i:=4) (N:=7) rfl O HW_ hHeld (by(rintro w' ⟨s0,s1,s2,s3,s4,s5,s6⟩;go_simp;with_reducible rfl)) ?_
 refine oz (i:=2) (N:=some 5) O fun K hK=>?_
 refine gG Tryz.func110 (zaY.calls U 10 D _ A2.out) ?_
 intro w7 hb
 replace A:=kN (g:=B) hb bk
 replace HB:=bN bz hb
 (try clear hb)
 (try clear aj)
 (try clear hk)
 (try clear hi)
 refine hK.out _ _ (d7 A) (fun hHeld=>?_)
 clear hK K
 refine zaN (a':=?_) ?_ ?_
 rotate_left
 ·show Act.put _ (some 5) _=_
  simp only[Act.put,List.setIfInBounds_toArray,List.set_cons_zero,List.set_cons_succ,zap,zav]
  rfl
 refine oz (i:=5) (N:=some 8) O fun K hK=>?_
 refine gG Tryz.func111 (zbb.calls (⟨#[112]⟩:ByteArray) X 1 E _ A3.out) ?_
 intro w8 hb
 replace A:=kN (g:=B) hb bk
 replace HB:=bN bz hb
 (try clear hb)
 (try clear aj)
 (try clear hk)
 (try clear hi)
 refine hK.out _ _ (d7 A) (fun hHeld=>?_)
 clear hK K
 refine zaN (a':=?_) ?_ ?_
 rotate_left
 ·show Act.put _ (some 8) _=_
  simp only[Act.put,List.setIfInBounds_toArray,List.set_cons_zero,List.set_cons_succ,zap,zav]
  rfl
 refine oz (i:=6) (N:=some 9) O fun K hK=>?_
 refine Kd.R_lit_step Kd.string _ 9 ?hg (N:=9) ?hd (xs:=([D,E]:List ByteArray)) (inner:=[.string D,.string E]) (ok:=fun _=>True) (okp:=fun _=>True) ?hr ?hp (fun _ hk=>hk) trivial (Below.refl _ _) (Nat.le_refl _) (by simp) ?_;(case hd=>rfl);(case hg=>rfl);(case hr=>first|(go_simp;done)|(go_simp;rfl));(case hp=>exact(Reps.one (show Kd.M Kd.string _ _ _ D [.string D] from rfl) (Reps.one (show Kd.M Kd.string _ _ _ E [.string E] from rfl) (Reps.none _ _))))
 intro aw w9 Z hb hg_ hnew_
 clear hg_ hnew_
 (first|rw[←ag.out] at Z|(simp only[Int.reduceToNat] at Z;rw[←ag.out] at Z))
 have J:=zaa.mk (Kd.R_lower Z (zaA bz))
 replace A:=kN (g:=B) hb bk
 replace HB:=bN bz hb
 clear hb Z
 obtain⟨ak,al,ah⟩:=Kd.R_slice J.out
 (first|subst ah|(injection ah with am ap an;have ar:=am.symm;have au:=an.symm;clear am ap an;subst ar;subst au))
 refine hK.out _ _ (d7 A) (fun hHeld=>?_)
 clear hK K
 refine zaN (a':=?_) ?_ ?_
 rotate_left
 ·show Act.put _ (some 9) _=_
  simp only[Act.put,List.setIfInBounds_toArray,List.set_cons_zero,List.set_cons_succ,zap,zav]
  rfl
 refine oz (i:=7) (N:=some 10) O fun K hK=>?_
 refine zc6 Tryz.func109 (by kernel_rfl) rfl #[.slice ak af.length al] (by rfl) rfl rfl lz ?_
 with_reducible refine(zat.calls _ _ af Y _ ?side1 ?side2 A4.out).mono ?_
 (case side1=>repeat(first|exact(Kd.R_reads' J.out).2.2|(with_reducible refine Kd.C_alloc ?_ _)|(with_reducible refine Kd.C_drewN ?_ _)|(with_reducible refine Kd.C_drew ?_)))
 (case side2=>exact(Kd.R_reads' J.out).2.1)
 rintro e ax ⟨rfl,hb⟩
 refine⟨_,rfl,?_⟩
 replace J:=zaa.mk (Kd.R_below (by(with_reducible repeat(first|apply Kd.R_alloc|apply Kd.R_drewN|apply Kd.R_drew));exact J.out) hb)
 replace A:=kN (g:=B) hb bk
 replace HB:=bN bz hb
 (try clear hb)
 (try clear aj)
 (try clear hk)
 (try clear hi)
 refine hK.out _ _ (d7 A) (fun hHeld=>?_)
 clear hK K
 refine zaN (a':=?_) ?_ ?_
 rotate_left
 ·show Act.put _ (some 10) _=_
  simp only[Act.put,List.setIfInBounds_toArray,List.set_cons_zero,List.set_cons_succ,zap,zav]
  rfl
 refine pz (i:=8) (N:=2) O ?_
 refine dz O ?_
 try go_wp2
 go_ret
 exact⟨ez,bz⟩
def zaV.f(a0:Int):Option (ByteArray):=(zaY.f a0 16).bind fun A=>((strings_Repeat.f (⟨#[48]⟩:ByteArray) (wrap64 (16-(A.size:Int)))).bind fun B=>(if B.size+A.size≤9223372036854775807 then(some (B++A)) else(none)))
theorem zaV.calls(a0:Int)(r:ByteArray)(w:World)(h:zaV.f a0=some r):
  Calls Tryz.prog 113 #[.int .u64 a0] w fun e w'=>e= .returned (.string r)∧Below w.heap.size w w':=by
 have HB:=zaa.mk (Below.refl w.heap.size w)
 have H:((zaY.f a0 16).bind fun A=>((strings_Repeat.f (⟨#[48]⟩:ByteArray) (wrap64 (16-(A.size:Int)))).bind fun B=>(if B.size+A.size≤9223372036854775807 then(some (B++A)) else(none))))=some r:=h
 clear h
 replace H:=bs H
 obtain⟨A,A2,H⟩:=H
 replace H:=bs H
 obtain⟨B,A3,H⟩:=H
 by_cases c4:B.size+A.size≤9223372036854775807
 case neg=>
  replace H:=hN H c4
  exact absurd H (by simp)
 replace H:=hE H c4
 have E:=eq_true c4
 have I:=decide_eq_true c4
 have J:=eq_false (Nat.not_lt.2 c4)
 obtain rfl:=Option.some.inj H
 have hw_:wrap64 (16-(A.size:Int))=16-(A.size:Int):=by unfold wrap64;omega
 have A_:=A3.out
 clear A3
 rw[hw_] at A_
 clear hw_
 have A3:=zaa.mk A_
 clear A_
 go_enter Tryz.func113,Tryz.ntmps113
 go_wp2_with (first|((with_reducible refine zac (f:=110) rfl ?_);refine gB Tryz.func110 (zaY.calls a0 16 A _ A2.out) ?_;intro w5 hb;replace HB:=bN bz hb;(try clear hb);(try clear D);(try clear hk);(try clear hi))|((with_reducible refine zac (f:=46) rfl ?_);refine gB Tryz.func46 (strings_Repeat.calls (⟨#[48]⟩:ByteArray) (16-(A.size:Int)) B _ A3.out) ?_;intro w6 hb;replace HB:=bN bz hb;(try clear hb);(try clear D);(try clear hk);(try clear hi)))
 go_ret
 exact⟨ez,bz⟩
def zbo.f(a0:Int)(a1:Int):Option (ByteArray):=(strings_Repeat.f (strOfNums (([a0]:List Int))) (mx 0 (mn a1 1000))).bind fun A=>(some A)
theorem zbo.calls(a0:Int)(a1:Int)(r:ByteArray)(w:World)(h:zbo.f a0 a1=some r):
  Calls Tryz.prog 27 #[.int .u8 a0,.int .i64 a1] w fun e w'=>e= .returned (.string r)∧Below w.heap.size w w':=by
 have HB:=zaa.mk (Below.refl w.heap.size w)
 have H:((strings_Repeat.f (strOfNums (([a0]:List Int))) (mx 0 (mn a1 1000))).bind fun D=>(some D))=some r:=h
 clear h
 obtain⟨Y,A⟩: ∃y_:List Int,y_=(([a0]:List Int)):=⟨_,rfl⟩
 replace H:((strings_Repeat.f (strOfNums Y) (mx 0 (mn a1 1000))).bind fun D=>(some D))=some r:=by first|(rw[A];with_reducible exact H)|(have Z:=(Option.bind_some _ _).symm.trans H;rw[A];with_reducible exact Z)|(have Z:=(Option.bind_some _ _).symm.trans H;with_reducible exact Z)|with_reducible exact H|(rw[A];exact H)|exact H
 have K:=zaa.mk A
 clear A
 obtain⟨J,E⟩:=ex (mn a1 1000)
 (first|rw[E] at H|simp only[E] at H)
 (try(have ab:J≤1000:=by(rw[←E];unfold mn;(repeat' split)<;>omega)))
 (try(have ac:J≤64:=by omega))
 have ad:(if 1000<a1 then 1000 else a1)=J:=E
 obtain⟨aa,I⟩:=ex (mx 0 (J))
 (first|rw[I] at H|simp only[I] at H)
 have ae:(if 0<(J) then(J) else 0)=aa:=I
 replace H:=bs H
 obtain⟨D,A5,H⟩:=H
 obtain rfl:=Option.some.inj H
 go_enter Tryz.func27,Tryz.ntmps27
 go_wp2_with (first|((with_reducible refine zah (N:=6) rfl ?_);refine Kd.R_lit (Kd.int .u8) _ 5 ?hg (N:=6) ?hd (xs:=([a0]:List Int)) (inner:=[.int .u8 a0]) (ok:=fun _=>True) (okp:=fun _=>True) ?hr ?hp (fun _ hk=>hk) trivial (Below.refl _ _) (Nat.le_refl _) (by simp) ?_;(case hd=>rfl);(case hg=>rfl);(case hr=>first|(go_simp;done)|(go_simp;rfl));(case hp=>exact(Reps.one (show Kd.M (Kd.int .u8) _ _ _ a0 [.int .u8 a0] from rfl) (Reps.none _ _)));intro af w6 O hb hg_ hnew_;clear hg_ hnew_;(first|rw[←K.out] at O|(simp only[Int.reduceToNat] at O;rw[←K.out] at O));have U:=zaa.mk (Kd.R_lower O (zaA bz));have X:=bN bz hb;clear HB;have B:=U;have HB:=X;clear U X;clear hb O;have ag:=zc4 (P:=Tryz.prog) Tryz.underlying51 Tryz.underlying5 Tryz.underlying9 (Kd.own_of_R B.out))|((with_reducible refine zac (f:=46) rfl ?_);refine gB Tryz.func46 (strings_Repeat.calls (strOfNums Y) aa D _ A5.out) ?_ (hargs:=by(try simp only[List.map_toArray,List.map_cons,List.map_nil]);first|done|(simp only[I];rfl)|rfl|(simp only[List.length_drop,List.length_take];rfl));intro w9 hb;have U:=zaa.mk (Kd.R_below (by(with_reducible repeat(first|apply Kd.R_alloc|apply Kd.R_drewN|apply Kd.R_drew));exact B.out) hb);have X:=bN bz hb;clear B;clear HB;have B:=U;have HB:=X;clear U X;(try clear hb);(try clear ah);(try clear hk);(try clear hi)))
 go_ret
 exact⟨by first|exact ez|(simp only[←E,←I];exact ez),bz⟩
end
end Go.Proofs.YtecpgdfnamkfdaaGreatDoor.Fn
end
section
namespace Go.Proofs.YtecpgdfnamkfdaaGreatDoor.Fn
open Go.RowKit Go.Proofs.YtecpgdfnamkfdaaGreatDoorW.PrintWords
set_option linter.unusedVariables false
def zbL.f(s:ByteArray):Option Int:=if s.size≤1000000∧s.data.toList.all (fun b=>b.toNat<128)=true then some (s.size:Int) else none
theorem zf1(w:World)(s:ByteArray)(pos:Nat):Below w.heap.size w (w.iter s pos):=(Below.refl _ _).alloc (Nat.le_refl _) _
set_option maxHeartbeats 4000000 in
theorem zbL.calls(a0:ByteArray)(r:Int)(w:World)(h:zbL.f a0=some r):
    Calls Tryz.prog 71 #[.string a0] w fun e w'=>e= .returned (.int .i64 r)∧Below w.heap.size w w':=by
  unfold zbL.f at h
  split at h
  case isFalse=>cases h
  rename_i hc
  obtain rfl:=Option.some.inj h
  clear h
  have hn:=hc.1
  have HA:=zaa.mk hc.2
  clear hc
  have A:=Tryz.underlying9
  go_enter Tryz.func71,Tryz.ntmps71
  go_wp2
  go_loopw [3] (fun n wr=> ∃k:Nat,k≤a0.size∧n= .int .i64 k∧wr=w.iter a0 k) (fun n _=>a0.size-(intOf n).toNat)
  case atStart=>exact⟨0,Nat.zero_le _,rfl,rfl⟩
  case round=>
    obtain⟨k,hk,rfl,rfl⟩:=hrel
    by_cases hlt:k<a0.size
    · have ha:(a0[k]'hlt).toNat<128:=by
        have:=List.all_eq_true.1 HA.out (a0[k]'hlt) (by show a0.data[k]∈a0.data.toList;exact Array.getElem_mem_toList _)
        simpa using this
      have hnx:=fun ty=>run_next_ascii (P:=Tryz.prog) w a0 k ty hlt ha
      go_wp2
      go_roundw
      case rel=>exact⟨k+1,by omega,by go_num,rfl⟩
      case measure=>simp[intOf];omega
    · obtain rfl:k=a0.size:=by omega
      have hnx:=fun ty=>run_next_end (P:=Tryz.prog) w a0 a0.size ty (Nat.lt_irrefl _)
      go_wp2
      go_ret
      exact⟨rfl,zf1 w a0 _⟩
end Go.Proofs.YtecpgdfnamkfdaaGreatDoor.Fn
end
section
namespace Go.Proofs.YtecpgdfnamkfdaaGreatDoor.Fn
open Go.RowKit Go.Proofs.YtecpgdfnamkfdaaGreatDoorW.PrintWords Go.Proofs.YtecpgdfnamkfdaaGreatDoorW.PrintLast Go.Proofs.YtecpgdfnamkfdaaGreatDoorW.PrintMore
set_option linter.unusedVariables false
set_option linter.unusedSimpArgs false
set_option maxHeartbeats 8000000
set_option maxRecDepth 100000
section
attribute [local go_sem] fnW_0 fnW_1 fnW_2 fnW_3 fnW_4 fnW_5 fnW_guard fnW_eql zaF zaG zaK zaL
def zbp.f(a0:ByteArray)(M:Bool)(J:Bool)(O:Bool)(U:Bool)(K:Bool)(A:Int)(X:Int)(Y:Int):Option (ByteArray):=(zbL.f a0).bind fun B=>(if(wrap64 ((mx 0 (mn A 1000))-B))≤0 then(some a0) else(if J=true then((zbo.f 32 (wrap64 ((mx 0 (mn A 1000))-B))).bind fun D=>(if a0.size+D.size≤9223372036854775807 then(some (a0++D)) else(none))) else(if K=true then((zbo.f 48 (wrap64 ((mx 0 (mn A 1000))-B))).bind fun E=>(if E.size+a0.size≤9223372036854775807 then(some (E++a0)) else(none))) else((zbo.f 32 (wrap64 ((mx 0 (mn A 1000))-B))).bind fun I=>(if I.size+a0.size≤9223372036854775807 then(some (I++a0)) else(none))))))
def zbp.T1:Bool×List (List Nat×List Nat):=(true,[([],[]),([0],[0]),([1],[1]),([2],[2]),([],[]),([4],[4]),([3,5],[3,5]),([6,5,0,1,2,3,4,5,6],[6])])
def zbp.B1:List Nat:=[0,1,3,7,0,16,63,127]
theorem zbp.tab1:rtab .any (opsOf Tryz.f45 1)=zbp.T1:=by kernel_rfl
theorem zbp.bits1:waitsOk zbp.T1.2 zbp.B1=true:=by kernel_rfl
theorem zbp.calls(a0:ByteArray)(J:Bool)(aa:Bool)(M:Bool)(O:Bool)(U:Bool)(D:Int)(X:Int)(Y:Int)(r:ByteArray)(w:World)(h:zbp.f a0 J aa M O U D X Y=some r):
  Calls Tryz.prog 45 #[.string a0,.agg #[.bool J,.bool aa,.bool M,.bool O,.bool U,.int .i64 D,.int .i64 X,.int .i32 Y]] w fun e w'=>e= .returned (.string r)∧Below w.heap.size w w':=by
 have bC:=Tryz.underlying26
 have HB:=zaa.mk (Below.refl w.heap.size w)
 have H:((zbL.f a0).bind fun E=>(if(wrap64 ((mx 0 (mn D 1000))-E))≤0 then(some a0) else(if aa=true then((zbo.f 32 (wrap64 ((mx 0 (mn D 1000))-E))).bind fun ae=>(if a0.size+ae.size≤9223372036854775807 then(some (a0++ae)) else(none))) else(if U=true then((zbo.f 48 (wrap64 ((mx 0 (mn D 1000))-E))).bind fun af=>(if af.size+a0.size≤9223372036854775807 then(some (af++a0)) else(none))) else((zbo.f 32 (wrap64 ((mx 0 (mn D 1000))-E))).bind fun ac=>(if ac.size+a0.size≤9223372036854775807 then(some (ac++a0)) else(none)))))))=some r:=h
 clear h
 obtain⟨ag,Z⟩:=ex (mn D 1000)
 (first|rw[Z] at H|simp only[Z] at H)
 (try(have bf:ag≤1000:=by(rw[←Z];unfold mn;(repeat' split)<;>omega)))
 (try(have bg:ag≤64:=by omega))
 have bh:(if 1000<D then 1000 else D)=ag:=Z
 obtain⟨ah,I⟩:=ex (mx 0 (ag))
 (first|rw[I] at H|simp only[I] at H)
 have bi:(if 0<(ag) then(ag) else 0)=ah:=I
 replace H:=bs H
 obtain⟨E,A5,H⟩:=H
 go_enter Tryz.func45,Tryz.ntmps45
 try go_wp2_with (first|((with_reducible refine zah (N:=3) rfl ?_);refine zag rfl (N:=3) rfl (cs:=#[.bool J,.bool aa,.bool M,.bool O,.bool U,.int .i64 D,.int .i64 X,.int .i32 Y]) (t:=26) gz ?_;intro B hg w6 hbox hb;have bj:=gN bz hg;have A:=zaa.mk hbox;replace HB:=bN bz hb;clear hb hbox hg))
 replace A:=zaa.mk (zao A.out)
 replace HB:=zaa.mk (zaM HB.out)
 refine zbc (n:=8) (S:=fun w'=>w'.cell? ⟨B,0,none⟩=some (.bool J)∧w'.cell? ⟨B,1,none⟩=some (.bool aa)∧w'.cell? ⟨B,2,none⟩=some (.bool M)∧w'.cell? ⟨B,3,none⟩=some (.bool O)∧w'.cell? ⟨B,4,none⟩=some (.bool U)∧w'.cell? ⟨B,5,none⟩=some (.int .i64 D)∧w'.cell? ⟨B,6,none⟩=some (.int .i64 X)∧w'.cell? ⟨B,7,none⟩=some (.int .i32 Y)) (ds:=[]) #[false,false,false,false,false,false,false,false] (by kernel_rfl) rfl rfl ⟨(zab A.out 0).trans rfl,(zab A.out 1).trans rfl,(zab A.out 2).trans rfl,(zab A.out 3).trans rfl,(zab A.out 4).trans rfl,(zab A.out 5).trans rfl,(zab A.out 6).trans rfl,(zab A.out 7).trans rfl⟩ (fun hHeld=>?_);refine za3 zbp.tab1 zbp.bits1 (fun ab HW_=>?_)
 generalize w6.drew=w7 at A HB hHeld ⊢
 refine pz (i:=0) (N:=6) ab ?_
 refine pz (i:=4) (N:=10) ab ?_
 refine tz (i:=1) (N:=7) rfl ab HW_ hHeld (by(rintro w' ⟨s0,s1,s2,s3,s4,s5,s6,s7⟩;go_simp;with_reducible rfl)) ?_
 refine pz (i:=2) (N:=8) ab ?_
 refine pz (i:=3) (N:=9) ab ?_
 refine oz (i:=5) (N:=some 11) ab fun K hK=>?_
 refine gG Tryz.func71 (zbL.calls a0 E _ A5.out) ?_
 intro w8 hb
 replace A:=kN (g:=B) (cs:=#[.bool J,.bool aa,.bool M,.bool O,.bool U,.int .i64 D,.int .i64 X,.int .i32 Y]) hb bk
 replace HB:=bN bz hb
 (try clear hb)
 (try clear al)
 (try clear hk)
 (try clear hi)
 refine hK.out _ _ (d8 A) (fun hHeld=>?_)
 clear hK K
 refine zaN (a':=?_) ?_ ?_
 rotate_left
 ·show Act.put _ (some 11) _=_
  simp only[Act.put,List.setIfInBounds_toArray,List.set_cons_zero,List.set_cons_succ,zap,zav]
  rfl
 refine pz (i:=6) (N:=12) ab ?_
 refine pz (i:=7) (N:=5) ab ?_
 refine dz ab ?_
 go_upto_if 13 with(fail)
 by_cases c9:(wrap64 ((ah)-E))≤0
 ·replace H:=hE H c9
  have ad:=decide_eq_true c9
  clear c9
  (first|rw[ad]|(simp only[zap,zav];rw[ad])|skip)
  obtain rfl:=Option.some.inj H
  go_wp2
  go_ret
  exact⟨by first|exact ez|(simp only[←Z,←I];exact ez),bz⟩
 replace H:=hN H c9
 have ad:=decide_eq_false c9
 clear c9
 (first|rw[ad]|(simp only[zap,zav];rw[ad])|skip)
 by_cases aj:aa=true
 ·subst aj
  replace H:=hT H
  replace H:=bs H
  obtain⟨ae,bl,H⟩:=H
  obtain⟨am,H⟩:=hG H
  have bm:=eq_true am
  have bn:=decide_eq_true am
  have bo:=eq_false (Nat.not_lt.2 am)
  obtain rfl:=Option.some.inj H
  obtain⟨ao,ap,ar,au,av,aw,ax,ay,az,aA,aB,aC,aD,aE,aF,aG⟩:=cz8 (W:=w8) A
  go_wp2_with (first|((with_reducible refine zac (f:=27) rfl ?_);refine gB Tryz.func27 (zbo.calls 32 (wrap64 ((ah)-E)) ae _ bl.out) ?_ (hargs:=by(try simp only[List.map_toArray,List.map_cons,List.map_nil]);first|done|(simp only[I];rfl)|rfl|(simp only[List.length_drop,List.length_take];rfl));intro bD hb;replace A:=kN (g:=B) (cs:=#[.bool J,.bool true,.bool M,.bool O,.bool U,.int .i64 D,.int .i64 X,.int .i32 Y]) hb bk;replace HB:=bN bz hb;(try clear hb);(try clear al);(try clear hk);(try clear hi)))
  go_ret
  exact⟨by first|exact ez|(simp only[←Z,←I];exact ez),bz⟩
 replace aj:=Bool.eq_false_iff.mpr aj
 subst aj
 replace H:=hF H
 by_cases ak:U=true
 ·subst ak
  replace H:=hT H
  replace H:=bs H
  obtain⟨af,bp,H⟩:=H
  obtain⟨an,H⟩:=hG H
  have bq:=eq_true an
  have br:=decide_eq_true an
  have bu:=eq_false (Nat.not_lt.2 an)
  obtain rfl:=Option.some.inj H
  obtain⟨aH,aI,aJ,aK,aL,aM,aN,aO,aP,aQ,aR,aS,aT,aU,aV,aW⟩:=cz8 (W:=w8) A
  go_wp2_with (first|((with_reducible refine zac (f:=27) rfl ?_);refine gB Tryz.func27 (zbo.calls 48 (wrap64 ((ah)-E)) af _ bp.out) ?_ (hargs:=by(try simp only[List.map_toArray,List.map_cons,List.map_nil]);first|done|(simp only[I];rfl)|rfl|(simp only[List.length_drop,List.length_take];rfl));intro bE hb;replace A:=kN (g:=B) (cs:=#[.bool J,.bool false,.bool M,.bool O,.bool true,.int .i64 D,.int .i64 X,.int .i32 Y]) hb bk;replace HB:=bN bz hb;(try clear hb);(try clear al);(try clear hk);(try clear hi)))
  go_ret
  exact⟨by first|exact ez|(simp only[←Z,←I];exact ez),bz⟩
 replace ak:=Bool.eq_false_iff.mpr ak
 subst ak
 replace H:=hF H
 replace H:=bs H
 obtain⟨ac,bv,H⟩:=H
 by_cases ai:ac.size+a0.size≤9223372036854775807
 ·replace H:=hE H ai
  have bw:=eq_true ai
  have bA:=decide_eq_true ai
  have bB:=eq_false (Nat.not_lt.2 ai)
  obtain rfl:=Option.some.inj H
  obtain⟨aX,aY,aZ,a1,a2,a3,a4,a5,a6,a7,a8,a9,ba,bb,bd,be⟩:=cz8 (W:=w8) A
  go_wp2_with (first|((with_reducible refine zac (f:=27) rfl ?_);refine gB Tryz.func27 (zbo.calls 32 (wrap64 ((ah)-E)) ac _ bv.out) ?_ (hargs:=by(try simp only[List.map_toArray,List.map_cons,List.map_nil]);first|done|(simp only[I];rfl)|rfl|(simp only[List.length_drop,List.length_take];rfl));intro bG hb;replace A:=kN (g:=B) (cs:=#[.bool J,.bool false,.bool M,.bool O,.bool false,.int .i64 D,.int .i64 X,.int .i32 Y]) hb bk;replace HB:=bN bz hb;(try clear hb);(try clear al);(try clear hk);(try clear hi)))
  go_ret
  exact⟨by first|exact ez|(simp only[←Z,←I];exact ez),bz⟩
 replace H:=hN H ai
 exact absurd H (by simp)
end
end Go.Proofs.YtecpgdfnamkfdaaGreatDoor.Fn
end
section
namespace Go.Proofs.YtecpgdfnamkfdaaGreatDoor.Pure
set_option linter.unusedVariables false
def fM(f p:Nat):Nat:=if p / 2^f=0 then p%2^f else p%2^f+2^f
def fE(f p:Nat):Nat:=p / 2^f-1
def fW(f p:Nat):Nat:=fM f p*2^fE f p
theorem zbU(n:Nat):0<2^n:=Nat.pow_pos (by omega)
theorem zf2(f p:Nat):fM f p<2^(f+1):=by
  have h:=Nat.mod_lt p (zbU f)
  unfold fM
  rw[Nat.pow_succ]
  split<;>omega
theorem fParts(f k m:Nat)(h1:m<2^(f+1))(h2:2^f≤m∨k=0):fM f (k*2^f+m)=m∧fE f (k*2^f+m)=k:=by
  have hp:=zbU f
  rw[Nat.pow_succ] at h1
  unfold fM fE
  by_cases c:2^f≤m
  · have e:k*2^f+m=(m-2^f)+2^f*(k+1):=by rw[Nat.mul_add,Nat.mul_one,Nat.mul_comm (2^f) k];omega
    rw[e,Nat.add_mul_div_left _ _ hp,Nat.add_mul_mod_self_left,Nat.div_eq_of_lt (by omega),Nat.mod_eq_of_lt (by omega)]
    rw[if_neg (by omega)]
    omega
  · have hk:k=0:=h2.resolve_left c
    subst hk
    rw[Nat.zero_mul,Nat.zero_add,Nat.div_eq_of_lt (by omega),Nat.mod_eq_of_lt (by omega),if_pos rfl]
    exact⟨rfl,rfl⟩
theorem fOf(f p:Nat):p=fE f p*2^f+fM f p∧(2^f≤fM f p∨fE f p=0):=by
  have hp:=zbU f
  have hd:=Nat.div_add_mod p (2^f)
  unfold fM fE
  by_cases c:p / 2^f=0
  · rw[if_pos c,c,Nat.zero_sub,Nat.zero_mul,Nat.zero_add]
    rw[c,Nat.mul_zero,Nat.zero_add] at hd
    exact⟨hd.symm,.inr rfl⟩
  · rw[if_neg c]
    obtain⟨j,hj⟩:=Nat.exists_eq_succ_of_ne_zero c
    rw[Nat.succ_eq_add_one] at hj
    rw[hj] at hd ⊢
    rw[Nat.mul_add,Nat.mul_one,Nat.mul_comm (2^f) j] at hd
    rw[Nat.add_sub_cancel]
    omega
theorem zhL{f k m:Nat}(h1:m≤2^(f+1))(h2:2^f≤m∨k=0):fW f (k*2^f+m)=m*2^k:=by
  by_cases c:m<2^(f+1)
  · obtain⟨e1,e2⟩:=fParts f k m c h2
    unfold fW
    rw[e1,e2]
  · have hm:m=2^(f+1):=by omega
    have e:k*2^f+m=(k+1)*2^f+2^f:=by rw[hm,Nat.pow_succ,Nat.add_mul];omega
    obtain⟨e1,e2⟩:=fParts f (k+1) (2^f) (by rw[Nat.pow_succ];have:=zbU f;omega) (.inl (Nat.le_refl _))
    unfold fW
    rw[e,e1,e2,hm,Nat.pow_succ,Nat.pow_succ,Nat.mul_assoc,Nat.mul_comm 2]
theorem zdD(f p:Nat):fW f (p+1)=fW f p+2^fE f p:=by
  obtain⟨e1,e2⟩:=fOf f p
  have hlt:=zf2 f p
  have e3:p+1=fE f p*2^f+(fM f p+1):=by omega
  rw[e3,zhL (by omega) (e2.imp (fun h=>by omega) id)]
  unfold fW
  rw[Nat.add_mul,Nat.one_mul]
theorem zf3{f p q:Nat}(h:p<q):fW f p<fW f q:=by
  obtain⟨d,rfl⟩: ∃d,q=p+1+d:=⟨q-(p+1),by omega⟩
  clear h
  induction d with
  |zero=>rw[Nat.add_zero,zdD];have:=zbU (fE f p);omega
  |succ d ih=>rw[←Nat.add_assoc,zdD];have:=zbU (fE f (p+1+d));omega
theorem zf4{f p q:Nat}(h:p≤q):fW f p≤fW f q:=by
  rcases Nat.lt_or_eq_of_le h with h|rfl
  · exact Nat.le_of_lt (zf3 h)
  · exact Nat.le_refl _
theorem zid(f:Nat):fW f 0=0:=by
  have:=zhL (f:=f) (k:=0) (m:=0) (Nat.zero_le _) (.inr rfl)
  rw[Nat.zero_mul,Nat.zero_add,Nat.zero_mul] at this
  exact this
def fFloor(f inf X B p:Nat):Prop:=p≤inf∧fW f p*B≤X∧(p<inf→X<fW f (p+1)*B)
theorem zec{f inf X B p q:Nat}(hB:0<B)(h1:fFloor f inf X B p)(h2:fFloor f inf X B q):p=q:=by
  obtain⟨a1,a2,a3⟩:=h1
  obtain⟨b1,b2,b3⟩:=h2
  have key: ∀p q:Nat,p<q→q≤inf→fW f q*B≤X→(p<inf→X<fW f (p+1)*B)→False:=by
    intro p q hpq hq h1 h2
    have h3:=h2 (by omega)
    have h4:fW f (p+1)*B≤fW f q*B:=Nat.mul_le_mul_right _ (zf4 hpq)
    omega
  rcases Nat.lt_trichotomy p q with h|h|h
  · exact(key p q h b1 b2 a3).elim
  · exact h
  · exact(key q p h a1 a2 b3).elim
def fUp(f X B p:Nat):Prop:=(fW f p+fW f (p+1))*B<2*X∨((fW f p+fW f (p+1))*B=2*X∧p%2=1)
instance (f X B p : Nat) : Decidable (fUp f X B p) := by unfold fUp; infer_instance
def fNear(f inf X B p:Nat):Nat:=if p=inf then inf else if fUp f X B p then p+1 else p
def fFind(f X B:Nat):Nat→Nat→Nat
  |0,lo=>lo
  |n+1,lo=>if fW f (lo+2^n)*B≤X then fFind f X B n (lo+2^n) else fFind f X B n lo
theorem zda(f X B:Nat): ∀n lo,fW f lo*B≤X→fW f (fFind f X B n lo)*B≤X∧(X<fW f (lo+2^n)*B→X<fW f (fFind f X B n lo+1)*B)∧lo≤fFind f X B n lo∧fFind f X B n lo<lo+2^n
  |0,lo,h=>⟨h,fun h=>h,Nat.le_refl _,by simp[fFind]⟩
  |n+1,lo,h=>by
    unfold fFind
    have hp:=zbU n
    by_cases c:fW f (lo+2^n)*B≤X
    · rw[if_pos c]
      obtain⟨a,b,d,e⟩:=zda f X B n (lo+2^n) c
      refine⟨a,fun h2=>b ?_,by omega,by rw[Nat.pow_succ];omega⟩
      rw[show lo+2^n+2^n=lo+2^(n+1) by rw[Nat.pow_succ];omega]
      exact h2
    · rw[if_neg c]
      obtain⟨a,b,d,e⟩:=zda f X B n lo h
      exact⟨a,fun _=>b (by omega),d,by rw[Nat.pow_succ];omega⟩
end Go.Proofs.YtecpgdfnamkfdaaGreatDoor.Pure
end
section
namespace Go.Proofs.YtecpgdfnamkfdaaGreatDoor.Fn
open Go.RowKit Go.Proofs.YtecpgdfnamkfdaaGreatDoorW.PrintWords Go.Proofs.YtecpgdfnamkfdaaGreatDoorW.PrintLast Go.Proofs.YtecpgdfnamkfdaaGreatDoorW.PrintMore
set_option linter.unusedVariables false
set_option linter.unusedSimpArgs false
set_option maxHeartbeats 8000000
set_option maxRecDepth 100000
section
attribute [local go_sem] fnW_0 fnW_1 fnW_2 fnW_3 fnW_4 fnW_5 fnW_guard fnW_eql zaF zaG zaK zaL
def zbI.f(a0:Int):Option (Int×Int×Int×Bool):=if a0=32 then(some (23,(-149),2139095040,true)) else(if a0=64 then(some (52,(-1074),9218868437227405312,true)) else(some (0,0,0,false)))
theorem zbI.calls(a0:Int)(r1:Int)(r2:Int)(r3:Int)(r4:Bool)(w:World)(h:zbI.f a0=some (r1,r2,r3,r4)):
  Calls Tryz.prog 42 #[.int .i64 a0] w fun e w'=>e= .returned (.tuple #[.agg #[.int .i64 r1,.int .i64 r2,.int .u64 r3],.bool r4])∧Below w.heap.size w w':=by
 have am:=Tryz.underlying66
 have HB:=zaa.mk (Below.refl w.heap.size w)
 have H:(if a0=32 then(some (23,(-149),2139095040,true)) else(if a0=64 then(some (52,(-1074),9218868437227405312,true)) else(some (0,0,0,false))))=some (r1,r2,r3,r4):=h
 clear h
 go_enter Tryz.func42,Tryz.ntmps42
 go_upto_if 5 with(first|((with_reducible refine zah (N:=2) rfl ?_);refine zag rfl (N:=2) rfl (cs:=#[.int .i64 0,.int .i64 0,.int .u64 0]) (t:=66) gz ?_;intro A hg w2 hbox hb;have al:=gN bz hg;have B:=zaa.mk hbox;replace HB:=bN bz hb;clear hb hbox hg))
 (try simp only[Act.put,List.setIfInBounds_toArray,List.set_cons_zero,List.set_cons_succ])
 by_cases c3:a0=32
 ·replace H:=hE H c3
  obtain⟨D,E⟩:=eT c3
  clear c3
  try first|rw[D]|rw[E]
  simp only[Option.some.injEq,Prod.mk.injEq] at H
  obtain⟨rfl,rfl,rfl,rfl⟩:=H
  obtain⟨K,M,O,U,X,Y⟩:=cz3 (W:=w2) B
  go_wp2
  refine bodyPost_ret (zaC rfl _ _ A 66 #[.int .i64 23,.int .i64 (-149),.int .u64 2139095040] (0,0) _ rfl bk Tryz.underlying66 rfl (by kernel_rfl)) rfl ?_
  exact⟨ez,bz⟩
 replace H:=hN H c3
 obtain⟨D,E⟩:=eF c3
 try first|rw[D]|rw[E]
 by_cases c5:a0=64
 ·replace H:=hE H c5
  obtain⟨I,J⟩:=eT c5
  clear c5
  simp only[Option.some.injEq,Prod.mk.injEq] at H
  obtain⟨rfl,rfl,rfl,rfl⟩:=H
  obtain⟨Z,aa,ab,ac,ad,ae⟩:=cz3 (W:=w2) B
  go_wp2
  refine bodyPost_ret (zaC rfl _ _ A 66 #[.int .i64 52,.int .i64 (-1074),.int .u64 9218868437227405312] (0,0) _ rfl bk Tryz.underlying66 rfl (by kernel_rfl)) rfl ?_
  exact⟨ez,bz⟩
 replace H:=hN H c5
 obtain⟨I,J⟩:=eF c5
 simp only[Option.some.injEq,Prod.mk.injEq] at H
 obtain⟨rfl,rfl,rfl,rfl⟩:=H
 obtain⟨af,ag,ah,ai,aj,ak⟩:=cz3 (W:=w2) B
 go_wp2
 refine bodyPost_ret (zaC rfl _ _ A 66 #[.int .i64 0,.int .i64 0,.int .u64 0] (0,0) _ rfl bk Tryz.underlying66 rfl (by kernel_rfl)) rfl ?_
 exact⟨ez,bz⟩
def zaT.f(A:Int)(B:Int)(D:Int)(a1:Int):Option (Int×Int):=if 0≤A then(if(wrap64 (shr .u64 a1 A))=0 then(some (Go.bits .and .u64 a1 (IntKind.u64.wrap ((shl .u64 1 A)-1)),B)) else(some (Go.bits .or .u64 (Go.bits .and .u64 a1 (IntKind.u64.wrap ((shl .u64 1 A)-1))) (shl .u64 1 A),wrap64 ((wrap64 (B+(wrap64 (shr .u64 a1 A))))-1)))) else(none)
theorem zaT.calls(A:Int)(E:Int)(K:Int)(a1:Int)(r1:Int)(r2:Int)(w:World)(h:zaT.f A E K a1=some (r1,r2)):
  Calls Tryz.prog 43 #[.agg #[.int .i64 A,.int .i64 E,.int .u64 K],.int .u64 a1] w fun e w'=>e= .returned (.tuple #[.int .u64 r1,.int .i64 r2])∧Below w.heap.size w w':=by
 have aG:=Tryz.underlying66
 have HB:=zaa.mk (Below.refl w.heap.size w)
 have H:(if 0≤A then(if(wrap64 (shr .u64 a1 A))=0 then(some (Go.bits .and .u64 a1 (IntKind.u64.wrap ((shl .u64 1 A)-1)),E)) else(some (Go.bits .or .u64 (Go.bits .and .u64 a1 (IntKind.u64.wrap ((shl .u64 1 A)-1))) (shl .u64 1 A),wrap64 ((wrap64 (E+(wrap64 (shr .u64 a1 A))))-1)))) else(none))=some (r1,r2):=h
 clear h
 by_cases c3:0≤A
 case neg=>
  replace H:=hN H c3
  exact absurd H (by simp)
 obtain⟨aH,aI,H⟩:=hE3 H c3
 clear c3
 obtain⟨aj,I⟩:=ex (shr .u64 a1 A)
 (first|rw[I] at H|simp only[I] at H)
 have aB:(a1 / 2^min A.toNat 64)=aj:=I
 have aC:A≤64→(a1 / 2^A.toNat)=aj:=zcQ I
 have aJ:=eq_true (of_decide_eq_true (by first|(with_reducible assumption)|assumption):0≤A)
 obtain⟨ai,J⟩:=ex (shl .u64 1 A)
 (first|rw[J] at H|simp only[J] at H)
 have ak:(IntKind.u64.wrap (1*2^min A.toNat 64))=ai:=J
 have al:A≤64→(IntKind.u64.wrap (1*2^A.toNat))=ai:=zbA J
 have aD:(IntKind.u64.wrap (2^min A.toNat 64))=ai:=by have h_:=ak;rw[Int.one_mul] at h_;exact h_
 have aE:A≤64→(IntKind.u64.wrap (2^A.toNat))=ai:=fun hle_=>by have h_:=al hle_;rw[Int.one_mul] at h_;exact h_
 go_enter Tryz.func43,Tryz.ntmps43
 go_upto_if 20 with(first|((with_reducible refine zah (N:=2) rfl ?_);refine zag rfl (N:=2) rfl (cs:=#[.int .i64 A,.int .i64 E,.int .u64 K]) (t:=66) gz ?_;intro D hg w7 hbox hb;have ab:=gN bz hg;have ac:=gN bz hg;have B:=zaa.mk hbox;replace HB:=bN bz hb;clear hb hbox hg;obtain⟨O,U,X,Y,Z,aa⟩:=cz3 (W:=w7) B))
 repeat(go_quiet (first|((with_reducible refine zah (N:=2) rfl ?_);refine zag rfl (N:=2) rfl (cs:=#[.int .i64 A,.int .i64 E,.int .u64 K]) (t:=66) gz ?_;intro D hg w7 hbox hb;have ad:=bN bz hb;have ae:=zaa.mk (hbox);have af:=zaa.mk ((by rw[hg];exact(zaA bz):w.heap.size≤D));have ag:=zaa.mk ((by rw[hg];exact(zaA bz):w.heap.size≤D));clear HB;have HB:=ad;have B:=ae;have ab:=af;have ac:=ag;clear ad ae af ag;clear hb hbox hg;obtain⟨O,U,X,Y,Z,aa⟩:=cz3 (W:=w7) B));go_upto_if 20 with(first|((with_reducible refine zah (N:=2) rfl ?_);refine zag rfl (N:=2) rfl (cs:=#[.int .i64 A,.int .i64 E,.int .u64 K]) (t:=66) gz ?_;intro D hg w7 hbox hb;have ad:=bN bz hb;have ae:=zaa.mk (hbox);have af:=zaa.mk ((by rw[hg];exact(zaA bz):w.heap.size≤D));have ag:=zaa.mk ((by rw[hg];exact(zaA bz):w.heap.size≤D));clear HB;have HB:=ad;have B:=ae;have ab:=af;have ac:=ag;clear ad ae af ag;clear hb hbox hg;obtain⟨O,U,X,Y,Z,aa⟩:=cz3 (W:=w7) B)))
 (try simp only[Act.put,List.setIfInBounds_toArray,List.set_cons_zero,List.set_cons_succ])
 by_cases c9:(wrap64 (aj))=0
 ·replace H:=hE H c9
  obtain⟨M,ah⟩:=eT c9
  clear c9
  (first|rw[M]|rw[ah]|(simp only[zap,zav];rw[M])|skip)
  simp only[Option.some.injEq,Prod.mk.injEq] at H
  obtain⟨rfl,rfl⟩:=H
  obtain⟨am,an,ao,ap,ar,au⟩:=cz3 (W:=w7) B
  go_wp2
  repeat(go_quiet (fail);try go_wp2)
  go_ret2
  exact⟨by first|exact ez|(simp only[←I,←J];exact ez),bz⟩
 replace H:=hN H c9
 obtain⟨M,ah⟩:=eF c9
 (first|rw[M]|rw[ah]|(simp only[zap,zav];rw[M])|skip)
 have aF:=eq_true (of_decide_eq_true (by first|(with_reducible assumption)|assumption):0≤A)
 simp only[Option.some.injEq,Prod.mk.injEq] at H
 obtain⟨rfl,rfl⟩:=H
 obtain⟨av,aw,ax,ay,az,aA⟩:=cz3 (W:=w7) B
 go_wp2
 repeat(go_quiet (fail);try go_wp2)
 go_ret2
 exact⟨by first|exact ez|(simp only[←I,←J];exact ez),bz⟩
def zbj.f(a0:Int)(a1:Int):Option (Bool×Int×Int×Int):=(zbI.f a1).bind fun A=>(if A.2.2.2=true then(if 0≤(wrap64 (a1-1)) then(if(Go.bits .and .u64 a0 (IntKind.u64.wrap ((shl .u64 1 (wrap64 (a1-1)))-1)))=A.2.2.1 then(some (((Go.bits .and .u64 (shr .u64 a0 (wrap64 (a1-1))) 1)==1),0,0,1)) else(if(Go.bits .and .u64 a0 (IntKind.u64.wrap ((shl .u64 1 (wrap64 (a1-1)))-1)))>A.2.2.1 then(some (((Go.bits .and .u64 (shr .u64 a0 (wrap64 (a1-1))) 1)==1),0,0,2)) else((zaT.f A.1 A.2.1 A.2.2.1 (Go.bits .and .u64 a0 (IntKind.u64.wrap ((shl .u64 1 (wrap64 (a1-1)))-1)))).bind fun B=>(some (((Go.bits .and .u64 (shr .u64 a0 (wrap64 (a1-1))) 1)==1),B.1,B.2,0))))) else(none)) else(some (false,0,0,3)))
theorem zbj.calls(a0:Int)(a1:Int)(r1:Bool)(r2:Int)(r3:Int)(r4:Int)(w:World)(h:zbj.f a0 a1=some (r1,r2,r3,r4)):
  Calls Tryz.prog 24 #[.int .u64 a0,.int .i64 a1] w fun e w'=>e= .returned (.tuple #[.bool r1,.int .u64 r2,.int .i64 r3,.int .i64 r4])∧Below w.heap.size w w':=by
 have aU:=Tryz.underlying66
 have HB:=zaa.mk (Below.refl w.heap.size w)
 have H:((zbI.f a1).bind fun E=>(if E.2.2.2=true then(if 0≤(wrap64 (a1-1)) then(if(Go.bits .and .u64 a0 (IntKind.u64.wrap ((shl .u64 1 (wrap64 (a1-1)))-1)))=E.2.2.1 then(some (((Go.bits .and .u64 (shr .u64 a0 (wrap64 (a1-1))) 1)==1),0,0,1)) else(if(Go.bits .and .u64 a0 (IntKind.u64.wrap ((shl .u64 1 (wrap64 (a1-1)))-1)))>E.2.2.1 then(some (((Go.bits .and .u64 (shr .u64 a0 (wrap64 (a1-1))) 1)==1),0,0,2)) else((zaT.f E.1 E.2.1 E.2.2.1 (Go.bits .and .u64 a0 (IntKind.u64.wrap ((shl .u64 1 (wrap64 (a1-1)))-1)))).bind fun Y=>(some (((Go.bits .and .u64 (shr .u64 a0 (wrap64 (a1-1))) 1)==1),Y.1,Y.2,0))))) else(none)) else(some (false,0,0,3))))=some (r1,r2,r3,r4):=h
 clear h
 replace H:=bs H
 obtain⟨⟨Z,aa,J,ae⟩,A3,H⟩:=H
 dsimp only at H
 go_enter Tryz.func24,Tryz.ntmps24
 go_upto_if 20 with(first|((with_reducible refine zac (f:=42) rfl ?_);refine gB Tryz.func42 (zbI.calls a1 Z aa J ae _ A3.out) ?_;intro w4 hb;replace HB:=bN bz hb;(try clear hb);(try clear aP);(try clear hk);(try clear hi))|((with_reducible refine zah (N:=8) rfl ?_);refine zag rfl (N:=8) rfl (cs:=#[.int .i64 0,.int .i64 0,.int .u64 0]) (t:=66) gz ?_;intro ag hg w5 hbox hb;have aQ:=gN bz hg;have K:=zaa.mk hbox;replace HB:=bN bz hb;clear hb hbox hg;obtain⟨aF,aG,aH,aI,aJ,aK⟩:=cz3 (W:=w5) K))
 (try simp only[Act.put,List.setIfInBounds_toArray,List.set_cons_zero,List.set_cons_succ])
 by_cases c7:ae=true
 case neg=>
  replace c7:=Bool.eq_false_iff.mpr c7
  subst c7
  replace H:=hF H
  simp only[Option.some.injEq,Prod.mk.injEq] at H
  obtain⟨rfl,rfl,rfl,rfl⟩:=H
  go_wp2
  refine bodyPost_ret (zbJ (rs:=[.tmp 4,.tmp 5,.tmp 6,.tmp 7]) rfl (by simp) (.tmp (.tmp (.tmp (.tmp .nil))))) rfl ?_
  exact⟨ez,bz⟩
 subst c7
 replace H:=hT H
 obtain⟨I,O⟩:=ex (wrap64 (a1-1))
 (first|rw[O] at H|simp only[O] at H)
 have aR:(IntKind.i64.wrap (a1-1))=I:=(zap _).trans O
 obtain⟨aV,aW,H⟩:=hG3 H
 obtain⟨af,B⟩:=ex (shr .u64 a0 (I))
 (first|rw[B] at H|simp only[B] at H)
 have aL:(a0 / 2^min (I).toNat 64)=af:=B
 have aM:(I)≤64→(a0 / 2^(I).toNat)=af:=zcQ B
 have aS:=eq_true (of_decide_eq_true (by first|(with_reducible assumption)|assumption):0≤(I))
 obtain⟨D,A⟩:=ex (shl .u64 1 (I))
 (first|rw[A] at H|simp only[A] at H)
 have ac:(IntKind.u64.wrap (1*2^min (I).toNat 64))=D:=A
 have ad:(I)≤64→(IntKind.u64.wrap (1*2^(I).toNat))=D:=zbA A
 have aN:(IntKind.u64.wrap (2^min (I).toNat 64))=D:=by have h_:=ac;rw[Int.one_mul] at h_;exact h_
 have aO:(I)≤64→(IntKind.u64.wrap (2^(I).toNat))=D:=fun hle_=>by have h_:=ad hle_;rw[Int.one_mul] at h_;exact h_
 by_cases ab:(Go.bits .and .u64 a0 (IntKind.u64.wrap ((D)-1)))=J
 ·replace H:=hE H ab
  obtain⟨M,U⟩:=eT ab
  clear ab
  (first|rw[M]|rw[U]|(simp only[zap,zav];rw[M])|skip)
  simp only[Option.some.injEq,Prod.mk.injEq] at H
  obtain⟨rfl,rfl,rfl,rfl⟩:=H
  obtain⟨ai,aj,ak,al,am,an⟩:=cz3 (W:=w5) K
  go_wp2
  refine bodyPost_ret (zbJ (rs:=[.tmp 4,.tmp 5,.tmp 6,.tmp 7]) rfl (by simp) (.tmp (.tmp (.tmp (.tmp .nil))))) rfl ?_
  exact⟨by first|exact ez|(simp only[←O,←B,←A];exact ez),bz⟩
 replace H:=hN H ab
 obtain⟨M,U⟩:=eF ab
 (first|rw[M]|rw[U]|(simp only[zap,zav];rw[M])|skip)
 by_cases X:(Go.bits .and .u64 a0 (IntKind.u64.wrap ((D)-1)))>J
 ·replace H:=hE H X
  have ah:decide (J<(Go.bits .and .u64 a0 (IntKind.u64.wrap ((D)-1))))=true:=decide_eq_true X
  clear X
  simp only[Option.some.injEq,Prod.mk.injEq] at H
  obtain⟨rfl,rfl,rfl,rfl⟩:=H
  obtain⟨ao,ap,ar,au,av,aw⟩:=cz3 (W:=w5) K
  go_wp2
  refine bodyPost_ret (zbJ (rs:=[.tmp 4,.tmp 5,.tmp 6,.tmp 7]) rfl (by simp) (.tmp (.tmp (.tmp (.tmp .nil))))) rfl ?_
  exact⟨by first|exact ez|(simp only[←O,←B,←A];exact ez),bz⟩
 replace H:=hN H X
 have ah:decide (J<(Go.bits .and .u64 a0 (IntKind.u64.wrap ((D)-1))))=false:=decide_eq_false X
 clear X
 replace H:=bs H
 obtain⟨⟨ax,ay⟩,aT,H⟩:=H
 dsimp only at H
 simp only[Option.some.injEq,Prod.mk.injEq] at H
 obtain⟨rfl,rfl,rfl,rfl⟩:=H
 obtain⟨az,aA,aB,aC,aD,aE⟩:=cz3 (W:=w5) K
 go_wp2_with (first|((with_reducible refine zac (f:=43) rfl ?_);refine gB Tryz.func43 (zaT.calls Z aa J (Go.bits .and .u64 a0 (IntKind.u64.wrap ((D)-1))) ax ay _ aT.out) ?_ (hargs:=by(try simp only[List.map_toArray,List.map_cons,List.map_nil]);first|done|(simp only[A];rfl)|rfl|(simp only[List.length_drop,List.length_take];rfl));intro aX hb;replace K:=kN (g:=ag) (cs:=#[.int .i64 Z,.int .i64 aa,.int .u64 J]) hb bk;replace HB:=bN bz hb;(try clear hb);(try clear aP);(try clear hk);(try clear hi)))
 refine bodyPost_ret (zbJ (rs:=[.tmp 4,.tmp 5,.tmp 6,.tmp 7]) rfl (by simp) (.tmp (.tmp (.tmp (.tmp .nil))))) rfl ?_
 exact⟨by first|exact ez|(simp only[←O,←B,←A];exact ez),bz⟩
end
end Go.Proofs.YtecpgdfnamkfdaaGreatDoor.Fn
end
section
namespace Go.Proofs.YtecpgdfnamkfdaaGreatDoor.Pure
open Go.RowKit Go.Proofs.YtecpgdfnamkfdaaGreatDoor.Fn Go.Proofs.YtecpgdfnamkfdaaGreatDoorW.PrintWords
set_option linter.unusedVariables false
set_option linter.unusedSimpArgs false
def szB(wide:Bool):Int:=if wide then 64 else 32
def ff(wide:Bool):Nat:=if wide then 52 else 23
def ll(wide:Bool):Nat:=if wide then 1074 else 149
def ii(wide:Bool):Nat:=if wide then 9218868437227405312 else 2139095040
def tt(wide:Bool):Nat:=if wide then 9223372036854775808 else 2147483648
theorem zgz(wide:Bool):zbI.f (szB wide)=some ((ff wide:Int),-(ll wide:Int),(ii wide:Int),true):=by
  cases wide<;>simp[zbI.f,szB,ff,ll,ii]
theorem zcK(j p:Nat)(hj:j≤64)(hp:p<18446744073709551616):Go.bits .and .u64 (p:Int) ((2^j-1:Nat):Int)=((p%2^j:Nat):Int):=by
  have h2:2^j≤2^64:=Nat.pow_le_pow_right (by omega) hj
  have hpos:0<2^j:=Nat.pow_pos (by omega)
  have e:(2:Nat)^64=18446744073709551616:=by decide
  rw[u64_and_nat _ _ hp (by omega),Nat.and_two_pow_sub_one_eq_mod]
theorem ziX(j x:Nat)(hj:j≤63)(hx:x<2^j):Go.bits .or .u64 (x:Int) ((2^j:Nat):Int)=((x+2^j:Nat):Int):=by
  have h2:2^j≤2^63:=Nat.pow_le_pow_right (by omega) hj
  have e:(2:Nat)^63=9223372036854775808:=by decide
  rw[u64_or_nat _ _ (by omega) (by omega),Nat.or_comm]
  have:=Nat.two_pow_add_eq_or_of_lt hx 1
  rw[Nat.mul_one] at this
  rw[←this,Nat.add_comm]
theorem zhM(wide:Bool):ff wide≤52:=by cases wide<;>simp[ff]
theorem zed(p j:Nat)(hj:j≤64):shr .u64 (p:Int) (j:Int)=((p / 2^j:Nat):Int):=by
  unfold shr
  rw[Int.toNat_natCast,show min j (IntKind.u64.bits)=j from Nat.min_eq_left (by simpa [IntKind.bits] using hj)]
  simp
theorem zer(j:Nat)(hj:j≤63):shl .u64 1 (j:Int)=((2^j:Nat):Int):=by
  have h2:2^j≤2^63:=Nat.pow_le_pow_right (by omega) hj
  have e:(2:Nat)^63=9223372036854775808:=by decide
  unfold shl
  rw[Int.toNat_natCast,show min j (IntKind.u64.bits)=j from Nat.min_eq_left (by simp[IntKind.bits];omega),Int.one_mul]
  rw[show((2:Int)^j)=((2^j:Nat):Int) by simp]
  generalize 2^j=P at*
  exact zcv (by omega) (by omega)
theorem zdb(j:Nat)(hj:j≤63):IntKind.u64.wrap (shl .u64 1 (j:Int)-1)=((2^j-1:Nat):Int):=by
  have hpos:0<2^j:=Nat.pow_pos (by omega)
  have h2:2^j≤2^63:=Nat.pow_le_pow_right (by omega) hj
  have e:(2:Nat)^63=9223372036854775808:=by decide
  rw[zer j hj]
  generalize 2^j=P at*
  rw[zcv (x:=(P:Int)-1) (by omega) (by omega)]
  omega
theorem zdR(wide:Bool)(p:Nat)(hp:p<9223372036854775808):
    zaT.f (ff wide:Int) (-(ll wide:Int)) (ii wide:Int) (p:Int)=some ((fM (ff wide) p:Int),(fE (ff wide) p:Int)-(ll wide:Int)):=by
  have hf:=zhM wide
  have hl:ll wide≤1074:=by cases wide<;>simp[ll]
  unfold zaT.f
  rw[if_pos (by omega),zed p _ (by omega),zdb _ (by omega),zcK _ _ (by omega) (by omega),zer _ (by omega)]
  have hd:p / 2^ff wide≤p:=Nat.div_le_self _ _
  unfold fM fE
  have hpos:0<2^ff wide:=Nat.pow_pos (by omega)
  have hm:=Nat.mod_lt p hpos
  by_cases c:p / 2^ff wide=0
  · rw[if_pos c,c,if_pos (by simp[wrap64])]
    congr 2
    omega
  · rw[if_neg c,ziX _ _ (by omega) hm]
    generalize p / 2^ff wide=q at*
    rw[if_neg (by rw[zaP (by omega) (by omega)];omega),zaP (x:=(q:Int)) (by omega) (by omega),zaP (x:= -(ll wide:Int)+(q:Int)) (by omega) (by omega),zaP (by omega) (by omega)]
    congr 2
    omega
def bareN(wide:Bool)(a:Nat):Nat:=a%tt wide
def partsS(wide:Bool)(a:Nat):Bool×Int×Int×Int:=
  ((a / tt wide%2==1:Bool),if bareN wide a<ii wide then((fM (ff wide) (bareN wide a):Int),(fE (ff wide) (bareN wide a):Int)-(ll wide:Int),0) else(0,0,if bareN wide a=ii wide then 1 else 2))
theorem zfb(wide:Bool): ∃j:Nat,j≤63∧tt wide=2^j∧wrap64 (szB wide-1)=(j:Int):=by
  cases wide
  · exact⟨31,by omega,by decide,by simp[szB,wrap64]⟩
  · exact⟨63,by omega,by decide,by simp[szB,wrap64]⟩
theorem zee(wide:Bool):0<tt wide∧tt wide≤9223372036854775808:=by cases wide<;>simp[tt]
theorem zdc(wide:Bool):0<ii wide∧ii wide<tt wide∧ii wide≤9218868437227405312:=by cases wide<;>simp[ii,tt]
theorem ziY(wide:Bool)(x:Nat):(((x%2:Nat):Int)==1)=(x%2==1:Bool):=by
  rw[Bool.eq_iff_iff]
  simp
  omega
theorem parts_eq(wide:Bool)(a:Nat)(ha:a<18446744073709551616):zbj.f (a:Int) (szB wide)=some (partsS wide a):=by
  obtain⟨j,hj,ht,hw⟩:=zfb wide
  have hmt:=Nat.mod_lt a (zee wide).1
  have htt:=(zee wide).2
  unfold zbj.f
  rw[zgz]
  simp only[Option.bind_some]
  rw[if_pos trivial,hw,if_pos (by omega),zdb _ hj,zcK _ _ (by omega) ha,←ht,zed _ _ (by omega),←ht]
  rw[show(1:Int)=((2^1-1:Nat):Int) from rfl,zcK _ _ (by omega) (Nat.lt_of_le_of_lt (Nat.div_le_self _ _) ha),zdR wide _ (by omega)]
  simp only[Option.bind_some]
  unfold partsS bareN
  rw[show(((2^1-1:Nat)):Int)=1 from rfl,show(2:Nat)^1=2 from rfl,ziY wide]
  generalize a%tt wide=p at*
  by_cases c1:p=ii wide
  · rw[if_pos (by omega),if_neg (by omega),if_pos c1]
  · rw[if_neg (by omega)]
    by_cases c2:p<ii wide
    · rw[if_neg (by omega),if_pos c2]
    · rw[if_pos (by omega),if_neg c2,if_neg c1]
theorem u64N(x:Nat)(h:x≤18446744073709551615):IntKind.u64.wrap (x:Int)=(x:Int):=zcv (by omega) (by omega)
theorem tdivN(a b:Nat):Int.tdiv (a:Int) (b:Int)=((a / b:Nat):Int):=by rw[zc0 (by omega)];simp
theorem tmodN(a b:Nat):Int.tmod (a:Int) (b:Int)=((a%b:Nat):Int):=by rw[zcZ (by omega)];simp
theorem zf5(wide:Bool):ll wide≤1074:=by cases wide<;>simp[ll]
end Go.Proofs.YtecpgdfnamkfdaaGreatDoor.Pure
end
section
namespace Go.Proofs.YtecpgdfnamkfdaaGreatDoor.Fn
open Go.RowKit Go.Proofs.YtecpgdfnamkfdaaGreatDoorW.PrintWords Go.Proofs.YtecpgdfnamkfdaaGreatDoorW.PrintLast Go.Proofs.YtecpgdfnamkfdaaGreatDoorW.PrintMore
set_option linter.unusedVariables false
set_option linter.unusedSimpArgs false
set_option maxHeartbeats 8000000
set_option maxRecDepth 100000
section
attribute [local go_sem] fnW_0 fnW_1 fnW_2 fnW_3 fnW_4 fnW_5 fnW_guard fnW_eql zaF zaG zaK zaL
def zaZ.f(k:Nat)(B:ByteArray)(D:Int)(E:ByteArray)(I:Int):Option (Int):=(zbQ.f k B D E I).bind fun A=>(some A.1)
theorem zaZ.calls(k:Nat)(B:ByteArray)(D:Int)(E:ByteArray)(I:Int)(r:Int)(w:World)(h:zaZ.f k B D E I=some r):
  Calls Tryz.prog 53 #[.agg #[.string B,.int .i64 D],.agg #[.string E,.int .i64 I]] w fun e w'=>e= .returned (.int .i64 r)∧Below w.heap.size w w':=by
 have ak:=Tryz.underlying42
 have HB:=zaa.mk (Below.refl w.heap.size w)
 have H:((zbQ.f k B D E I).bind fun U=>(some U.1))=some r:=h
 clear h
 replace H:=bs H
 obtain⟨⟨Y,Z⟩,A3,H⟩:=H
 dsimp only at H
 obtain rfl:=Option.some.inj H
 go_enter Tryz.func53,Tryz.ntmps53
 go_wp2_with (first|((with_reducible refine zah (N:=2) rfl ?_);refine zag rfl (N:=2) rfl (cs:=#[.string B,.int .i64 D]) (t:=42) gz ?_;intro A hg w4 hbox hb;have ai:=gN bz hg;have J:=zaa.mk hbox;replace HB:=bN bz hb;clear hb hbox hg)|((with_reducible refine zah (N:=3) rfl ?_);refine zag rfl (N:=3) rfl (cs:=#[.string E,.int .i64 I]) (t:=42) gz ?_;intro X hg w5 hbox hb;have aj:=gN bz hg;have K:=lN (g:=A) hg bk;have M:=rN (g:=A) hg bk;replace J:=kN (g:=A) hb bk;have O:=zaa.mk hbox;replace HB:=bN bz hb;clear hb hbox hg;have al:=K.out;have am:=M.out;obtain⟨aa,ab,ac,ad⟩:=cz2 (W:=w5) J;obtain⟨ae,af,ag,ah⟩:=cz2 (W:=w5) O)|((with_reducible refine zac (f:=82) rfl ?_);refine gB Tryz.func82 (zbQ.calls k B D E I Y Z _ A3.out) ?_;intro w9 hb;replace J:=kN (g:=A) hb bk;replace O:=kN (g:=X) hb bk;replace HB:=bN bz hb;(try clear hb);(try clear an);(try clear hk);(try clear hi)))
 go_ret
 exact⟨ez,bz⟩
def zay.f(k:Nat)(J:ByteArray)(K:Int)(M:ByteArray)(O:Int)(D:Bool)(E:ByteArray)(I:Int):Option (Bool):=(zaZ.f k E I J K).bind fun A=>((zaZ.f k E I M O).bind fun B=>(if A>0 then(if B<0 then(some true) else(if D=true then(if A≥0 then(some (decide (B≤0))) else(some false)) else(some false))) else(if D=true then(if A≥0 then(some (decide (B≤0))) else(some false)) else(some false))))
def zay.T1:Bool×List (List Nat×List Nat):=(true,[([],[]),([],[]),([1],[1]),([0,2],[0,2]),([],[]),([],[]),([5],[5]),([4,6,3],[4,6]),([3,7,0,1,2,3],[3]),([7,8,0,1,2,3,4,5,6,7,8],[7])])
def zay.B1:List Nat:=[0,0,2,7,0,0,32,127,255,511]
theorem zay.tab1:rtab .any (opsOf Tryz.f56 1)=zay.T1:=by kernel_rfl
theorem zay.bits1:waitsOk zay.T1.2 zay.B1=true:=by kernel_rfl
theorem zay.calls(k:Nat)(E:ByteArray)(I:Int)(J:ByteArray)(M:Int)(ac:Bool)(Z:ByteArray)(aa:Int)(r:Bool)(w:World)(h:zay.f k E I J M ac Z aa=some r):
  Calls Tryz.prog 56 #[.agg #[.string E,.int .i64 I,.string J,.int .i64 M,.bool ac],.agg #[.string Z,.int .i64 aa]] w fun e w'=>e= .returned (.bool r)∧Below w.heap.size w w':=by
 have b1:=Tryz.underlying88
 have b2:=Tryz.underlying42
 have HB:=zaa.mk (Below.refl w.heap.size w)
 have H:((zaZ.f k Z aa E I).bind fun ab=>((zaZ.f k Z aa J M).bind fun ad=>(if ab>0 then(if ad<0 then(some true) else(if ac=true then(if ab≥0 then(some (decide (ad≤0))) else(some false)) else(some false))) else(if ac=true then(if ab≥0 then(some (decide (ad≤0))) else(some false)) else(some false)))))=some r:=h
 clear h
 replace H:=bs H
 obtain⟨ab,A3,H⟩:=H
 replace H:=bs H
 obtain⟨ad,A4,H⟩:=H
 by_cases c5:ab>0
 case neg=>
  replace H:=hN H c5
  have ap:decide (0<ab)=false:=decide_eq_false c5
  clear c5
  by_cases am:ac=true
  case neg=>
   replace am:=Bool.eq_false_iff.mpr am
   subst am
   replace H:=hF H
   obtain rfl:=Option.some.inj H
   go_enter Tryz.func56,Tryz.ntmps56
   try go_wp2_with (first|((with_reducible refine zah (N:=2) rfl ?_);refine zag rfl (N:=2) rfl (cs:=#[.string E,.int .i64 I,.string J,.int .i64 M,.bool false]) (t:=88) gz ?_;intro D hg cn hbox hb;have ae:=gN bz hg;have af:=gN bz hg;have A:=zaa.mk hbox;replace HB:=bN bz hb;clear hb hbox hg)|((with_reducible refine zah (N:=3) rfl ?_);refine zag rfl (N:=3) rfl (cs:=#[.string Z,.int .i64 aa]) (t:=42) gz ?_;intro U hg bX hbox hb;have ag:=gN bz hg;have ah:=gN bz hg;have X:=lN (g:=D) (cs:=#[.string E,.int .i64 I,.string J,.int .i64 M,.bool false]) hg bk;have Y:=rN (g:=D) (cs:=#[.string E,.int .i64 I,.string J,.int .i64 M,.bool false]) hg bk;replace A:=kN (g:=D) (cs:=#[.string E,.int .i64 I,.string J,.int .i64 M,.bool false]) hb bk;have B:=zaa.mk hbox;replace HB:=bN bz hb;clear hb hbox hg))
   replace A:=zaa.mk (zao A.out)
   replace B:=zaa.mk (zao B.out)
   replace HB:=zaa.mk (zaM HB.out)
   refine zbc (n:=10) (S:=fun w'=>w'.cell? ⟨U,0,none⟩=some (.string Z)∧w'.cell? ⟨U,1,none⟩=some (.int .i64 aa)∧w'.cell? ⟨D,0,none⟩=some (.string E)∧w'.cell? ⟨D,1,none⟩=some (.int .i64 I)∧w'.cell? ⟨D,2,none⟩=some (.string J)∧w'.cell? ⟨D,3,none⟩=some (.int .i64 M)∧w'.cell? ⟨D,4,none⟩=some (.bool false)) (ds:=[]) #[false,false,false,false,false,false,false,false,false,false] (by kernel_rfl) rfl rfl ⟨(zab B.out 0).trans rfl,(zab B.out 1).trans rfl,(zab A.out 0).trans rfl,(zab A.out 1).trans rfl,(zab A.out 2).trans rfl,(zab A.out 3).trans rfl,(zab A.out 4).trans rfl⟩ (fun hHeld=>?_);refine za3 zay.tab1 zay.bits1 (fun O HW_=>?_)
   generalize bX.drew=co at A B HB hHeld ⊢
   refine pz (i:=1) (N:=8) O ?_
   refine pz (i:=5) (N:=12) O ?_
   refine tz (i:=0) (N:=7) rfl O HW_ hHeld (by(rintro w' ⟨s0,s1,s2,s3,s4,s5,s6⟩;go_simp;with_reducible rfl)) ?_
   refine tz (i:=2) (N:=9) rfl O HW_ hHeld (by(rintro w' ⟨s0,s1,s2,s3,s4,s5,s6⟩;go_simp;with_reducible rfl)) ?_
   refine tz (i:=4) (N:=11) rfl O HW_ hHeld (by(rintro w' ⟨s0,s1,s2,s3,s4,s5,s6⟩;go_simp;with_reducible rfl)) ?_
   refine tz (i:=6) (N:=13) rfl O HW_ hHeld (by(rintro w' ⟨s0,s1,s2,s3,s4,s5,s6⟩;go_simp;with_reducible rfl)) ?_
   refine oz (i:=3) (N:=some 10) O fun K hK=>?_
   refine gG Tryz.func53 (zaZ.calls k Z aa E I ab _ A3.out) ?_
   intro cp hb
   replace A:=kN (g:=D) (cs:=#[.string E,.int .i64 I,.string J,.int .i64 M,.bool false]) hb bk
   replace B:=kN (g:=U) hb bk
   replace HB:=bN bz hb
   (try clear hb)
   (try clear ai)
   (try clear hk)
   (try clear hi)
   refine hK.out _ _ ⟨bc B 0,bc B 1,bc A 0,bc A 1,bc A 2,bc A 3,bc A 4⟩ (fun hHeld=>?_)
   clear hK K
   refine zaN (a':=?_) ?_ ?_
   rotate_left
   ·show Act.put _ (some 10) _=_
    simp only[Act.put,List.setIfInBounds_toArray,List.set_cons_zero,List.set_cons_succ,zap,zav]
    rfl
   refine oz (i:=7) (N:=some 14) O fun K hK=>?_
   refine gG Tryz.func53 (zaZ.calls k Z aa J M ad _ A4.out) ?_
   intro bY hb
   replace A:=kN (g:=D) (cs:=#[.string E,.int .i64 I,.string J,.int .i64 M,.bool false]) hb bk
   replace B:=kN (g:=U) hb bk
   replace HB:=bN bz hb
   (try clear hb)
   (try clear ai)
   (try clear hk)
   (try clear hi)
   refine hK.out _ _ ⟨bc B 0,bc B 1,bc A 0,bc A 1,bc A 2,bc A 3,bc A 4⟩ (fun hHeld=>?_)
   clear hK K
   refine zaN (a':=?_) ?_ ?_
   rotate_left
   ·show Act.put _ (some 14) _=_
    simp only[Act.put,List.setIfInBounds_toArray,List.set_cons_zero,List.set_cons_succ,zap,zav]
    rfl
   refine pz (i:=8) (N:=5) O ?_
   refine pz (i:=9) (N:=6) O ?_
   refine dz O ?_
   have bZ:=X.out
   have b0:=Y.out
   obtain⟨bl,bm,bn,bo,bp,bq,br,bu,bv,bw⟩:=cz5 (W:=bY) A
   try go_wp2
   go_ret
   exact⟨ez,bz⟩
  subst am
  replace H:=hT H
  by_cases ak:ab≥0
  ·replace H:=hE H ak
   have ao:decide (0≤ab)=true:=decide_eq_true ak
   clear ak
   obtain rfl:=Option.some.inj H
   go_enter Tryz.func56,Tryz.ntmps56
   try go_wp2_with (first|((with_reducible refine zah (N:=2) rfl ?_);refine zag rfl (N:=2) rfl (cs:=#[.string E,.int .i64 I,.string J,.int .i64 M,.bool true]) (t:=88) gz ?_;intro D hg cf hbox hb;have ae:=gN bz hg;have af:=gN bz hg;have A:=zaa.mk hbox;replace HB:=bN bz hb;clear hb hbox hg)|((with_reducible refine zah (N:=3) rfl ?_);refine zag rfl (N:=3) rfl (cs:=#[.string Z,.int .i64 aa]) (t:=42) gz ?_;intro U hg bO hbox hb;have ag:=gN bz hg;have ah:=gN bz hg;have X:=lN (g:=D) (cs:=#[.string E,.int .i64 I,.string J,.int .i64 M,.bool true]) hg bk;have Y:=rN (g:=D) (cs:=#[.string E,.int .i64 I,.string J,.int .i64 M,.bool true]) hg bk;replace A:=kN (g:=D) (cs:=#[.string E,.int .i64 I,.string J,.int .i64 M,.bool true]) hb bk;have B:=zaa.mk hbox;replace HB:=bN bz hb;clear hb hbox hg))
   replace A:=zaa.mk (zao A.out)
   replace B:=zaa.mk (zao B.out)
   replace HB:=zaa.mk (zaM HB.out)
   refine zbc (n:=10) (S:=fun w'=>w'.cell? ⟨U,0,none⟩=some (.string Z)∧w'.cell? ⟨U,1,none⟩=some (.int .i64 aa)∧w'.cell? ⟨D,0,none⟩=some (.string E)∧w'.cell? ⟨D,1,none⟩=some (.int .i64 I)∧w'.cell? ⟨D,2,none⟩=some (.string J)∧w'.cell? ⟨D,3,none⟩=some (.int .i64 M)∧w'.cell? ⟨D,4,none⟩=some (.bool true)) (ds:=[]) #[false,false,false,false,false,false,false,false,false,false] (by kernel_rfl) rfl rfl ⟨(zab B.out 0).trans rfl,(zab B.out 1).trans rfl,(zab A.out 0).trans rfl,(zab A.out 1).trans rfl,(zab A.out 2).trans rfl,(zab A.out 3).trans rfl,(zab A.out 4).trans rfl⟩ (fun hHeld=>?_);refine za3 zay.tab1 zay.bits1 (fun O HW_=>?_)
   generalize bO.drew=cg at A B HB hHeld ⊢
   refine pz (i:=1) (N:=8) O ?_
   refine pz (i:=5) (N:=12) O ?_
   refine tz (i:=0) (N:=7) rfl O HW_ hHeld (by(rintro w' ⟨s0,s1,s2,s3,s4,s5,s6⟩;go_simp;with_reducible rfl)) ?_
   refine tz (i:=2) (N:=9) rfl O HW_ hHeld (by(rintro w' ⟨s0,s1,s2,s3,s4,s5,s6⟩;go_simp;with_reducible rfl)) ?_
   refine tz (i:=4) (N:=11) rfl O HW_ hHeld (by(rintro w' ⟨s0,s1,s2,s3,s4,s5,s6⟩;go_simp;with_reducible rfl)) ?_
   refine tz (i:=6) (N:=13) rfl O HW_ hHeld (by(rintro w' ⟨s0,s1,s2,s3,s4,s5,s6⟩;go_simp;with_reducible rfl)) ?_
   refine oz (i:=3) (N:=some 10) O fun K hK=>?_
   refine gG Tryz.func53 (zaZ.calls k Z aa E I ab _ A3.out) ?_
   intro ci hb
   replace A:=kN (g:=D) (cs:=#[.string E,.int .i64 I,.string J,.int .i64 M,.bool true]) hb bk
   replace B:=kN (g:=U) hb bk
   replace HB:=bN bz hb
   (try clear hb)
   (try clear ai)
   (try clear hk)
   (try clear hi)
   refine hK.out _ _ ⟨bc B 0,bc B 1,bc A 0,bc A 1,bc A 2,bc A 3,bc A 4⟩ (fun hHeld=>?_)
   clear hK K
   refine zaN (a':=?_) ?_ ?_
   rotate_left
   ·show Act.put _ (some 10) _=_
    simp only[Act.put,List.setIfInBounds_toArray,List.set_cons_zero,List.set_cons_succ,zap,zav]
    rfl
   refine oz (i:=7) (N:=some 14) O fun K hK=>?_
   refine gG Tryz.func53 (zaZ.calls k Z aa J M ad _ A4.out) ?_
   intro bP hb
   replace A:=kN (g:=D) (cs:=#[.string E,.int .i64 I,.string J,.int .i64 M,.bool true]) hb bk
   replace B:=kN (g:=U) hb bk
   replace HB:=bN bz hb
   (try clear hb)
   (try clear ai)
   (try clear hk)
   (try clear hi)
   refine hK.out _ _ ⟨bc B 0,bc B 1,bc A 0,bc A 1,bc A 2,bc A 3,bc A 4⟩ (fun hHeld=>?_)
   clear hK K
   refine zaN (a':=?_) ?_ ?_
   rotate_left
   ·show Act.put _ (some 14) _=_
    simp only[Act.put,List.setIfInBounds_toArray,List.set_cons_zero,List.set_cons_succ,zap,zav]
    rfl
   refine pz (i:=8) (N:=5) O ?_
   refine pz (i:=9) (N:=6) O ?_
   refine dz O ?_
   have bQ:=X.out
   have bR:=Y.out
   obtain⟨aY,aZ,a1,a2,a3,a4,a5,a6,a7,a8⟩:=cz5 (W:=bP) A
   try go_wp2
   go_ret
   exact⟨ez,bz⟩
  replace H:=hN H ak
  have ao:decide (0≤ab)=false:=decide_eq_false ak
  clear ak
  obtain rfl:=Option.some.inj H
  go_enter Tryz.func56,Tryz.ntmps56
  try go_wp2_with (first|((with_reducible refine zah (N:=2) rfl ?_);refine zag rfl (N:=2) rfl (cs:=#[.string E,.int .i64 I,.string J,.int .i64 M,.bool true]) (t:=88) gz ?_;intro D hg cj hbox hb;have ae:=gN bz hg;have af:=gN bz hg;have A:=zaa.mk hbox;replace HB:=bN bz hb;clear hb hbox hg)|((with_reducible refine zah (N:=3) rfl ?_);refine zag rfl (N:=3) rfl (cs:=#[.string Z,.int .i64 aa]) (t:=42) gz ?_;intro U hg bS hbox hb;have ag:=gN bz hg;have ah:=gN bz hg;have X:=lN (g:=D) (cs:=#[.string E,.int .i64 I,.string J,.int .i64 M,.bool true]) hg bk;have Y:=rN (g:=D) (cs:=#[.string E,.int .i64 I,.string J,.int .i64 M,.bool true]) hg bk;replace A:=kN (g:=D) (cs:=#[.string E,.int .i64 I,.string J,.int .i64 M,.bool true]) hb bk;have B:=zaa.mk hbox;replace HB:=bN bz hb;clear hb hbox hg))
  replace A:=zaa.mk (zao A.out)
  replace B:=zaa.mk (zao B.out)
  replace HB:=zaa.mk (zaM HB.out)
  refine zbc (n:=10) (S:=fun w'=>w'.cell? ⟨U,0,none⟩=some (.string Z)∧w'.cell? ⟨U,1,none⟩=some (.int .i64 aa)∧w'.cell? ⟨D,0,none⟩=some (.string E)∧w'.cell? ⟨D,1,none⟩=some (.int .i64 I)∧w'.cell? ⟨D,2,none⟩=some (.string J)∧w'.cell? ⟨D,3,none⟩=some (.int .i64 M)∧w'.cell? ⟨D,4,none⟩=some (.bool true)) (ds:=[]) #[false,false,false,false,false,false,false,false,false,false] (by kernel_rfl) rfl rfl ⟨(zab B.out 0).trans rfl,(zab B.out 1).trans rfl,(zab A.out 0).trans rfl,(zab A.out 1).trans rfl,(zab A.out 2).trans rfl,(zab A.out 3).trans rfl,(zab A.out 4).trans rfl⟩ (fun hHeld=>?_);refine za3 zay.tab1 zay.bits1 (fun O HW_=>?_)
  generalize bS.drew=ck at A B HB hHeld ⊢
  refine pz (i:=1) (N:=8) O ?_
  refine pz (i:=5) (N:=12) O ?_
  refine tz (i:=0) (N:=7) rfl O HW_ hHeld (by(rintro w' ⟨s0,s1,s2,s3,s4,s5,s6⟩;go_simp;with_reducible rfl)) ?_
  refine tz (i:=2) (N:=9) rfl O HW_ hHeld (by(rintro w' ⟨s0,s1,s2,s3,s4,s5,s6⟩;go_simp;with_reducible rfl)) ?_
  refine tz (i:=4) (N:=11) rfl O HW_ hHeld (by(rintro w' ⟨s0,s1,s2,s3,s4,s5,s6⟩;go_simp;with_reducible rfl)) ?_
  refine tz (i:=6) (N:=13) rfl O HW_ hHeld (by(rintro w' ⟨s0,s1,s2,s3,s4,s5,s6⟩;go_simp;with_reducible rfl)) ?_
  refine oz (i:=3) (N:=some 10) O fun K hK=>?_
  refine gG Tryz.func53 (zaZ.calls k Z aa E I ab _ A3.out) ?_
  intro cm hb
  replace A:=kN (g:=D) (cs:=#[.string E,.int .i64 I,.string J,.int .i64 M,.bool true]) hb bk
  replace B:=kN (g:=U) hb bk
  replace HB:=bN bz hb
  (try clear hb)
  (try clear ai)
  (try clear hk)
  (try clear hi)
  refine hK.out _ _ ⟨bc B 0,bc B 1,bc A 0,bc A 1,bc A 2,bc A 3,bc A 4⟩ (fun hHeld=>?_)
  clear hK K
  refine zaN (a':=?_) ?_ ?_
  rotate_left
  ·show Act.put _ (some 10) _=_
   simp only[Act.put,List.setIfInBounds_toArray,List.set_cons_zero,List.set_cons_succ,zap,zav]
   rfl
  refine oz (i:=7) (N:=some 14) O fun K hK=>?_
  refine gG Tryz.func53 (zaZ.calls k Z aa J M ad _ A4.out) ?_
  intro bU hb
  replace A:=kN (g:=D) (cs:=#[.string E,.int .i64 I,.string J,.int .i64 M,.bool true]) hb bk
  replace B:=kN (g:=U) hb bk
  replace HB:=bN bz hb
  (try clear hb)
  (try clear ai)
  (try clear hk)
  (try clear hi)
  refine hK.out _ _ ⟨bc B 0,bc B 1,bc A 0,bc A 1,bc A 2,bc A 3,bc A 4⟩ (fun hHeld=>?_)
  clear hK K
  refine zaN (a':=?_) ?_ ?_
  rotate_left
  ·show Act.put _ (some 14) _=_
   simp only[Act.put,List.setIfInBounds_toArray,List.set_cons_zero,List.set_cons_succ,zap,zav]
   rfl
  refine pz (i:=8) (N:=5) O ?_
  refine pz (i:=9) (N:=6) O ?_
  refine dz O ?_
  have bV:=X.out
  have bW:=Y.out
  obtain⟨a9,ba,bb,bd,be,bf,bg,bh,bi,bj⟩:=cz5 (W:=bU) A
  try go_wp2
  go_ret
  exact⟨ez,bz⟩
 replace H:=hE H c5
 have ap:decide (0<ab)=true:=decide_eq_true c5
 clear c5
 by_cases c6:ad<0
 ·replace H:=hE H c6
  have ar:=decide_eq_true c6
  clear c6
  obtain rfl:=Option.some.inj H
  go_enter Tryz.func56,Tryz.ntmps56
  try go_wp2_with (first|((with_reducible refine zah (N:=2) rfl ?_);refine zag rfl (N:=2) rfl (cs:=#[.string E,.int .i64 I,.string J,.int .i64 M,.bool ac]) (t:=88) gz ?_;intro D hg w7 hbox hb;have ae:=gN bz hg;have af:=gN bz hg;have A:=zaa.mk hbox;replace HB:=bN bz hb;clear hb hbox hg)|((with_reducible refine zah (N:=3) rfl ?_);refine zag rfl (N:=3) rfl (cs:=#[.string Z,.int .i64 aa]) (t:=42) gz ?_;intro U hg w8 hbox hb;have ag:=gN bz hg;have ah:=gN bz hg;have X:=lN (g:=D) (cs:=#[.string E,.int .i64 I,.string J,.int .i64 M,.bool ac]) hg bk;have Y:=rN (g:=D) (cs:=#[.string E,.int .i64 I,.string J,.int .i64 M,.bool ac]) hg bk;replace A:=kN (g:=D) (cs:=#[.string E,.int .i64 I,.string J,.int .i64 M,.bool ac]) hb bk;have B:=zaa.mk hbox;replace HB:=bN bz hb;clear hb hbox hg))
  replace A:=zaa.mk (zao A.out)
  replace B:=zaa.mk (zao B.out)
  replace HB:=zaa.mk (zaM HB.out)
  refine zbc (n:=10) (S:=fun w'=>w'.cell? ⟨U,0,none⟩=some (.string Z)∧w'.cell? ⟨U,1,none⟩=some (.int .i64 aa)∧w'.cell? ⟨D,0,none⟩=some (.string E)∧w'.cell? ⟨D,1,none⟩=some (.int .i64 I)∧w'.cell? ⟨D,2,none⟩=some (.string J)∧w'.cell? ⟨D,3,none⟩=some (.int .i64 M)∧w'.cell? ⟨D,4,none⟩=some (.bool ac)) (ds:=[]) #[false,false,false,false,false,false,false,false,false,false] (by kernel_rfl) rfl rfl ⟨(zab B.out 0).trans rfl,(zab B.out 1).trans rfl,(zab A.out 0).trans rfl,(zab A.out 1).trans rfl,(zab A.out 2).trans rfl,(zab A.out 3).trans rfl,(zab A.out 4).trans rfl⟩ (fun hHeld=>?_);refine za3 zay.tab1 zay.bits1 (fun O HW_=>?_)
  generalize w8.drew=w9 at A B HB hHeld ⊢
  refine pz (i:=1) (N:=8) O ?_
  refine pz (i:=5) (N:=12) O ?_
  refine tz (i:=0) (N:=7) rfl O HW_ hHeld (by(rintro w' ⟨s0,s1,s2,s3,s4,s5,s6⟩;go_simp;with_reducible rfl)) ?_
  refine tz (i:=2) (N:=9) rfl O HW_ hHeld (by(rintro w' ⟨s0,s1,s2,s3,s4,s5,s6⟩;go_simp;with_reducible rfl)) ?_
  refine tz (i:=4) (N:=11) rfl O HW_ hHeld (by(rintro w' ⟨s0,s1,s2,s3,s4,s5,s6⟩;go_simp;with_reducible rfl)) ?_
  refine tz (i:=6) (N:=13) rfl O HW_ hHeld (by(rintro w' ⟨s0,s1,s2,s3,s4,s5,s6⟩;go_simp;with_reducible rfl)) ?_
  refine oz (i:=3) (N:=some 10) O fun K hK=>?_
  refine gG Tryz.func53 (zaZ.calls k Z aa E I ab _ A3.out) ?_
  intro b3 hb
  replace A:=kN (g:=D) (cs:=#[.string E,.int .i64 I,.string J,.int .i64 M,.bool ac]) hb bk
  replace B:=kN (g:=U) hb bk
  replace HB:=bN bz hb
  (try clear hb)
  (try clear ai)
  (try clear hk)
  (try clear hi)
  refine hK.out _ _ ⟨bc B 0,bc B 1,bc A 0,bc A 1,bc A 2,bc A 3,bc A 4⟩ (fun hHeld=>?_)
  clear hK K
  refine zaN (a':=?_) ?_ ?_
  rotate_left
  ·show Act.put _ (some 10) _=_
   simp only[Act.put,List.setIfInBounds_toArray,List.set_cons_zero,List.set_cons_succ,zap,zav]
   rfl
  refine oz (i:=7) (N:=some 14) O fun K hK=>?_
  refine gG Tryz.func53 (zaZ.calls k Z aa J M ad _ A4.out) ?_
  intro b4 hb
  replace A:=kN (g:=D) (cs:=#[.string E,.int .i64 I,.string J,.int .i64 M,.bool ac]) hb bk
  replace B:=kN (g:=U) hb bk
  replace HB:=bN bz hb
  (try clear hb)
  (try clear ai)
  (try clear hk)
  (try clear hi)
  refine hK.out _ _ ⟨bc B 0,bc B 1,bc A 0,bc A 1,bc A 2,bc A 3,bc A 4⟩ (fun hHeld=>?_)
  clear hK K
  refine zaN (a':=?_) ?_ ?_
  rotate_left
  ·show Act.put _ (some 14) _=_
   simp only[Act.put,List.setIfInBounds_toArray,List.set_cons_zero,List.set_cons_succ,zap,zav]
   rfl
  refine pz (i:=8) (N:=5) O ?_
  refine pz (i:=9) (N:=6) O ?_
  refine dz O ?_
  try go_wp2
  go_ret
  exact⟨ez,bz⟩
 replace H:=hN H c6
 have ar:=decide_eq_false c6
 clear c6
 by_cases al:ac=true
 case neg=>
  replace al:=Bool.eq_false_iff.mpr al
  subst al
  replace H:=hF H
  obtain rfl:=Option.some.inj H
  go_enter Tryz.func56,Tryz.ntmps56
  try go_wp2_with (first|((with_reducible refine zah (N:=2) rfl ?_);refine zag rfl (N:=2) rfl (cs:=#[.string E,.int .i64 I,.string J,.int .i64 M,.bool false]) (t:=88) gz ?_;intro D hg cc hbox hb;have ae:=gN bz hg;have af:=gN bz hg;have A:=zaa.mk hbox;replace HB:=bN bz hb;clear hb hbox hg)|((with_reducible refine zah (N:=3) rfl ?_);refine zag rfl (N:=3) rfl (cs:=#[.string Z,.int .i64 aa]) (t:=42) gz ?_;intro U hg bJ hbox hb;have ag:=gN bz hg;have ah:=gN bz hg;have X:=lN (g:=D) (cs:=#[.string E,.int .i64 I,.string J,.int .i64 M,.bool false]) hg bk;have Y:=rN (g:=D) (cs:=#[.string E,.int .i64 I,.string J,.int .i64 M,.bool false]) hg bk;replace A:=kN (g:=D) (cs:=#[.string E,.int .i64 I,.string J,.int .i64 M,.bool false]) hb bk;have B:=zaa.mk hbox;replace HB:=bN bz hb;clear hb hbox hg))
  replace A:=zaa.mk (zao A.out)
  replace B:=zaa.mk (zao B.out)
  replace HB:=zaa.mk (zaM HB.out)
  refine zbc (n:=10) (S:=fun w'=>w'.cell? ⟨U,0,none⟩=some (.string Z)∧w'.cell? ⟨U,1,none⟩=some (.int .i64 aa)∧w'.cell? ⟨D,0,none⟩=some (.string E)∧w'.cell? ⟨D,1,none⟩=some (.int .i64 I)∧w'.cell? ⟨D,2,none⟩=some (.string J)∧w'.cell? ⟨D,3,none⟩=some (.int .i64 M)∧w'.cell? ⟨D,4,none⟩=some (.bool false)) (ds:=[]) #[false,false,false,false,false,false,false,false,false,false] (by kernel_rfl) rfl rfl ⟨(zab B.out 0).trans rfl,(zab B.out 1).trans rfl,(zab A.out 0).trans rfl,(zab A.out 1).trans rfl,(zab A.out 2).trans rfl,(zab A.out 3).trans rfl,(zab A.out 4).trans rfl⟩ (fun hHeld=>?_);refine za3 zay.tab1 zay.bits1 (fun O HW_=>?_)
  generalize bJ.drew=cd at A B HB hHeld ⊢
  refine pz (i:=1) (N:=8) O ?_
  refine pz (i:=5) (N:=12) O ?_
  refine tz (i:=0) (N:=7) rfl O HW_ hHeld (by(rintro w' ⟨s0,s1,s2,s3,s4,s5,s6⟩;go_simp;with_reducible rfl)) ?_
  refine tz (i:=2) (N:=9) rfl O HW_ hHeld (by(rintro w' ⟨s0,s1,s2,s3,s4,s5,s6⟩;go_simp;with_reducible rfl)) ?_
  refine tz (i:=4) (N:=11) rfl O HW_ hHeld (by(rintro w' ⟨s0,s1,s2,s3,s4,s5,s6⟩;go_simp;with_reducible rfl)) ?_
  refine tz (i:=6) (N:=13) rfl O HW_ hHeld (by(rintro w' ⟨s0,s1,s2,s3,s4,s5,s6⟩;go_simp;with_reducible rfl)) ?_
  refine oz (i:=3) (N:=some 10) O fun K hK=>?_
  refine gG Tryz.func53 (zaZ.calls k Z aa E I ab _ A3.out) ?_
  intro ce hb
  replace A:=kN (g:=D) (cs:=#[.string E,.int .i64 I,.string J,.int .i64 M,.bool false]) hb bk
  replace B:=kN (g:=U) hb bk
  replace HB:=bN bz hb
  (try clear hb)
  (try clear ai)
  (try clear hk)
  (try clear hi)
  refine hK.out _ _ ⟨bc B 0,bc B 1,bc A 0,bc A 1,bc A 2,bc A 3,bc A 4⟩ (fun hHeld=>?_)
  clear hK K
  refine zaN (a':=?_) ?_ ?_
  rotate_left
  ·show Act.put _ (some 10) _=_
   simp only[Act.put,List.setIfInBounds_toArray,List.set_cons_zero,List.set_cons_succ,zap,zav]
   rfl
  refine oz (i:=7) (N:=some 14) O fun K hK=>?_
  refine gG Tryz.func53 (zaZ.calls k Z aa J M ad _ A4.out) ?_
  intro bK hb
  replace A:=kN (g:=D) (cs:=#[.string E,.int .i64 I,.string J,.int .i64 M,.bool false]) hb bk
  replace B:=kN (g:=U) hb bk
  replace HB:=bN bz hb
  (try clear hb)
  (try clear ai)
  (try clear hk)
  (try clear hi)
  refine hK.out _ _ ⟨bc B 0,bc B 1,bc A 0,bc A 1,bc A 2,bc A 3,bc A 4⟩ (fun hHeld=>?_)
  clear hK K
  refine zaN (a':=?_) ?_ ?_
  rotate_left
  ·show Act.put _ (some 14) _=_
   simp only[Act.put,List.setIfInBounds_toArray,List.set_cons_zero,List.set_cons_succ,zap,zav]
   rfl
  refine pz (i:=8) (N:=5) O ?_
  refine pz (i:=9) (N:=6) O ?_
  refine dz O ?_
  have bL:=X.out
  have bM:=Y.out
  obtain⟨aO,aP,aQ,aR,aS,aT,aU,aV,aW,aX⟩:=cz5 (W:=bK) A
  try go_wp2
  go_ret
  exact⟨ez,bz⟩
 subst al
 replace H:=hT H
 by_cases aj:ab≥0
 ·replace H:=hE H aj
  have an:decide (0≤ab)=true:=decide_eq_true aj
  clear aj
  obtain rfl:=Option.some.inj H
  go_enter Tryz.func56,Tryz.ntmps56
  try go_wp2_with (first|((with_reducible refine zah (N:=2) rfl ?_);refine zag rfl (N:=2) rfl (cs:=#[.string E,.int .i64 I,.string J,.int .i64 M,.bool true]) (t:=88) gz ?_;intro D hg b5 hbox hb;have ae:=gN bz hg;have af:=gN bz hg;have A:=zaa.mk hbox;replace HB:=bN bz hb;clear hb hbox hg)|((with_reducible refine zah (N:=3) rfl ?_);refine zag rfl (N:=3) rfl (cs:=#[.string Z,.int .i64 aa]) (t:=42) gz ?_;intro U hg bA hbox hb;have ag:=gN bz hg;have ah:=gN bz hg;have X:=lN (g:=D) (cs:=#[.string E,.int .i64 I,.string J,.int .i64 M,.bool true]) hg bk;have Y:=rN (g:=D) (cs:=#[.string E,.int .i64 I,.string J,.int .i64 M,.bool true]) hg bk;replace A:=kN (g:=D) (cs:=#[.string E,.int .i64 I,.string J,.int .i64 M,.bool true]) hb bk;have B:=zaa.mk hbox;replace HB:=bN bz hb;clear hb hbox hg))
  replace A:=zaa.mk (zao A.out)
  replace B:=zaa.mk (zao B.out)
  replace HB:=zaa.mk (zaM HB.out)
  refine zbc (n:=10) (S:=fun w'=>w'.cell? ⟨U,0,none⟩=some (.string Z)∧w'.cell? ⟨U,1,none⟩=some (.int .i64 aa)∧w'.cell? ⟨D,0,none⟩=some (.string E)∧w'.cell? ⟨D,1,none⟩=some (.int .i64 I)∧w'.cell? ⟨D,2,none⟩=some (.string J)∧w'.cell? ⟨D,3,none⟩=some (.int .i64 M)∧w'.cell? ⟨D,4,none⟩=some (.bool true)) (ds:=[]) #[false,false,false,false,false,false,false,false,false,false] (by kernel_rfl) rfl rfl ⟨(zab B.out 0).trans rfl,(zab B.out 1).trans rfl,(zab A.out 0).trans rfl,(zab A.out 1).trans rfl,(zab A.out 2).trans rfl,(zab A.out 3).trans rfl,(zab A.out 4).trans rfl⟩ (fun hHeld=>?_);refine za3 zay.tab1 zay.bits1 (fun O HW_=>?_)
  generalize bA.drew=b6 at A B HB hHeld ⊢
  refine pz (i:=1) (N:=8) O ?_
  refine pz (i:=5) (N:=12) O ?_
  refine tz (i:=0) (N:=7) rfl O HW_ hHeld (by(rintro w' ⟨s0,s1,s2,s3,s4,s5,s6⟩;go_simp;with_reducible rfl)) ?_
  refine tz (i:=2) (N:=9) rfl O HW_ hHeld (by(rintro w' ⟨s0,s1,s2,s3,s4,s5,s6⟩;go_simp;with_reducible rfl)) ?_
  refine tz (i:=4) (N:=11) rfl O HW_ hHeld (by(rintro w' ⟨s0,s1,s2,s3,s4,s5,s6⟩;go_simp;with_reducible rfl)) ?_
  refine tz (i:=6) (N:=13) rfl O HW_ hHeld (by(rintro w' ⟨s0,s1,s2,s3,s4,s5,s6⟩;go_simp;with_reducible rfl)) ?_
  refine oz (i:=3) (N:=some 10) O fun K hK=>?_
  refine gG Tryz.func53 (zaZ.calls k Z aa E I ab _ A3.out) ?_
  intro b7 hb
  replace A:=kN (g:=D) (cs:=#[.string E,.int .i64 I,.string J,.int .i64 M,.bool true]) hb bk
  replace B:=kN (g:=U) hb bk
  replace HB:=bN bz hb
  (try clear hb)
  (try clear ai)
  (try clear hk)
  (try clear hi)
  refine hK.out _ _ ⟨bc B 0,bc B 1,bc A 0,bc A 1,bc A 2,bc A 3,bc A 4⟩ (fun hHeld=>?_)
  clear hK K
  refine zaN (a':=?_) ?_ ?_
  rotate_left
  ·show Act.put _ (some 10) _=_
   simp only[Act.put,List.setIfInBounds_toArray,List.set_cons_zero,List.set_cons_succ,zap,zav]
   rfl
  refine oz (i:=7) (N:=some 14) O fun K hK=>?_
  refine gG Tryz.func53 (zaZ.calls k Z aa J M ad _ A4.out) ?_
  intro bB hb
  replace A:=kN (g:=D) (cs:=#[.string E,.int .i64 I,.string J,.int .i64 M,.bool true]) hb bk
  replace B:=kN (g:=U) hb bk
  replace HB:=bN bz hb
  (try clear hb)
  (try clear ai)
  (try clear hk)
  (try clear hi)
  refine hK.out _ _ ⟨bc B 0,bc B 1,bc A 0,bc A 1,bc A 2,bc A 3,bc A 4⟩ (fun hHeld=>?_)
  clear hK K
  refine zaN (a':=?_) ?_ ?_
  rotate_left
  ·show Act.put _ (some 14) _=_
   simp only[Act.put,List.setIfInBounds_toArray,List.set_cons_zero,List.set_cons_succ,zap,zav]
   rfl
  refine pz (i:=8) (N:=5) O ?_
  refine pz (i:=9) (N:=6) O ?_
  refine dz O ?_
  have bC:=X.out
  have bD:=Y.out
  obtain⟨au,av,aw,ax,ay,az,aA,aB,aC,aD⟩:=cz5 (W:=bB) A
  try go_wp2
  go_ret
  exact⟨ez,bz⟩
 replace H:=hN H aj
 have an:decide (0≤ab)=false:=decide_eq_false aj
 clear aj
 obtain rfl:=Option.some.inj H
 go_enter Tryz.func56,Tryz.ntmps56
 try go_wp2_with (first|((with_reducible refine zah (N:=2) rfl ?_);refine zag rfl (N:=2) rfl (cs:=#[.string E,.int .i64 I,.string J,.int .i64 M,.bool true]) (t:=88) gz ?_;intro D hg b8 hbox hb;have ae:=gN bz hg;have af:=gN bz hg;have A:=zaa.mk hbox;replace HB:=bN bz hb;clear hb hbox hg)|((with_reducible refine zah (N:=3) rfl ?_);refine zag rfl (N:=3) rfl (cs:=#[.string Z,.int .i64 aa]) (t:=42) gz ?_;intro U hg bE hbox hb;have ag:=gN bz hg;have ah:=gN bz hg;have X:=lN (g:=D) (cs:=#[.string E,.int .i64 I,.string J,.int .i64 M,.bool true]) hg bk;have Y:=rN (g:=D) (cs:=#[.string E,.int .i64 I,.string J,.int .i64 M,.bool true]) hg bk;replace A:=kN (g:=D) (cs:=#[.string E,.int .i64 I,.string J,.int .i64 M,.bool true]) hb bk;have B:=zaa.mk hbox;replace HB:=bN bz hb;clear hb hbox hg))
 replace A:=zaa.mk (zao A.out)
 replace B:=zaa.mk (zao B.out)
 replace HB:=zaa.mk (zaM HB.out)
 refine zbc (n:=10) (S:=fun w'=>w'.cell? ⟨U,0,none⟩=some (.string Z)∧w'.cell? ⟨U,1,none⟩=some (.int .i64 aa)∧w'.cell? ⟨D,0,none⟩=some (.string E)∧w'.cell? ⟨D,1,none⟩=some (.int .i64 I)∧w'.cell? ⟨D,2,none⟩=some (.string J)∧w'.cell? ⟨D,3,none⟩=some (.int .i64 M)∧w'.cell? ⟨D,4,none⟩=some (.bool true)) (ds:=[]) #[false,false,false,false,false,false,false,false,false,false] (by kernel_rfl) rfl rfl ⟨(zab B.out 0).trans rfl,(zab B.out 1).trans rfl,(zab A.out 0).trans rfl,(zab A.out 1).trans rfl,(zab A.out 2).trans rfl,(zab A.out 3).trans rfl,(zab A.out 4).trans rfl⟩ (fun hHeld=>?_);refine za3 zay.tab1 zay.bits1 (fun O HW_=>?_)
 generalize bE.drew=ca at A B HB hHeld ⊢
 refine pz (i:=1) (N:=8) O ?_
 refine pz (i:=5) (N:=12) O ?_
 refine tz (i:=0) (N:=7) rfl O HW_ hHeld (by(rintro w' ⟨s0,s1,s2,s3,s4,s5,s6⟩;go_simp;with_reducible rfl)) ?_
 refine tz (i:=2) (N:=9) rfl O HW_ hHeld (by(rintro w' ⟨s0,s1,s2,s3,s4,s5,s6⟩;go_simp;with_reducible rfl)) ?_
 refine tz (i:=4) (N:=11) rfl O HW_ hHeld (by(rintro w' ⟨s0,s1,s2,s3,s4,s5,s6⟩;go_simp;with_reducible rfl)) ?_
 refine tz (i:=6) (N:=13) rfl O HW_ hHeld (by(rintro w' ⟨s0,s1,s2,s3,s4,s5,s6⟩;go_simp;with_reducible rfl)) ?_
 refine oz (i:=3) (N:=some 10) O fun K hK=>?_
 refine gG Tryz.func53 (zaZ.calls k Z aa E I ab _ A3.out) ?_
 intro cb hb
 replace A:=kN (g:=D) (cs:=#[.string E,.int .i64 I,.string J,.int .i64 M,.bool true]) hb bk
 replace B:=kN (g:=U) hb bk
 replace HB:=bN bz hb
 (try clear hb)
 (try clear ai)
 (try clear hk)
 (try clear hi)
 refine hK.out _ _ ⟨bc B 0,bc B 1,bc A 0,bc A 1,bc A 2,bc A 3,bc A 4⟩ (fun hHeld=>?_)
 clear hK K
 refine zaN (a':=?_) ?_ ?_
 rotate_left
 ·show Act.put _ (some 10) _=_
  simp only[Act.put,List.setIfInBounds_toArray,List.set_cons_zero,List.set_cons_succ,zap,zav]
  rfl
 refine oz (i:=7) (N:=some 14) O fun K hK=>?_
 refine gG Tryz.func53 (zaZ.calls k Z aa J M ad _ A4.out) ?_
 intro bG hb
 replace A:=kN (g:=D) (cs:=#[.string E,.int .i64 I,.string J,.int .i64 M,.bool true]) hb bk
 replace B:=kN (g:=U) hb bk
 replace HB:=bN bz hb
 (try clear hb)
 (try clear ai)
 (try clear hk)
 (try clear hi)
 refine hK.out _ _ ⟨bc B 0,bc B 1,bc A 0,bc A 1,bc A 2,bc A 3,bc A 4⟩ (fun hHeld=>?_)
 clear hK K
 refine zaN (a':=?_) ?_ ?_
 rotate_left
 ·show Act.put _ (some 14) _=_
  simp only[Act.put,List.setIfInBounds_toArray,List.set_cons_zero,List.set_cons_succ,zap,zav]
  rfl
 refine pz (i:=8) (N:=5) O ?_
 refine pz (i:=9) (N:=6) O ?_
 refine dz O ?_
 have bH:=X.out
 have bI:=Y.out
 obtain⟨aE,aF,aG,aH,aI,aJ,aK,aL,aM,aN⟩:=cz5 (W:=bG) A
 try go_wp2
 go_ret
 exact⟨ez,bz⟩
def zaO.l0:Nat→Int→ByteArray→Int→ByteArray→Int→Bool→ByteArray→Int→ByteArray→Int→Option (ByteArray×Int×Bool)
 |0,_,_,_,_,_,_,_,_,_,_=>none
 |k+1,U,A,B,D,E,I,J,K,M,O=>if U<2 then(if U=0 then((zay.f k A B D E I J K).bind fun X=>(if X=true then(some (J,K,true)) else(zaO.l0 k (wrap64 (U+1)) A B D E I J K M O))) else(if U=1 then((zay.f k A B D E I M O).bind fun Y=>(if Y=true then(some (M,O,true)) else(zaO.l0 k (wrap64 (U+1)) A B D E I J K M O))) else(none))) else(some ((⟨#[]⟩:ByteArray),0,false))
def zaO.f(k:Nat)(D:ByteArray)(E:Int)(a1:Int)(J:ByteArray)(K:Int)(M:ByteArray)(O:Int)(U:Bool):Option (ByteArray×Int×Bool):=if a1≥(D.size:Int) then(some (D,E,true)) else((za2.f k D E a1).bind fun A=>((zay.f k J K M O U A.1 A.2.1).bind fun X=>(if X=true then(some (A.1,A.2.1,true)) else(if 0≤a1 then(if a1≤(D.size:Int) then((zas.f k (D.extract 0 (a1:Int).toNat) E).bind fun B=>((zan.f k B.1 B.2.1 (⟨#[49]⟩:ByteArray) (wrap64 ((wrap64 (E-a1))+1))).bind fun I=>(zaO.l0 k 0 J K M O U B.1 B.2.1 I.1 I.2.1))) else(none)) else(none)))))
def zaO.T7:Bool×List (List Nat×List Nat):=(true,[([],[]),([0],[0]),([],[]),([1,2],[1,2]),([],[]),([4],[4]),([3,5],[3,5]),([6],[6]),([7],[7]),([8],[8]),([8],[8]),([],[]),([11,9,7,0,1,2,3,4,5,6,7,8,9,11],[9,11]),([10,12,0,1,2,3,4,5,6,7,8,9,10,11,12],[10])])
def zaO.B7:List Nat:=[0,1,0,7,0,16,63,127,255,511,511,0,3071,8191]
theorem zaO.tab7:rtab .any (opsOf Tryz.f57 7)=zaO.T7:=by kernel_rfl
theorem zaO.bits7:waitsOk zaO.T7.2 zaO.B7=true:=by kernel_rfl
theorem zaO.calls(k:Nat)(J:ByteArray)(A:Int)(a1:Int)(aH:ByteArray)(aI:Int)(aJ:ByteArray)(aK:Int)(aL:Bool)(r1:ByteArray)(r2:Int)(r3:Bool)(w:World)(h:zaO.f k J A a1 aH aI aJ aK aL=some (r1,r2,r3)):
  Calls Tryz.prog 57 #[.agg #[.string J,.int .i64 A],.int .i64 a1,.func (.func 56) #[.agg #[.string aH,.int .i64 aI,.string aJ,.int .i64 aK,.bool aL]] #[]] w fun e w'=>e= .returned (.tuple #[.agg #[.string r1,.int .i64 r2],.bool r3])∧Below w.heap.size w w':=by
 have hn:=Tryz.underlying42
 have fh:=Tryz.underlying119
 have HB:=zaa.mk (Below.refl w.heap.size w)
 have H:(if a1≥(J.size:Int) then(some (J,A,true)) else((za2.f k J A a1).bind fun be=>((zay.f k aH aI aJ aK aL be.1 be.2.1).bind fun bH=>(if bH=true then(some (be.1,be.2.1,true)) else(if 0≤a1 then(if a1≤(J.size:Int) then((zas.f k (J.extract 0 (a1:Int).toNat) A).bind fun bf=>((zan.f k bf.1 bf.2.1 (⟨#[49]⟩:ByteArray) (wrap64 ((wrap64 (A-a1))+1))).bind fun bR=>(zaO.l0 k 0 aH aI aJ aK aL bf.1 bf.2.1 bR.1 bR.2.1))) else(none)) else(none))))))=some (r1,r2,r3):=h
 clear h
 go_enter Tryz.func57,Tryz.ntmps57
 go_upto_if 21 with(first|((with_reducible refine zah (N:=3) rfl ?_);refine zag rfl (N:=3) rfl (cs:=#[.string J,.int .i64 A]) (t:=42) gz ?_;intro D hg w4 hbox hb;have fi:=gN bz hg;have O:=zaa.mk hbox;replace HB:=bN bz hb;clear hb hbox hg)|((with_reducible refine zah (N:=6) rfl ?_);refine zag rfl (N:=6) rfl (cs:=#[.string (⟨#[]⟩:ByteArray),.int .i64 0]) (t:=42) gz ?_;intro E hg w5 hbox hb;have fj:=gN bz hg;have ai:=lN (g:=D) (cs:=#[.string J,.int .i64 A]) hg bk;have aj:=rN (g:=D) (cs:=#[.string J,.int .i64 A]) hg bk;replace O:=kN (g:=D) (cs:=#[.string J,.int .i64 A]) hb bk;have U:=zaa.mk hbox;replace HB:=bN bz hb;clear hb hbox hg;have ho:=ai.out;have hp:=aj.out;obtain⟨cu,cv,cw,cx⟩:=cz2 (W:=w5) O))
 (try simp only[Act.put,List.setIfInBounds_toArray,List.set_cons_zero,List.set_cons_succ])
 by_cases c8:a1≥(J.size:Int)
 ·replace H:=hE H c8
  have bI:decide ((J.size:Int)≤a1)=true:=decide_eq_true c8
  clear c8
  try rw[bI]
  simp only[Option.some.injEq,Prod.mk.injEq] at H
  obtain⟨rfl,rfl,rfl⟩:=H
  have hq:=ai.out
  have hs:=aj.out
  obtain⟨dl,dm,dn,dp⟩:=cz2 (W:=w5) O
  obtain⟨dq,dt,du,dv⟩:=cz2 (W:=w5) U
  go_wp2
  refine bodyPost_ret (zaC rfl _ _ E 42 #[.string J,.int .i64 A] (0,0) _ rfl bk Tryz.underlying42 rfl (by kernel_rfl)) rfl ?_
  exact⟨ez,bz⟩
 replace H:=hN H c8
 have bI:decide ((J.size:Int)≤a1)=false:=decide_eq_false c8
 clear c8
 try rw[bI]
 replace H:=bs H
 obtain⟨⟨Z,aa,dw⟩,fk,H⟩:=H
 dsimp only at H
 replace H:=bs H
 obtain⟨bH,fl,H⟩:=H
 have fm:=ai.out
 have fo:=aj.out
 obtain⟨bS,bU,bV,bW⟩:=cz2 (W:=w5) O
 go_upto_if 31 with(first|((with_reducible refine zac (f:=32) rfl ?_);refine gB Tryz.func32 (za2.calls k J A a1 Z aa dw _ fk.out) ?_;intro hv hb;replace O:=kN (g:=D) (cs:=#[.string J,.int .i64 A]) hb bk;replace U:=kN (g:=E) (cs:=#[.string (⟨#[]⟩:ByteArray),.int .i64 0]) hb bk;replace HB:=bN bz hb;(try clear hb);(try clear bJ);(try clear hk);(try clear hi))|((with_reducible refine zah (N:=8) rfl ?_);refine zag rfl (N:=8) rfl (cs:=#[.string (⟨#[]⟩:ByteArray),.int .i64 0]) (t:=42) gz ?_;intro M hg fp hbox hb;have fq:=gN bz hg;have aE:=lN (g:=D) (cs:=#[.string J,.int .i64 A]) hg bk;have aF:=rN (g:=D) (cs:=#[.string J,.int .i64 A]) hg bk;have aw:=lN (g:=E) (cs:=#[.string (⟨#[]⟩:ByteArray),.int .i64 0]) hg bk;have ax:=rN (g:=E) (cs:=#[.string (⟨#[]⟩:ByteArray),.int .i64 0]) hg bk;replace O:=kN (g:=D) (cs:=#[.string J,.int .i64 A]) hb bk;replace U:=kN (g:=E) (cs:=#[.string (⟨#[]⟩:ByteArray),.int .i64 0]) hb bk;have ac:=zaa.mk hbox;replace HB:=bN bz hb;clear hb hbox hg;have fs:=aF.out;have ft:=aE.out;have fu:=ax.out;have fv:=aw.out;obtain⟨bX,bY,bZ,b0⟩:=cz2 (W:=fp) ac)|(go_at_call 56;(with_reducible refine(zay.calls k aH aI aJ aK aL Z aa bH _ fl.out).mono ?_);rintro e cS ⟨rfl,hb⟩;replace O:=kN (g:=D) (cs:=#[.string J,.int .i64 A]) hb bk;replace U:=kN (g:=E) (cs:=#[.string (⟨#[]⟩:ByteArray),.int .i64 0]) hb bk;replace ac:=kN (g:=M) (cs:=#[.string Z,.int .i64 aa]) hb bk;replace HB:=bN bz hb;(try clear hb);(try clear bJ);(try clear hk);(try clear hi)))
 (try simp only[Act.put,List.setIfInBounds_toArray,List.set_cons_zero,List.set_cons_succ])
 by_cases b1:bH=true
 ·subst b1
  replace H:=hT H
  simp only[Option.some.injEq,Prod.mk.injEq] at H
  obtain⟨rfl,rfl,rfl⟩:=H
  have fw:=aF.out
  have fx:=aE.out
  have fy:=ax.out
  have fz:=aw.out
  obtain⟨dx,dy,dA,dB⟩:=cz2 (W:=cS) ac
  have fA:=aj.out
  have fC:=ai.out
  obtain⟨dC,dD,dE,dF⟩:=cz2 (W:=cS) U
  go_wp2
  refine bodyPost_ret (zaC rfl _ _ E 42 #[.string Z,.int .i64 aa] (0,0) _ rfl bk Tryz.underlying42 rfl (by kernel_rfl)) rfl ?_
  exact⟨ez,bz⟩
 replace b1:=Bool.eq_false_iff.mpr b1
 subst b1
 replace H:=hF H
 by_cases cy:0≤a1
 case neg=>
  replace H:=hN H cy
  exact absurd H (by simp)
 obtain⟨cT,cV,H⟩:=hE3 H cy
 clear cy
 obtain⟨cW,cX,H⟩:=hG3 H
 replace H:=bs H
 obtain⟨⟨ag,ah,bi⟩,dG,H⟩:=H
 dsimp only at H
 replace H:=bs H
 obtain⟨⟨au,av,dH⟩,fD,H⟩:=H
 dsimp only at H
 have H':=zaa.mk H
 clear H
 have fF:=ai.out
 have fG:=aj.out
 have fH:=aE.out
 have fI:=aF.out
 obtain⟨b2,b3,b4,b5⟩:=cz2 (W:=cS) O
 try go_wp2_with (first|((with_reducible refine zah (N:=10) rfl ?_);refine zag rfl (N:=10) rfl (cs:=#[.string (⟨#[]⟩:ByteArray),.int .i64 0]) (t:=42) gz ?_;intro I hg bj hbox hb;have fJ:=gN bz hg;have bl:=lN (g:=D) (cs:=#[.string J,.int .i64 A]) hg bk;have bm:=rN (g:=D) (cs:=#[.string J,.int .i64 A]) hg bk;have ay:=lN (g:=E) (cs:=#[.string (⟨#[]⟩:ByteArray),.int .i64 0]) hg bk;have az:=rN (g:=E) (cs:=#[.string (⟨#[]⟩:ByteArray),.int .i64 0]) hg bk;have bn:=lN (g:=M) (cs:=#[.string Z,.int .i64 aa]) hg bk;have bo:=rN (g:=M) (cs:=#[.string Z,.int .i64 aa]) hg bk;replace O:=kN (g:=D) (cs:=#[.string J,.int .i64 A]) hb bk;replace U:=kN (g:=E) (cs:=#[.string (⟨#[]⟩:ByteArray),.int .i64 0]) hb bk;replace ac:=kN (g:=M) (cs:=#[.string Z,.int .i64 aa]) hb bk;have af:=zaa.mk hbox;replace HB:=bN bz hb;clear hb hbox hg;have fK:=bm.out;have fL:=bl.out;have fN:=az.out;have fO:=ay.out;have fP:=bo.out;have fQ:=bn.out;obtain⟨b6,b7,b8,ca⟩:=cz2 (W:=bj) af))
 have bK:zaa (((bj.setCell ⟨I,0,none⟩ (.string (⟨#[49]⟩:ByteArray))).setCell ⟨I,1,none⟩ (.int .i64 (wrap64 ((wrap64 (A-a1))+1)))).heap[D]? =some (.cells #[.string J,.int .i64 A] 42 (0,0))):=⟨bk⟩
 have bL:zaa (((bj.setCell ⟨I,0,none⟩ (.string (⟨#[49]⟩:ByteArray))).setCell ⟨I,1,none⟩ (.int .i64 (wrap64 ((wrap64 (A-a1))+1)))).heap[E]? =some (.cells #[.string (⟨#[]⟩:ByteArray),.int .i64 0] 42 (0,0))):=⟨bk⟩
 have bM:zaa (((bj.setCell ⟨I,0,none⟩ (.string (⟨#[49]⟩:ByteArray))).setCell ⟨I,1,none⟩ (.int .i64 (wrap64 ((wrap64 (A-a1))+1)))).heap[M]? =some (.cells #[.string Z,.int .i64 aa] 42 (0,0))):=⟨bk⟩
 have bO:zaa (((bj.setCell ⟨I,0,none⟩ (.string (⟨#[49]⟩:ByteArray))).setCell ⟨I,1,none⟩ (.int .i64 (wrap64 ((wrap64 (A-a1))+1)))).heap[I]? =some (.cells #[.string (⟨#[49]⟩:ByteArray),.int .i64 (wrap64 ((wrap64 (A-a1))+1))] 42 (0,0))):=⟨bk⟩
 have bP:zaa (Below w.heap.size w ((bj.setCell ⟨I,0,none⟩ (.string (⟨#[49]⟩:ByteArray))).setCell ⟨I,1,none⟩ (.int .i64 (wrap64 ((wrap64 (A-a1))+1))))):=⟨bz⟩
 (try clear O)
 (try clear U)
 (try clear ac)
 (try clear af)
 (try clear HB)
 generalize ((bj.setCell ⟨I,0,none⟩ (.string (⟨#[49]⟩:ByteArray))).setCell ⟨I,1,none⟩ (.int .i64 (wrap64 ((wrap64 (A-a1))+1))))=fR at bK bL bM bO bP ⊢
 have O:=bK
 have U:=bL
 have ac:=bM
 have af:=bO
 have HB:=bP
 clear bK bL bM bO bP
 replace O:=zaa.mk (zao O.out)
 replace U:=zaa.mk (zao U.out)
 replace ac:=zaa.mk (zao ac.out)
 replace af:=zaa.mk (zao af.out)
 replace HB:=zaa.mk (zaM HB.out)
 refine zbc (n:=14) (S:=fun w'=>w'.cell? ⟨D,0,none⟩=some (.string J)∧w'.cell? ⟨D,1,none⟩=some (.int .i64 A)) (ds:=[]) #[false,false,false,false,false,false,false,false,false,false,false,false,false,false] (by kernel_rfl) rfl rfl ⟨(zab O.out 0).trans rfl,(zab O.out 1).trans rfl⟩ (fun hHeld=>?_);refine za3 zaO.tab7 zaO.bits7 (fun aA HW_=>?_)
 generalize fR.drew=hw at O U ac af HB hHeld ⊢
 refine pz (i:=0) (N:=40) aA ?_
 refine pz (i:=2) (N:=42) aA ?_
 refine pz (i:=4) (N:=44) aA ?_
 refine tz (i:=1) (N:=41) rfl aA HW_ hHeld (by(rintro w' ⟨s0,s1⟩;go_simp;with_reducible rfl)) ?_
 refine pz (i:=3) (N:=43) aA ?_
 refine tz (i:=5) (N:=45) rfl aA HW_ hHeld (by(rintro w' ⟨s0,s1⟩;go_simp;with_reducible rfl)) ?_
 refine pz (i:=6) (N:=46) aA ?_
 refine zjd (σ:=Nat) 2 #[true,true,true,true,true,true,true,true,true,true,true,true,false,false] (fun s_=>[(47,.tuple #[.agg #[.string ag,.int .i64 ah],.int .i64 bi]),(11,.pointer (some ⟨s_,0,none⟩)),(39,.tuple #[.agg #[.string ag,.int .i64 ah],.int .i64 bi]),(48,.agg #[.string ag,.int .i64 ah]),(49,.int .i64 bi)]) (fun s_ w'=>(w'.cell? ⟨D,0,none⟩=some (.string J)∧w'.cell? ⟨D,1,none⟩=some (.int .i64 A))∧(w'.heap[D]? =some (.cells #[.string J,.int .i64 A] 42 (0,0)))∧(w'.heap[E]? =some (.cells #[.string (⟨#[]⟩:ByteArray),.int .i64 0] 42 (0,0)))∧(w'.heap[M]? =some (.cells #[.string Z,.int .i64 aa] 42 (0,0)))∧(w'.heap[I]? =some (.cells #[.string (⟨#[49]⟩:ByteArray),.int .i64 (wrap64 ((wrap64 (A-a1))+1))] 42 (0,0)))∧(w'.heap[s_]? =some (.cells #[.string (⟨#[]⟩:ByteArray),.int .i64 0] 42 (0,0)))∧(w.heap.size≤s_)∧(w.heap.size≤s_)∧(D≠s_)∧(s_≠D)∧(E≠s_)∧(s_≠E)∧(M≠s_)∧(s_≠M)∧(I≠s_)∧(s_≠I)∧(Below w.heap.size w w')) ?_ ?_
 rotate_left
 ·intro hCont
  refine two_ (i:=7) (j:=11) (Ni:=some 47) (Nj:=some 11) #[true,true,true,true,true,true,true,true,false,false,false,false,false,false] #[true,true,true,true,true,true,true,false,false,false,false,true,false,false] rfl rfl rfl rfl (ziO aA.out (by kernel_rfl)) (by decide) (by decide) (fun K hK=>?_) (fun K hK=>?_)
  ·skip
   refine gG Tryz.func50 (zas.calls k (J.extract 0 (a1:Int).toNat) A ag ah bi _ dG.out) ?_
   intro fS hb
   replace O:=kN (g:=D) (cs:=#[.string J,.int .i64 A]) hb bk
   replace U:=kN (g:=E) (cs:=#[.string (⟨#[]⟩:ByteArray),.int .i64 0]) hb bk
   replace ac:=kN (g:=M) (cs:=#[.string Z,.int .i64 aa]) hb bk
   replace af:=kN (g:=I) (cs:=#[.string (⟨#[49]⟩:ByteArray),.int .i64 (wrap64 ((wrap64 (A-a1))+1))]) hb bk
   replace HB:=bN bz hb
   (try clear hb)
   (try clear bJ)
   (try clear hk)
   (try clear hi)
   refine hK.out _ _ (d2 O) (fun hHeld=>?_)
   clear hK K
   refine zaN (a':=?_) ?_ ?_
   rotate_left
   ·show Act.put _ (some 47) _=_
    simp only[Act.put,List.setIfInBounds_toArray,List.set_cons_zero,List.set_cons_succ,zap,zav]
    rfl
   refine pz (i:=8) (N:=39) aA ?_
   refine pz (i:=9) (N:=48) aA ?_
   refine pz (i:=10) (N:=49) aA ?_
   refine oz (i:=11) (N:=some 11) aA fun K hK=>?_
   refine ze4 ?hg (N:=11) ?hd (cs:=#[.string (⟨#[]⟩:ByteArray),.int .i64 0]) (t:=42) ?hr ?_;(case hd=>rfl);(case hg=>rfl);(case hr=>first|(go_simp;done)|(go_simp;rfl))
   intro B hg fT hbox hb
   have ak:=zaa.mk (hbox)
   have bg:=zaa.mk ((by rw[hg];exact(zaA bz):w.heap.size≤B))
   have bh:=zaa.mk ((by rw[hg];exact(zaA bz):w.heap.size≤B))
   have ab:=zaa.mk ((by rw[hg];exact Nat.ne_of_lt (zaR (g:=D) (o:=.cells #[.string J,.int .i64 A] 42 (0,0)) bk):D≠B))
   have al:=zaa.mk ((by rw[hg];exact Nat.ne_of_gt (zaR (g:=D) (o:=.cells #[.string J,.int .i64 A] 42 (0,0)) bk):B≠D))
   have ad:=zaa.mk ((by rw[hg];exact Nat.ne_of_lt (zaR (g:=E) (o:=.cells #[.string (⟨#[]⟩:ByteArray),.int .i64 0] 42 (0,0)) bk):E≠B))
   have ae:=zaa.mk ((by rw[hg];exact Nat.ne_of_gt (zaR (g:=E) (o:=.cells #[.string (⟨#[]⟩:ByteArray),.int .i64 0] 42 (0,0)) bk):B≠E))
   have am:=zaa.mk ((by rw[hg];exact Nat.ne_of_lt (zaR (g:=M) (o:=.cells #[.string Z,.int .i64 aa] 42 (0,0)) bk):M≠B))
   have an:=zaa.mk ((by rw[hg];exact Nat.ne_of_gt (zaR (g:=M) (o:=.cells #[.string Z,.int .i64 aa] 42 (0,0)) bk):B≠M))
   have ao:=zaa.mk ((by rw[hg];exact Nat.ne_of_lt (zaR (g:=I) (o:=.cells #[.string (⟨#[49]⟩:ByteArray),.int .i64 (wrap64 ((wrap64 (A-a1))+1))] 42 (0,0)) bk):I≠B))
   have ap:=zaa.mk ((by rw[hg];exact Nat.ne_of_gt (zaR (g:=I) (o:=.cells #[.string (⟨#[49]⟩:ByteArray),.int .i64 (wrap64 ((wrap64 (A-a1))+1))] 42 (0,0)) bk):B≠I))
   replace O:=kN (g:=D) (cs:=#[.string J,.int .i64 A]) hb bk
   replace U:=kN (g:=E) (cs:=#[.string (⟨#[]⟩:ByteArray),.int .i64 0]) hb bk
   replace ac:=kN (g:=M) (cs:=#[.string Z,.int .i64 aa]) hb bk
   replace af:=kN (g:=I) (cs:=#[.string (⟨#[49]⟩:ByteArray),.int .i64 (wrap64 ((wrap64 (A-a1))+1))]) hb bk
   replace HB:=bN bz hb
   clear hb hbox hg
   refine hK.out _ _ (d2 O) (fun hHeld=>?_)
   clear hK K
   refine zaN (a':=?_) ?_ ?_
   rotate_left
   ·show Act.put _ (some 11) _=_
    simp only[Act.put,List.setIfInBounds_toArray,List.set_cons_zero,List.set_cons_succ,zap,zav]
    rfl
   exact zaN (by simp only[putAll,Act.put,List.setIfInBounds_toArray,List.set_cons_zero,List.set_cons_succ]) (hCont (B) _ ⟨hHeld,bk,bk,bk,bk,bk,bg.out,bh.out,ab.out,al.out,ad.out,ae.out,am.out,an.out,ao.out,ap.out,bz⟩)
  skip
  refine ze4 ?hg (N:=11) ?hd (cs:=#[.string (⟨#[]⟩:ByteArray),.int .i64 0]) (t:=42) ?hr ?_;(case hd=>rfl);(case hg=>rfl);(case hr=>first|(go_simp;done)|(go_simp;rfl))
  intro B hg fS hbox hb
  have ak:=zaa.mk (hbox)
  have bg:=zaa.mk ((by rw[hg];exact(zaA bz):w.heap.size≤B))
  have bh:=zaa.mk ((by rw[hg];exact(zaA bz):w.heap.size≤B))
  have ab:=zaa.mk ((by rw[hg];exact Nat.ne_of_lt (zaR (g:=D) (o:=.cells #[.string J,.int .i64 A] 42 (0,0)) bk):D≠B))
  have al:=zaa.mk ((by rw[hg];exact Nat.ne_of_gt (zaR (g:=D) (o:=.cells #[.string J,.int .i64 A] 42 (0,0)) bk):B≠D))
  have ad:=zaa.mk ((by rw[hg];exact Nat.ne_of_lt (zaR (g:=E) (o:=.cells #[.string (⟨#[]⟩:ByteArray),.int .i64 0] 42 (0,0)) bk):E≠B))
  have ae:=zaa.mk ((by rw[hg];exact Nat.ne_of_gt (zaR (g:=E) (o:=.cells #[.string (⟨#[]⟩:ByteArray),.int .i64 0] 42 (0,0)) bk):B≠E))
  have am:=zaa.mk ((by rw[hg];exact Nat.ne_of_lt (zaR (g:=M) (o:=.cells #[.string Z,.int .i64 aa] 42 (0,0)) bk):M≠B))
  have an:=zaa.mk ((by rw[hg];exact Nat.ne_of_gt (zaR (g:=M) (o:=.cells #[.string Z,.int .i64 aa] 42 (0,0)) bk):B≠M))
  have ao:=zaa.mk ((by rw[hg];exact Nat.ne_of_lt (zaR (g:=I) (o:=.cells #[.string (⟨#[49]⟩:ByteArray),.int .i64 (wrap64 ((wrap64 (A-a1))+1))] 42 (0,0)) bk):I≠B))
  have ap:=zaa.mk ((by rw[hg];exact Nat.ne_of_gt (zaR (g:=I) (o:=.cells #[.string (⟨#[49]⟩:ByteArray),.int .i64 (wrap64 ((wrap64 (A-a1))+1))] 42 (0,0)) bk):B≠I))
  replace O:=kN (g:=D) (cs:=#[.string J,.int .i64 A]) hb bk
  replace U:=kN (g:=E) (cs:=#[.string (⟨#[]⟩:ByteArray),.int .i64 0]) hb bk
  replace ac:=kN (g:=M) (cs:=#[.string Z,.int .i64 aa]) hb bk
  replace af:=kN (g:=I) (cs:=#[.string (⟨#[49]⟩:ByteArray),.int .i64 (wrap64 ((wrap64 (A-a1))+1))]) hb bk
  replace HB:=bN bz hb
  clear hb hbox hg
  refine hK.out _ _ (d2 O) (fun hHeld=>?_)
  clear hK K
  refine zaN (a':=?_) ?_ ?_
  rotate_left
  ·show Act.put _ (some 11) _=_
   simp only[Act.put,List.setIfInBounds_toArray,List.set_cons_zero,List.set_cons_succ,zap,zav]
   rfl
  refine oz (i:=7) (N:=some 47) aA fun K hK=>?_
  refine gG Tryz.func50 (zas.calls k (J.extract 0 (a1:Int).toNat) A ag ah bi _ dG.out) ?_
  intro fT hb
  replace O:=kN (g:=D) (cs:=#[.string J,.int .i64 A]) hb bk
  replace U:=kN (g:=E) (cs:=#[.string (⟨#[]⟩:ByteArray),.int .i64 0]) hb bk
  replace ac:=kN (g:=M) (cs:=#[.string Z,.int .i64 aa]) hb bk
  replace af:=kN (g:=I) (cs:=#[.string (⟨#[49]⟩:ByteArray),.int .i64 (wrap64 ((wrap64 (A-a1))+1))]) hb bk
  replace ak:=kN (g:=B) (cs:=#[.string (⟨#[]⟩:ByteArray),.int .i64 0]) hb bk
  replace HB:=bN bz hb
  (try clear hb)
  (try clear bJ)
  (try clear hk)
  (try clear hi)
  refine hK.out _ _ (d2 O) (fun hHeld=>?_)
  clear hK K
  refine zaN (a':=?_) ?_ ?_
  rotate_left
  ·show Act.put _ (some 47) _=_
   simp only[Act.put,List.setIfInBounds_toArray,List.set_cons_zero,List.set_cons_succ,zap,zav]
   rfl
  refine pz (i:=8) (N:=39) aA ?_
  refine pz (i:=9) (N:=48) aA ?_
  refine pz (i:=10) (N:=49) aA ?_
  exact zaN (by simp only[putAll,Act.put,List.setIfInBounds_toArray,List.set_cons_zero,List.set_cons_succ]) (hCont (B) _ ⟨hHeld,bk,bk,bk,bk,bk,bg.out,bh.out,ab.out,al.out,ad.out,ae.out,am.out,an.out,ao.out,ap.out,bz⟩)
 rintro B aM ⟨hS_,dI,dJ,dK,dL,dM,dN,dO,dP,dQ,dR,cD,cF,cG,cH,cI,cJ⟩
 have bK:zaa (aM.heap[D]? =some (.cells #[.string J,.int .i64 A] 42 (0,0))):=⟨dI⟩
 have bL:zaa (aM.heap[E]? =some (.cells #[.string (⟨#[]⟩:ByteArray),.int .i64 0] 42 (0,0))):=⟨dJ⟩
 have bM:zaa (aM.heap[M]? =some (.cells #[.string Z,.int .i64 aa] 42 (0,0))):=⟨dK⟩
 have bO:zaa (aM.heap[I]? =some (.cells #[.string (⟨#[49]⟩:ByteArray),.int .i64 (wrap64 ((wrap64 (A-a1))+1))] 42 (0,0))):=⟨dL⟩
 have bP:zaa (aM.heap[B]? =some (.cells #[.string (⟨#[]⟩:ByteArray),.int .i64 0] 42 (0,0))):=⟨dM⟩
 have dS:zaa (w.heap.size≤B):=⟨dN⟩
 have dT:zaa (w.heap.size≤B):=⟨dO⟩
 have dU:zaa (D≠B):=⟨dP⟩
 have dV:zaa (B≠D):=⟨dQ⟩
 have dW:zaa (E≠B):=⟨dR⟩
 have cK:zaa (B≠E):=⟨cD⟩
 have cL:zaa (M≠B):=⟨cF⟩
 have cM:zaa (B≠M):=⟨cG⟩
 have cN:zaa (I≠B):=⟨cH⟩
 have cO:zaa (B≠I):=⟨cI⟩
 have cP:zaa (Below w.heap.size w aM):=⟨cJ⟩
 clear O
 clear U
 clear ac
 clear af
 clear HB
 clear dI dJ dK dL dM dN dO dP dQ dR cD cF cG cH cI cJ
 have O:=bK
 have U:=bL
 have ac:=bM
 have af:=bO
 have ak:=bP
 have bg:=dS
 have bh:=dT
 have ab:=dU
 have al:=dV
 have ad:=dW
 have ae:=cK
 have am:=cL
 have an:=cM
 have ao:=cN
 have ap:=cO
 have HB:=cP
 clear bK bL bM bO bP dS dT dU dV dW cK cL cM cN cO cP
 have hHeld:aM.cell? ⟨D,0,none⟩=some (.string J)∧aM.cell? ⟨D,1,none⟩=some (.int .i64 A):=hS_
 refine zaN (a':=?_) ?_ ?_
 rotate_left
 ·simp only[putAll,Act.put,List.setIfInBounds_toArray,List.set_cons_zero,List.set_cons_succ]
  rfl
 refine oz (i:=12) (N:=none) aA fun K hK=>?_
 have ht:aM.cell? ⟨B,0,none⟩=some (.string (⟨#[]⟩:ByteArray)):=(zab ak.out 0).trans rfl
 have fU:=zaI ak.out 0
 have dY:=ab.out
 have dZ:=ad.out
 have d0:=am.out
 have d5:=ao.out
 have d6:=al.out
 have d9:=ae.out
 have ea:=an.out
 have eb:=ap.out
 have hu:aM.cell? ⟨B,1,none⟩=some (.int .i64 0):=(zab ak.out 1).trans rfl
 have fV:=zaI ak.out 1
 have ec:=ab.out
 have ed:=ad.out
 have ee:=am.out
 have ef:=ao.out
 have eg:=al.out
 have eh:=ae.out
 have ei:=an.out
 have ej:=ap.out
 refine zd7 (w1:=?_) (by rfl) rfl ?_ ?_
 rotate_left
 ·go_simp
  rfl
 refine hK.out _ _ ⟨((cell_far (p:=⟨B,_,none⟩) ab.out _).trans (((cell_far (p:=⟨B,_,none⟩) ab.out _).trans (hHeld.1)))),((cell_far (p:=⟨B,_,none⟩) ab.out _).trans (((cell_far (p:=⟨B,_,none⟩) ab.out _).trans (hHeld.2))))⟩ (fun hHeld=>?_)
 clear hK K
 refine pz (i:=13) (N:=12) aA ?_
 refine dz aA ?_
 have fX:=al.out
 have fY:=ab.out
 have fZ:=ae.out
 have f0:=ad.out
 have f2:=an.out
 have f3:=am.out
 have f4:=ap.out
 have f5:=ao.out
 obtain⟨cb,cc,cd,ce⟩:=cz2 (W:=aM) ak
 obtain⟨cf,cg,ci,cj⟩:=cz2 (W:=aM) af
 try go_wp2_with (first|((with_reducible refine zac (f:=83) rfl ?_);refine gB Tryz.func83 (zan.calls k ag ah (⟨#[49]⟩:ByteArray) (wrap64 ((wrap64 (A-a1))+1)) au av dH _ fD.out) ?_;intro hx hb;replace O:=kN (g:=D) (cs:=#[.string J,.int .i64 A]) hb bk;replace U:=kN (g:=E) (cs:=#[.string (⟨#[]⟩:ByteArray),.int .i64 0]) hb bk;replace ac:=kN (g:=M) (cs:=#[.string Z,.int .i64 aa]) hb bk;replace af:=kN (g:=I) (cs:=#[.string (⟨#[49]⟩:ByteArray),.int .i64 (wrap64 ((wrap64 (A-a1))+1))]) hb bk;replace ak:=kN (g:=B) (cs:=#[.string ag,.int .i64 ah]) hb bk;replace HB:=bN bz hb;(try clear hb);(try clear bJ);(try clear hk);(try clear hi))|((with_reducible refine zah (N:=13) rfl ?_);refine zag rfl (N:=13) rfl (cs:=#[.string (⟨#[]⟩:ByteArray),.int .i64 0]) (t:=42) gz ?_;intro aB hg ek hbox hb;have f6:=gN bz hg;have bp:=lN (g:=D) (cs:=#[.string J,.int .i64 A]) hg bk;have bq:=rN (g:=D) (cs:=#[.string J,.int .i64 A]) hg bk;have aC:=lN (g:=E) (cs:=#[.string (⟨#[]⟩:ByteArray),.int .i64 0]) hg bk;have aD:=rN (g:=E) (cs:=#[.string (⟨#[]⟩:ByteArray),.int .i64 0]) hg bk;have br:=lN (g:=M) (cs:=#[.string Z,.int .i64 aa]) hg bk;have bu:=rN (g:=M) (cs:=#[.string Z,.int .i64 aa]) hg bk;have bv:=lN (g:=I) (cs:=#[.string (⟨#[49]⟩:ByteArray),.int .i64 (wrap64 ((wrap64 (A-a1))+1))]) hg bk;have bw:=rN (g:=I) (cs:=#[.string (⟨#[49]⟩:ByteArray),.int .i64 (wrap64 ((wrap64 (A-a1))+1))]) hg bk;have bA:=lN (g:=B) (cs:=#[.string ag,.int .i64 ah]) hg bk;have bB:=rN (g:=B) (cs:=#[.string ag,.int .i64 ah]) hg bk;replace O:=kN (g:=D) (cs:=#[.string J,.int .i64 A]) hb bk;replace U:=kN (g:=E) (cs:=#[.string (⟨#[]⟩:ByteArray),.int .i64 0]) hb bk;replace ac:=kN (g:=M) (cs:=#[.string Z,.int .i64 aa]) hb bk;replace af:=kN (g:=I) (cs:=#[.string (⟨#[49]⟩:ByteArray),.int .i64 (wrap64 ((wrap64 (A-a1))+1))]) hb bk;replace ak:=kN (g:=B) (cs:=#[.string ag,.int .i64 ah]) hb bk;have aG:=zaa.mk hbox;replace HB:=bN bz hb;clear hb hbox hg;have f7:=bq.out;have f8:=bp.out;have f9:=aD.out;have ga:=aC.out;have gb:=bu.out;have ge:=br.out;have gf:=bw.out;have gg:=bv.out;have gh:=bB.out;have gi:=bA.out;obtain⟨ck,cm,cn,co⟩:=cz2 (W:=ek) aG;obtain⟨cp,cq,cr,ct⟩:=cz2 (W:=ek) ak))
 go_loopg [59] k (fun kq gj w'=> ∃(ar:Int) (X:ByteArray) (Y:Int),gj= .int .i64 ar∧zaa (zaO.l0 kq ar aH aI aJ aK aL ag ah au av=some (r1,r2,r3))∧zaa (kq≤k)∧zaa (w'.heap[D]? =some (.cells #[.string J,.int .i64 A] 42 (0,0)))∧zaa (w'.heap[E]? =some (.cells #[.string X,.int .i64 Y] 42 (0,0)))∧zaa (w'.heap[M]? =some (.cells #[.string Z,.int .i64 aa] 42 (0,0)))∧zaa (w'.heap[I]? =some (.cells #[.string (⟨#[49]⟩:ByteArray),.int .i64 (wrap64 ((wrap64 (A-a1))+1))] 42 (0,0)))∧zaa (w'.heap[B]? =some (.cells #[.string ag,.int .i64 ah] 42 (0,0)))∧zaa (w'.heap[aB]? =some (.cells #[.string au,.int .i64 av] 42 (0,0)))∧zaa (Below w.heap.size w w'))
 case atStart=>exact⟨(0),((⟨#[]⟩:ByteArray)),(0),rz,H',⟨Nat.le_refl _⟩,⟨bk⟩,⟨bk⟩,⟨bk⟩,⟨bk⟩,⟨bk⟩,⟨bk⟩,⟨bz⟩⟩
 case round=>
  clear H'
  try clear c8
  try clear bI
  try clear b1
  try clear cy
  try clear cT
  try clear cV
  try clear cW
  try clear cX
  try clear bS bU bV bW
  try clear bX bY bZ b0
  try clear b2 b3 b4 b5
  try clear b6 b7 b8 ca
  try clear cb cc cd ce
  try clear cf cg ci cj
  try clear ck cm cn co
  try clear cp cq cr ct
  try clear cu cv cw cx
  obtain⟨ar,X,Y,rfl,HA,cz,O,U,ac,af,ak,aG,HB⟩:=hrel
  cases gk with
  |zero=>exact absurd HA.out (by simp[zaO.l0])
  |succ k1=>
   have H:=HA.out
   clear HA
   simp only[zaO.l0] at H
   by_cases bQ:ar<2
   case neg=>
    replace H:=hN H bQ
    have bC:=decide_eq_false bQ
    clear bQ
    try rw[bC]
    simp only[Option.some.injEq,Prod.mk.injEq] at H
    obtain⟨rfl,rfl,rfl⟩:=H
    have e5:=aj.out
    have e6:=ai.out
    have e7:=aw.out
    have e8:=ax.out
    have e9:=ay.out
    have fa:=az.out
    have fb:=ad.out
    have fc:=ae.out
    have fe:=aC.out
    have fg:=aD.out
    obtain⟨dh,di,dj,dk⟩:=cz2 (W:=wr) U
    go_wp2
    refine bodyPost_ret (zaC rfl _ _ E 42 #[.string (⟨#[]⟩:ByteArray),.int .i64 0] (0,0) _ rfl bk Tryz.underlying42 rfl (by kernel_rfl)) rfl ?_
    exact⟨ez,bz⟩
   replace H:=hE H bQ
   have bC:=decide_eq_true bQ
   clear bQ
   try rw[bC]
   by_cases bD:ar=0
   ·replace H:=hE H bD
    have cY:(ar==0)=true:=beq_iff_eq.mpr bD
    have hix_: ∀W:World,(Instr.index 119 (.agg #[.string ag,.int .i64 ah,.string au,.int .i64 av]) (.int .i64 ar)).run Tryz.prog W= .ok (.agg #[.string ag,.int .i64 ah]) W:=by intro W;rw[bD];kernel_rfl
    have cZ:(ar !=0)=false:=bne_eq_false_iff_eq.mpr bD
    clear bD
    replace H:=bs H
    obtain⟨cQ,gl,H⟩:=H
    go_upto_if 64 with(first|((with_reducible refine zah (N:=16) rfl ?_);refine zag rfl (N:=16) rfl (cs:=#[.string (⟨#[]⟩:ByteArray),.int .i64 0]) (t:=42) gz ?_;intro c5 hg gm hbox hb;have gn:=gN bz hg;have aN:=lN (g:=D) (cs:=#[.string J,.int .i64 A]) hg bk;have aO:=rN (g:=D) (cs:=#[.string J,.int .i64 A]) hg bk;have aP:=lN (g:=E) (cs:=#[.string X,.int .i64 Y]) hg bk;have aQ:=rN (g:=E) (cs:=#[.string X,.int .i64 Y]) hg bk;have aR:=lN (g:=M) (cs:=#[.string Z,.int .i64 aa]) hg bk;have aS:=rN (g:=M) (cs:=#[.string Z,.int .i64 aa]) hg bk;have aT:=lN (g:=I) (cs:=#[.string (⟨#[49]⟩:ByteArray),.int .i64 (wrap64 ((wrap64 (A-a1))+1))]) hg bk;have aU:=rN (g:=I) (cs:=#[.string (⟨#[49]⟩:ByteArray),.int .i64 (wrap64 ((wrap64 (A-a1))+1))]) hg bk;have aV:=lN (g:=B) (cs:=#[.string ag,.int .i64 ah]) hg bk;have aW:=rN (g:=B) (cs:=#[.string ag,.int .i64 ah]) hg bk;have aX:=lN (g:=aB) (cs:=#[.string au,.int .i64 av]) hg bk;have aY:=rN (g:=aB) (cs:=#[.string au,.int .i64 av]) hg bk;replace O:=kN (g:=D) (cs:=#[.string J,.int .i64 A]) hb bk;replace U:=kN (g:=E) (cs:=#[.string X,.int .i64 Y]) hb bk;replace ac:=kN (g:=M) (cs:=#[.string Z,.int .i64 aa]) hb bk;replace af:=kN (g:=I) (cs:=#[.string (⟨#[49]⟩:ByteArray),.int .i64 (wrap64 ((wrap64 (A-a1))+1))]) hb bk;replace ak:=kN (g:=B) (cs:=#[.string ag,.int .i64 ah]) hb bk;replace aG:=kN (g:=aB) (cs:=#[.string au,.int .i64 av]) hb bk;have bE:=zaa.mk hbox;replace HB:=bN bz hb;clear hb hbox hg;have gp:=aO.out;have gq:=aN.out;have gr:=aQ.out;have gs:=aP.out;have gt:=aS.out;have gu:=aR.out;have gv:=aU.out;have gw:=aT.out;have gx:=aW.out;have gy:=aV.out;have gA:=aY.out;have gC:=aX.out;obtain⟨em,en,eo,ep⟩:=cz2 (W:=gm) bE)|(go_at_call 56;(with_reducible refine(zay.calls k1 aH aI aJ aK aL ag ah cQ _ gl.out).mono ?_);rintro e eq ⟨rfl,hb⟩;replace O:=kN (g:=D) (cs:=#[.string J,.int .i64 A]) hb bk;replace U:=kN (g:=E) (cs:=#[.string X,.int .i64 Y]) hb bk;replace ac:=kN (g:=M) (cs:=#[.string Z,.int .i64 aa]) hb bk;replace af:=kN (g:=I) (cs:=#[.string (⟨#[49]⟩:ByteArray),.int .i64 (wrap64 ((wrap64 (A-a1))+1))]) hb bk;replace ak:=kN (g:=B) (cs:=#[.string ag,.int .i64 ah]) hb bk;replace aG:=kN (g:=aB) (cs:=#[.string au,.int .i64 av]) hb bk;replace bE:=kN (g:=c5) (cs:=#[.string ag,.int .i64 ah]) hb bk;replace HB:=bN bz hb;(try clear hb);(try clear bJ);(try clear hk);(try clear hi)))
    (try simp only[Act.put,List.setIfInBounds_toArray,List.set_cons_zero,List.set_cons_succ])
    by_cases cA:cQ=true
    case neg=>
     replace cA:=Bool.eq_false_iff.mpr cA
     subst cA
     replace H:=hF H
     have H':=zaa.mk H
     clear H
     go_wp2
     go_roundg k1
     case measure=>have:=cz.out;omega
     case rel=>exact⟨(wrap64 (ar+1)),(X),(Y),rz,H',⟨by have:=cz.out;omega⟩,⟨bk⟩,⟨bk⟩,⟨bk⟩,⟨bk⟩,⟨bk⟩,⟨bk⟩,⟨bz⟩⟩
    subst cA
    replace H:=hT H
    simp only[Option.some.injEq,Prod.mk.injEq] at H
    obtain⟨rfl,rfl,rfl⟩:=H
    have gD:=aO.out
    have gE:=aN.out
    have gF:=aQ.out
    have gH:=aP.out
    have gI:=aS.out
    have gJ:=aR.out
    have gK:=aU.out
    have gL:=aT.out
    have gM:=aW.out
    have gO:=aV.out
    have gP:=aY.out
    have gQ:=aX.out
    obtain⟨er,et,eu,ev⟩:=cz2 (W:=eq) bE
    have gR:=aj.out
    have gS:=ai.out
    have gT:=aw.out
    have gU:=ax.out
    have gV:=ay.out
    have gW:=az.out
    have gX:=ad.out
    have gY:=ae.out
    have gZ:=aC.out
    have g0:=aD.out
    obtain⟨ew,ey,eA,eB⟩:=cz2 (W:=eq) U
    go_wp2
    refine bodyPost_ret (zaC rfl _ _ E 42 #[.string ag,.int .i64 ah] (0,0) _ rfl bk Tryz.underlying42 rfl (by kernel_rfl)) rfl ?_
    exact⟨ez,bz⟩
   replace H:=hN H bD
   obtain⟨cY,cZ⟩:=eF bD
   obtain⟨cB,H⟩:=hG H
   have g1:(ar==1)=true:=beq_iff_eq.mpr cB
   have hix_: ∀W:World,(Instr.index 119 (.agg #[.string ag,.int .i64 ah,.string au,.int .i64 av]) (.int .i64 ar)).run Tryz.prog W= .ok (.agg #[.string au,.int .i64 av]) W:=by intro W;rw[cB];kernel_rfl
   have g2:(ar !=1)=false:=bne_eq_false_iff_eq.mpr cB
   clear cB
   replace H:=bs H
   obtain⟨cR,g3,H⟩:=H
   go_upto_if 64 with(first|((with_reducible refine zah (N:=16) rfl ?_);refine zag rfl (N:=16) rfl (cs:=#[.string (⟨#[]⟩:ByteArray),.int .i64 0]) (t:=42) gz ?_;intro c6 hg g4 hbox hb;have g5:=gN bz hg;have aZ:=lN (g:=D) (cs:=#[.string J,.int .i64 A]) hg bk;have a2:=rN (g:=D) (cs:=#[.string J,.int .i64 A]) hg bk;have a3:=lN (g:=E) (cs:=#[.string X,.int .i64 Y]) hg bk;have a4:=rN (g:=E) (cs:=#[.string X,.int .i64 Y]) hg bk;have a5:=lN (g:=M) (cs:=#[.string Z,.int .i64 aa]) hg bk;have a6:=rN (g:=M) (cs:=#[.string Z,.int .i64 aa]) hg bk;have a7:=lN (g:=I) (cs:=#[.string (⟨#[49]⟩:ByteArray),.int .i64 (wrap64 ((wrap64 (A-a1))+1))]) hg bk;have a8:=rN (g:=I) (cs:=#[.string (⟨#[49]⟩:ByteArray),.int .i64 (wrap64 ((wrap64 (A-a1))+1))]) hg bk;have a9:=lN (g:=B) (cs:=#[.string ag,.int .i64 ah]) hg bk;have ba:=rN (g:=B) (cs:=#[.string ag,.int .i64 ah]) hg bk;have bb:=lN (g:=aB) (cs:=#[.string au,.int .i64 av]) hg bk;have bd:=rN (g:=aB) (cs:=#[.string au,.int .i64 av]) hg bk;replace O:=kN (g:=D) (cs:=#[.string J,.int .i64 A]) hb bk;replace U:=kN (g:=E) (cs:=#[.string X,.int .i64 Y]) hb bk;replace ac:=kN (g:=M) (cs:=#[.string Z,.int .i64 aa]) hb bk;replace af:=kN (g:=I) (cs:=#[.string (⟨#[49]⟩:ByteArray),.int .i64 (wrap64 ((wrap64 (A-a1))+1))]) hb bk;replace ak:=kN (g:=B) (cs:=#[.string ag,.int .i64 ah]) hb bk;replace aG:=kN (g:=aB) (cs:=#[.string au,.int .i64 av]) hb bk;have bG:=zaa.mk hbox;replace HB:=bN bz hb;clear hb hbox hg;have g6:=a2.out;have g7:=aZ.out;have g8:=a4.out;have g9:=a3.out;have ha:=a6.out;have hc:=a5.out;have he:=a8.out;have hf:=a7.out;have hh:=ba.out;have hj:=a9.out;have hl:=bd.out;have hm:=bb.out;obtain⟨eC,eD,eE,eG⟩:=cz2 (W:=g4) bG)|(go_at_call 56;(with_reducible refine(zay.calls k1 aH aI aJ aK aL au av cR _ g3.out).mono ?_);rintro e eH ⟨rfl,hb⟩;replace O:=kN (g:=D) (cs:=#[.string J,.int .i64 A]) hb bk;replace U:=kN (g:=E) (cs:=#[.string X,.int .i64 Y]) hb bk;replace ac:=kN (g:=M) (cs:=#[.string Z,.int .i64 aa]) hb bk;replace af:=kN (g:=I) (cs:=#[.string (⟨#[49]⟩:ByteArray),.int .i64 (wrap64 ((wrap64 (A-a1))+1))]) hb bk;replace ak:=kN (g:=B) (cs:=#[.string ag,.int .i64 ah]) hb bk;replace aG:=kN (g:=aB) (cs:=#[.string au,.int .i64 av]) hb bk;replace bG:=kN (g:=c6) (cs:=#[.string au,.int .i64 av]) hb bk;replace HB:=bN bz hb;(try clear hb);(try clear bJ);(try clear hk);(try clear hi)))
   (try simp only[Act.put,List.setIfInBounds_toArray,List.set_cons_zero,List.set_cons_succ])
   by_cases cC:cR=true
   case neg=>
    replace cC:=Bool.eq_false_iff.mpr cC
    subst cC
    replace H:=hF H
    have H':=zaa.mk H
    clear H
    go_wp2
    go_roundg k1
    case measure=>have:=cz.out;omega
    case rel=>exact⟨(wrap64 (ar+1)),(X),(Y),rz,H',⟨by have:=cz.out;omega⟩,⟨bk⟩,⟨bk⟩,⟨bk⟩,⟨bk⟩,⟨bk⟩,⟨bk⟩,⟨bz⟩⟩
   subst cC
   replace H:=hT H
   simp only[Option.some.injEq,Prod.mk.injEq] at H
   obtain⟨rfl,rfl,rfl⟩:=H
   have eI:=a2.out
   have eJ:=aZ.out
   have eK:=a4.out
   have eL:=a3.out
   have eM:=a6.out
   have eN:=a5.out
   have eO:=a8.out
   have eP:=a7.out
   have eQ:=ba.out
   have eR:=a9.out
   have eS:=bd.out
   have eU:=bb.out
   obtain⟨c7,c9,da,db⟩:=cz2 (W:=eH) bG
   have eV:=aj.out
   have eW:=ai.out
   have eX:=aw.out
   have eY:=ax.out
   have eZ:=ay.out
   have e0:=az.out
   have e1:=ad.out
   have e2:=ae.out
   have e3:=aC.out
   have e4:=aD.out
   obtain⟨dc,dd,de,df⟩:=cz2 (W:=eH) U
   go_wp2
   refine bodyPost_ret (zaC rfl _ _ E 42 #[.string au,.int .i64 av] (0,0) _ rfl bk Tryz.underlying42 rfl (by kernel_rfl)) rfl ?_
   exact⟨ez,bz⟩
end
end Go.Proofs.YtecpgdfnamkfdaaGreatDoor.Fn
end
section
namespace Go.Proofs.YtecpgdfnamkfdaaGreatDoor.Fn
open Go.RowKit Go.Proofs.YtecpgdfnamkfdaaGreatDoorW.PrintWords Go.Proofs.YtecpgdfnamkfdaaGreatDoorW.PrintLast Go.Proofs.YtecpgdfnamkfdaaGreatDoorW.PrintMore
attribute [local go_sem] fnW_0 fnW_1 fnW_2 fnW_3 fnW_4 fnW_5 fnW_guard fnW_eql zaF zaG zaK zaL
set_option linter.unusedVariables false
set_option linter.unusedSimpArgs false
mutual
def zae.j0:Nat→ByteArray→Int→Int→Int→Int→Int→Int→Int→Bool→Int→Option (ByteArray)
 |0,_,_,_,_,_,_,_,_,_,_=>none
 |k+1,x3,x4,x5,B,D,E,I,A,J,K=>if A<0 then((zaV.f x4).bind fun M=>((za9.f M (⟨#[48]⟩:ByteArray)).bind fun O=>(zae.j4 k x3 x5 O B D E I A J K))) else(if A≥16 then((zaV.f x4).bind fun U=>((zaU.f U A).bind fun X=>(zae.j4 k x3 x5 X B D E I A J K))) else(if 0≤(IntKind.u64.wrap (64-(IntKind.u64.wrap (wrap64 (64-(wrap64 (4*A))))))) then(if(IntKind.u64.wrap (wrap64 (64-(wrap64 (4*A)))))=64 then(zae.j1 k x3 x4 x5 (⟨#[]⟩:ByteArray) (IntKind.u64.wrap (wrap64 (64-(wrap64 (4*A))))) x4 B D E I A J K) else(zae.j1 k x3 x4 x5 (⟨#[]⟩:ByteArray) (IntKind.u64.wrap (wrap64 (64-(wrap64 (4*A))))) (shl .u64 x4 (IntKind.u64.wrap (64-(IntKind.u64.wrap (wrap64 (64-(wrap64 (4*A)))))))) B D E I A J K)) else(none)))
def zae.j4:Nat→ByteArray→Int→ByteArray→Int→Int→Int→Int→Int→Bool→Int→Option (ByteArray)
 |0,_,_,_,_,_,_,_,_,_,_=>none
 |k+1,x3,x5,x7,B,D,E,I,J,K,A=>(zaB.f B D E I J K A x3 x7).bind fun O=>((zbb.f (⟨#[112]⟩:ByteArray) x5 2).bind fun U=>((zat.f (([(⟨#[48,120]⟩:ByteArray),O,U]:List ByteArray))).bind fun M=>(if A=88 then((zbm.f M).bind fun X=>(some X)) else(some M))))
def zae.j1:Nat→ByteArray→Int→Int→ByteArray→Int→Int→Int→Int→Int→Int→Int→Bool→Int→Option (ByteArray)
 |0,_,_,_,_,_,_,_,_,_,_,_,_,_=>none
 |k+1,x3,x4,x5,x7,x8,x9,B,D,E,I,A,J,K=>if 0≤x8 then(if(Int.tmod (shr .u64 x4 x8) 2)=1 then(zae.j2 k x3 x5 x7 x8 x9 (shr .u64 x4 x8) true B D E I A J K) else(if A=0 then(zae.j2 k x3 x5 x7 x8 x9 (shr .u64 x4 x8) (x3.toList==([49]:List UInt8)) B D E I A J K) else(zae.j2 k x3 x5 x7 x8 x9 (shr .u64 x4 x8) false B D E I A J K))) else(none)
def zae.j2:Nat→ByteArray→Int→ByteArray→Int→Int→Int→Bool→Int→Int→Int→Int→Int→Bool→Int→Option (ByteArray)
 |0,_,_,_,_,_,_,_,_,_,_,_,_,_,_=>none
 |k+1,x3,x5,x7,x8,x9,M,O,A,B,D,E,I,J,K=>if x9>9223372036854775808 then(zae.j3 k x3 x5 x7 x8 M true A B D E I J K) else(if x9=9223372036854775808 then(zae.j3 k x3 x5 x7 x8 M O A B D E I J K) else(zae.j3 k x3 x5 x7 x8 M false A B D E I J K))
def zae.j3:Nat→ByteArray→Int→ByteArray→Int→Int→Bool→Int→Int→Int→Int→Int→Bool→Int→Option (ByteArray)
 |0,_,_,_,_,_,_,_,_,_,_,_,_,_=>none
 |k+1,x3,x5,x7,x8,X,Y,B,D,E,I,A,J,K=>if Y=true then(if 0≤(IntKind.u64.wrap (64-x8)) then(if(shr .u64 (IntKind.u64.wrap (X+1)) (IntKind.u64.wrap (64-x8)))>0 then(if A>0 then(if 0≤x8 then((zaV.f (shl .u64 0 x8)).bind fun M=>(if 0≤A then(if A≤(M.size:Int) then(zae.j4 k x3 (wrap64 (x5+1)) (M.extract 0 (A:Int).toNat) B D E I A J K) else(none)) else(none))) else(none)) else(zae.j4 k x3 (wrap64 (x5+1)) x7 B D E I A J K)) else(if A>0 then(if 0≤x8 then((zaV.f (shl .u64 (IntKind.u64.wrap (X+1)) x8)).bind fun O=>(if 0≤A then(if A≤(O.size:Int) then(zae.j4 k x3 x5 (O.extract 0 (A:Int).toNat) B D E I A J K) else(none)) else(none))) else(none)) else(zae.j4 k x3 x5 x7 B D E I A J K))) else(none)) else(if A>0 then(if 0≤x8 then((zaV.f (shl .u64 X x8)).bind fun U=>(if 0≤A then(if A≤(U.size:Int) then(zae.j4 k x3 x5 (U.extract 0 (A:Int).toNat) B D E I A J K) else(none)) else(none))) else(none)) else(zae.j4 k x3 x5 x7 B D E I A J K))
end
def zae.f(k:Nat)(E:Int)(I:Int)(A:Int)(B:Int)(J:Int)(K:Bool)(M:Int):Option (ByteArray):=if A>0 then((bits_Len64.f A).bind fun D=>(if 0≤(wrap64 (64-D)) then(zae.j0 k (⟨#[49]⟩:ByteArray) (IntKind.u64.wrap ((shl .u64 A (wrap64 (64-D)))*2)) (wrap64 ((wrap64 (B+D))-1)) E I A B J K M) else(none))) else(zae.j0 k (⟨#[48]⟩:ByteArray) 0 0 E I A B J K M)
def zae.T23:Bool×List (List Nat×List Nat):=(true,[([],[]),([],[]),([0,1],[0,1]),([2],[2]),([],[]),([4],[4]),([3,5],[3,5]),([6,3,0,1,2,3,4,5,6],[6])])
def zae.B23:List Nat:=[0,0,3,7,0,16,63,127]
theorem zae.tab23:rtab .any (opsOf Tryz.f70 23)=zae.T23:=by kernel_rfl
theorem zae.bits23:waitsOk zae.T23.2 zae.B23=true:=by kernel_rfl
set_option maxHeartbeats 8000000 in
set_option maxRecDepth 100000 in
theorem zae.calls(k:Nat)(O:Int)(U:Int)(E:Int)(I:Int)(D:Int)(X:Bool)(J:Int)(r:ByteArray)(w:World)(h:zae.f k O U E I D X J=some r):
  Calls Tryz.prog 70 #[.agg #[.int .u64 O,.int .i64 U,.int .u64 E,.int .i64 I,.int .i64 D,.bool X,.int .i32 J]] w fun e w'=>e= .returned (.string r)∧Below w.heap.size w w':=by
 have hf:=Tryz.underlying74
 have HB:=zaa.mk (Below.refl w.heap.size w)
 have H:(if E>0 then((bits_Len64.f E).bind fun aE=>(if 0≤(wrap64 (64-aE)) then(zae.j0 k (⟨#[49]⟩:ByteArray) (IntKind.u64.wrap ((shl .u64 E (wrap64 (64-aE)))*2)) (wrap64 ((wrap64 (I+aE))-1)) O U E I D X J) else(none))) else(zae.j0 k (⟨#[48]⟩:ByteArray) 0 0 O U E I D X J))=some r:=h
 clear h
 have cu:=zaa.mk H
 clear H
 go_enter Tryz.func70,Tryz.ntmps70
 go_upto_if 15 with(first|((with_reducible refine zah (N:=1) rfl ?_);refine zag rfl (N:=1) rfl (cs:=#[.int .u64 O,.int .i64 U,.int .u64 E,.int .i64 I,.int .i64 D,.bool X,.int .i32 J]) (t:=74) gz ?_;intro B hg w3 hbox hb;have gv:=gN bz hg;have A:=zaa.mk hbox;replace HB:=bN bz hb;clear hb hbox hg;obtain⟨aF,aG,aH,aI,aJ,ah,ai,aj,ak,al,am,an,ao,ap⟩:=cz7 (W:=w3) A))
 (try simp only[Act.put,List.setIfInBounds_toArray,List.set_cons_zero,List.set_cons_succ])
 go_cut [3,4,5] (fun v3 v4 v5 wc=> ∃(kq:Nat) (ar:ByteArray) (ac:Int) (aa:Int),v3= .string ar∧v4= .int .u64 ac∧v5= .int .i64 aa∧zaa (zae.j0 kq ar ac aa O U E I D X J=some r)∧zaa (kq≤k)∧zaa (wc.heap[B]? =some (.cells #[.int .u64 O,.int .i64 U,.int .u64 E,.int .i64 I,.int .i64 D,.bool X,.int .i32 J] 74 (0,0)))∧zaa (Below w.heap.size w wc))
 case first=>
  have H:=cu.out
  clear cu
  by_cases c5:E>0
  case neg=>
   replace H:=hN H c5
   have bX:decide (0<E)=false:=decide_eq_false c5
   clear c5
   try rw[bX]
   have H':=zaa.mk H
   clear H
   go_wp2
   go_meet
   case rel=>exact⟨_,((⟨#[48]⟩:ByteArray)),(0),(0),rz,rz,rz,H',⟨by first|omega|exact Nat.le_refl _⟩,⟨bk⟩,⟨bz⟩⟩
  replace H:=hE H c5
  have bX:decide (0<E)=true:=decide_eq_true c5
  clear c5
  try rw[bX]
  replace H:=bs H
  obtain⟨aE,A6,H⟩:=H
  obtain⟨bY,bL⟩:=ex (wrap64 (64-aE))
  (first|rw[bL] at H|simp only[bL] at H)
  (try rw[bL] at A6)
  have gw:(IntKind.i64.wrap (64-aE))=bY:=(zap _).trans bL
  obtain⟨hh,hj,H⟩:=hG3 H
  obtain⟨cv,bf⟩:=ex (shl .u64 E (bY))
  (first|rw[bf] at H|simp only[bf] at H)
  (try rw[bf] at A6)
  have gx:(IntKind.u64.wrap (E*2^min (bY).toNat 64))=cv:=bf
  have gy:(bY)≤64→(IntKind.u64.wrap (E*2^(bY).toNat))=cv:=zbA bf
  have H':=zaa.mk H
  clear H
  obtain⟨cG,cH,cI,cJ,cK,cL,cM,cN,cO,cP,cQ,cR,cS,cT⟩:=cz7 (W:=w3) A
  try go_wp2_with (first|((with_reducible refine zac (f:=112) rfl ?_);refine gB Tryz.func112 (bits_Len64.calls E aE _ A6.out) ?_;intro gA hb;replace A:=kN (g:=B) (cs:=#[.int .u64 O,.int .i64 U,.int .u64 E,.int .i64 I,.int .i64 D,.bool X,.int .i32 J]) hb bk;replace HB:=bN bz hb;(try clear hb);(try clear aM);(try clear hk);(try clear hi)))
  replace A:=zaa.mk (zao A.out)
  replace HB:=zaa.mk (zaM HB.out)
  refine zbc (n:=7) (S:=fun w'=>w'.cell? ⟨B,0,none⟩=some (.int .u64 O)∧w'.cell? ⟨B,1,none⟩=some (.int .i64 U)∧w'.cell? ⟨B,2,none⟩=some (.int .u64 E)∧w'.cell? ⟨B,3,none⟩=some (.int .i64 I)∧w'.cell? ⟨B,4,none⟩=some (.int .i64 D)∧w'.cell? ⟨B,5,none⟩=some (.bool X)∧w'.cell? ⟨B,6,none⟩=some (.int .i32 J)) (ds:=[]) #[false,false,false,false,false,false,false] (by kernel_rfl) rfl rfl ⟨(zab A.out 0).trans rfl,(zab A.out 1).trans rfl,(zab A.out 2).trans rfl,(zab A.out 3).trans rfl,(zab A.out 4).trans rfl,(zab A.out 5).trans rfl,(zab A.out 6).trans rfl⟩ (fun hHeld=>?_)
  generalize gA.drew=gC at A HB hHeld ⊢
  refine zbx (i:=0) (N:=some 19) (v:=?_) (a':=?_) #[true,false,false,false,false,false,false] rfl rfl (by kernel_rfl) (fun _ _ _ h=>h) (Or.inl ⟨by rfl,?_⟩) ?_ ?_
  rotate_left
  ·intro w'
   go_simp
   with_reducible rfl
  rotate_left
  ·simp only[Act.put,List.setIfInBounds_toArray,List.set_cons_zero,List.set_cons_succ,zap,zav]
   rfl
  refine zbx (i:=2) (N:=some 21) (v:=?_) (a':=?_) #[true,false,true,false,false,false,false] rfl rfl (by kernel_rfl) (fun _ _ _ h=>h) (Or.inl ⟨by rfl,?_⟩) ?_ ?_
  rotate_left
  ·intro w'
   go_simp
   with_reducible rfl
  rotate_left
  ·simp only[Act.put,List.setIfInBounds_toArray,List.set_cons_zero,List.set_cons_succ,zap,zav]
   rfl
  refine zbx (i:=5) (N:=some 3) (v:=?_) (a':=?_) #[true,false,true,false,false,true,false] rfl rfl (by kernel_rfl) (fun _ _ _ h=>h) (Or.inl ⟨by rfl,?_⟩) ?_ ?_
  rotate_left
  ·intro w'
   go_simp
   with_reducible rfl
  rotate_left
  ·simp only[Act.put,List.setIfInBounds_toArray,List.set_cons_zero,List.set_cons_succ,zap,zav]
   rfl
  refine zcp (i:=1) (N:=some 20) (v:=?_) (a':=?_) #[true,true,true,false,false,true,false] rfl rfl (by kernel_rfl) (fun _ _ _ h=>h) (Or.inl ⟨by rfl,?_⟩) hHeld ?_ ?_
  rotate_left
  ·rintro w' ⟨s0,s1,s2,s3,s4,s5,s6⟩
   go_simp
   with_reducible rfl
  rotate_left
  ·simp only[Act.put,List.setIfInBounds_toArray,List.set_cons_zero,List.set_cons_succ,zap,zav]
   rfl
  refine zbx (i:=3) (N:=some 22) (v:=?_) (a':=?_) #[true,true,true,true,false,true,false] rfl rfl (by kernel_rfl) (fun _ _ _ h=>h) (Or.inl ⟨by rfl,?_⟩) ?_ ?_
  rotate_left
  ·intro w'
   go_simp
   with_reducible rfl
  rotate_left
  ·simp only[Act.put,List.setIfInBounds_toArray,List.set_cons_zero,List.set_cons_succ,zap,zav]
   rfl
  refine zbx (i:=4) (N:=some 23) (v:=?_) (a':=?_) #[true,true,true,true,true,true,false] rfl rfl (by kernel_rfl) (fun _ _ _ h=>h) (Or.inl ⟨by rfl,?_⟩) ?_ ?_
  rotate_left
  ·intro w'
   go_simp
   with_reducible rfl
  rotate_left
  ·simp only[Act.put,List.setIfInBounds_toArray,List.set_cons_zero,List.set_cons_succ,zap,zav]
   rfl
  refine zbx (i:=6) (N:=some 5) (v:=?_) (a':=?_) #[true,true,true,true,true,true,true] rfl rfl (by kernel_rfl) (fun _ _ _ h=>h) (Or.inl ⟨by rfl,?_⟩) ?_ ?_
  rotate_left
  ·intro w'
   go_simp
   with_reducible rfl
  rotate_left
  ·simp only[Act.put,List.setIfInBounds_toArray,List.set_cons_zero,List.set_cons_succ,zap,zav]
   rfl
  refine zc5 (by kernel_rfl) ?_
  obtain⟨cV,cW,cX,cY,cZ,c6,c7,c8,c9,da,db,dc,dd,de⟩:=cz7 (W:=gC) A
  try go_wp2
  go_meet
  case rel=>exact⟨_,((⟨#[49]⟩:ByteArray)),(IntKind.u64.wrap ((cv)*2)),(wrap64 ((wrap64 (I+aE))-1)),rz,(by first|rfl|(simp;done)|(simp only[←bf]<;>(first|rfl|simp))|(simp[*];done)),rz,H',⟨by first|omega|exact Nat.le_refl _⟩,⟨bk⟩,⟨bz⟩⟩
 case rest=>
  clear cu
  try clear aF aG aH aI aJ ah ai aj ak al am an ao ap
  obtain⟨kq,ar,ac,aa,rfl,rfl,rfl,HA,ag,A,HB⟩:=hcut
  cases kq with
  |zero=>exact absurd HA.out (by simp[zae.j0])
  |succ df=>
   have H:=HA.out
   clear HA
   simp only[zae.j0] at H
   have bZ:=zaa.mk H
   clear H
   obtain⟨aN,aO,aP,aQ,aR,aS,aT,au,av,aw,ax,ay,az,aA⟩:=cz7 (W:=wc) A
   go_upto_if 32 with(fail)
   go_cut [5,7] (fun v5 v7 wc=> ∃(kq:Nat) (bj:Int) (bl:ByteArray),v5= .int .i64 bj∧v7= .string bl∧zaa (zae.j4 kq ar bj bl O U E I D X J=some r)∧zaa (kq≤df)∧zaa (wc.heap[B]? =some (.cells #[.int .u64 O,.int .i64 U,.int .u64 E,.int .i64 I,.int .i64 D,.bool X,.int .i32 J] 74 (0,0)))∧zaa (Below w.heap.size w wc))
   case first=>
    have H:=bZ.out
    clear bZ
    by_cases bm:D<0
    ·replace H:=hE H bm
     have aC:=decide_eq_true bm
     clear bm
     try rw[aC]
     replace H:=bs H
     obtain⟨cm,gD,H⟩:=H
     replace H:=bs H
     obtain⟨cn,gE,H⟩:=H
     have H':=zaa.mk H
     clear H
     go_wp2_with (first|((with_reducible refine zac (f:=113) rfl ?_);refine gB Tryz.func113 (zaV.calls ac cm _ gD.out) ?_;intro hq hb;replace A:=kN (g:=B) (cs:=#[.int .u64 O,.int .i64 U,.int .u64 E,.int .i64 I,.int .i64 D,.bool X,.int .i32 J]) hb bk;replace HB:=bN bz hb;(try clear hb);(try clear aM);(try clear hk);(try clear hi))|((with_reducible refine zac (f:=80) rfl ?_);refine gB Tryz.func80 (za9.calls cm (⟨#[48]⟩:ByteArray) cn _ gE.out) ?_;intro hs hb;replace A:=kN (g:=B) (cs:=#[.int .u64 O,.int .i64 U,.int .u64 E,.int .i64 I,.int .i64 D,.bool X,.int .i32 J]) hb bk;replace HB:=bN bz hb;(try clear hb);(try clear aM);(try clear hk);(try clear hi)))
     go_meet
     case rel=>exact⟨_,(aa),(cn),rz,rz,H',⟨by have:=ag.out;first|omega|exact Nat.le_refl _⟩,⟨bk⟩,⟨bz⟩⟩
    replace H:=hN H bm
    have aC:=decide_eq_false bm
    clear bm
    try rw[aC]
    by_cases bn:D≥16
    ·replace H:=hE H bn
     have bo:decide (16≤D)=true:=decide_eq_true bn
     clear bn
     replace H:=bs H
     obtain⟨co,gF,H⟩:=H
     replace H:=bs H
     obtain⟨cp,gH,H⟩:=H
     have H':=zaa.mk H
     clear H
     obtain⟨dh,di,dj,dk,dl,dm,dn,dp,dq,dt,du,dv,dw,dx⟩:=cz7 (W:=wc) A
     try go_wp2
     replace A:=zaa.mk (zao A.out)
     replace HB:=zaa.mk (zaM HB.out)
     refine zbc (n:=6) (S:=fun w'=>w'.cell? ⟨B,0,none⟩=some (.int .u64 O)∧w'.cell? ⟨B,1,none⟩=some (.int .i64 U)∧w'.cell? ⟨B,2,none⟩=some (.int .u64 E)∧w'.cell? ⟨B,3,none⟩=some (.int .i64 I)∧w'.cell? ⟨B,4,none⟩=some (.int .i64 D)∧w'.cell? ⟨B,5,none⟩=some (.bool X)∧w'.cell? ⟨B,6,none⟩=some (.int .i32 J)) (ds:=[]) #[false,false,false,false,false,false] (by kernel_rfl) rfl rfl ⟨(zab A.out 0).trans rfl,(zab A.out 1).trans rfl,(zab A.out 2).trans rfl,(zab A.out 3).trans rfl,(zab A.out 4).trans rfl,(zab A.out 5).trans rfl,(zab A.out 6).trans rfl⟩ (fun hHeld=>?_)
     generalize wc.drew=ht at A HB hHeld ⊢
     refine zbx (i:=0) (N:=some 39) (v:=?_) (a':=?_) #[true,false,false,false,false,false] rfl rfl (by kernel_rfl) (fun _ _ _ h=>h) (Or.inl ⟨by rfl,?_⟩) ?_ ?_
     rotate_left
     ·intro w'
      go_simp
      with_reducible rfl
     rotate_left
     ·simp only[Act.put,List.setIfInBounds_toArray,List.set_cons_zero,List.set_cons_succ,zap,zav]
      rfl
     refine zbx (i:=2) (N:=some 41) (v:=?_) (a':=?_) #[true,false,true,false,false,false] rfl rfl (by kernel_rfl) (fun _ _ _ h=>h) (Or.inl ⟨by rfl,?_⟩) ?_ ?_
     rotate_left
     ·intro w'
      go_simp
      with_reducible rfl
     rotate_left
     ·simp only[Act.put,List.setIfInBounds_toArray,List.set_cons_zero,List.set_cons_succ,zap,zav]
      rfl
     refine zcp (i:=3) (N:=some 42) (v:=?_) (a':=?_) #[true,false,true,true,false,false] rfl rfl (by kernel_rfl) (fun _ _ _ h=>h) (Or.inl ⟨by rfl,?_⟩) hHeld ?_ ?_
     rotate_left
     ·rintro w' ⟨s0,s1,s2,s3,s4,s5,s6⟩
      go_simp
      with_reducible rfl
     rotate_left
     ·simp only[Act.put,List.setIfInBounds_toArray,List.set_cons_zero,List.set_cons_succ,zap,zav]
      rfl
     refine one_ (i:=1) (N:=some 40) #[true,true,true,true,false,false] rfl rfl (by kernel_rfl) (by decide) (fun K hK=>?_)
     refine gG Tryz.func113 (zaV.calls ac co _ gF.out) ?_
     intro hu hb
     replace A:=kN (g:=B) (cs:=#[.int .u64 O,.int .i64 U,.int .u64 E,.int .i64 I,.int .i64 D,.bool X,.int .i32 J]) hb bk
     replace HB:=bN bz hb
     (try clear hb)
     (try clear aM)
     (try clear hk)
     (try clear hi)
     refine hK.out _ _ (d7 A) (fun hHeld=>?_)
     clear hK K
     refine zaN (a':=?_) ?_ ?_
     rotate_left
     ·show Act.put _ (some 40) _=_
      simp only[Act.put,List.setIfInBounds_toArray,List.set_cons_zero,List.set_cons_succ,zap,zav]
      rfl
     refine one_ (i:=4) (N:=some 43) #[true,true,true,true,true,false] rfl rfl (by kernel_rfl) (by decide) (fun K hK=>?_)
     refine gG Tryz.func105 (zaU.calls co D cp _ gH.out) ?_
     intro hv hb
     replace A:=kN (g:=B) (cs:=#[.int .u64 O,.int .i64 U,.int .u64 E,.int .i64 I,.int .i64 D,.bool X,.int .i32 J]) hb bk
     replace HB:=bN bz hb
     (try clear hb)
     (try clear aM)
     (try clear hk)
     (try clear hi)
     refine hK.out _ _ (d7 A) (fun hHeld=>?_)
     clear hK K
     refine zaN (a':=?_) ?_ ?_
     rotate_left
     ·show Act.put _ (some 43) _=_
      simp only[Act.put,List.setIfInBounds_toArray,List.set_cons_zero,List.set_cons_succ,zap,zav]
      rfl
     refine zbx (i:=5) (N:=some 7) (v:=?_) (a':=?_) #[true,true,true,true,true,true] rfl rfl (by kernel_rfl) (fun _ _ _ h=>h) (Or.inl ⟨by rfl,?_⟩) ?_ ?_
     rotate_left
     ·intro w'
      go_simp
      with_reducible rfl
     rotate_left
     ·simp only[Act.put,List.setIfInBounds_toArray,List.set_cons_zero,List.set_cons_succ,zap,zav]
      rfl
     refine zc5 (by kernel_rfl) ?_
     try go_wp2
     go_meet
     case rel=>exact⟨_,(aa),(cp),rz,rz,H',⟨by have:=ag.out;first|omega|exact Nat.le_refl _⟩,⟨bk⟩,⟨bz⟩⟩
    replace H:=hN H bn
    have bo:decide (16≤D)=false:=decide_eq_false bn
    clear bn
    obtain⟨bM,b0⟩:=ex (IntKind.u64.wrap (64-(IntKind.u64.wrap (wrap64 (64-(wrap64 (4*D)))))))
    (first|rw[b0] at H|simp only[b0] at H)
    obtain⟨bC,bD,H⟩:=hG3 H
    obtain⟨b1,aU⟩:=ex (shl .u64 ac (bM))
    (first|rw[aU] at H|simp only[aU] at H)
    have gi:(IntKind.u64.wrap (ac*2^min (bM).toNat 64))=b1:=aU
    have gj:(bM)≤64→(IntKind.u64.wrap (ac*2^(bM).toNat))=b1:=zbA aU
    have b2:=zaa.mk H
    clear H
    obtain⟨aV,aW,aX,aY,aZ,a1,a2,a3,a4,a5,a6,a7,a8,a9⟩:=cz7 (W:=wc) A
    go_upto_if 54 with(fail)
    go_cut [9] (fun v9 wc=> ∃(kq:Nat) (af:Int),v9= .int .u64 af∧zaa (zae.j1 kq ar ac aa (⟨#[]⟩:ByteArray) (IntKind.u64.wrap (wrap64 (64-(wrap64 (4*D))))) af O U E I D X J=some r)∧zaa (kq≤df)∧zaa (wc.heap[B]? =some (.cells #[.int .u64 O,.int .i64 U,.int .u64 E,.int .i64 I,.int .i64 D,.bool X,.int .i32 J] 74 (0,0)))∧zaa (Below w.heap.size w wc))
    case first=>
     have H:=b2.out
     clear b2
     by_cases b3:(IntKind.u64.wrap (wrap64 (64-(wrap64 (4*D)))))=64
     ·replace H:=hE H b3
      obtain⟨ba,bE⟩:=eT b3
      clear b3
      (first|rw[ba]|rw[bE]|(simp only[zap,zav];rw[ba])|skip)
      have H':=zaa.mk H
      clear H
      go_wp2
      go_meet
      case rel=>exact⟨_,(ac),rz,H',⟨by have:=ag.out;first|omega|exact Nat.le_refl _⟩,⟨bk⟩,⟨bz⟩⟩
     replace H:=hN H b3
     obtain⟨ba,bE⟩:=eF b3
     (first|rw[ba]|rw[bE]|(simp only[zap,zav];rw[ba])|skip)
     have H':=zaa.mk H
     clear H
     go_wp2
     go_meet
     case rel=>exact⟨_,(b1),(by first|rfl|(simp;done)|(simp only[←aU]<;>(first|rfl|simp))|(simp[*];done)),H',⟨by have:=ag.out;first|omega|exact Nat.le_refl _⟩,⟨bk⟩,⟨bz⟩⟩
    case rest=>
     clear b2
     try clear bm
     try clear aC
     try clear bn
     try clear bo
     try clear bC
     try clear bD
     try clear aN aO aP aQ aR aS aT au av aw ax ay az aA
     try clear aV aW aX aY aZ a1 a2 a3 a4 a5 a6 a7 a8 a9
     try clear aF aG aH aI aJ ah ai aj ak al am an ao ap
     obtain⟨kq,af,rfl,HA,ae,A,HB⟩:=hcut
     cases kq with
     |zero=>exact absurd HA.out (by simp[zae.j1])
     |succ dy=>
      have H:=HA.out
      clear HA
      simp only[zae.j1] at H
      obtain⟨Y,b4⟩:=ex (IntKind.u64.wrap (wrap64 (64-(wrap64 (4*D)))))
      (first|rw[b4] at H|simp only[b4] at H)
      obtain⟨b5,b6,H⟩:=hG3 H
      obtain⟨ab,bp⟩:=ex (shr .u64 ac (Y))
      (first|rw[bp] at H|simp only[bp] at H)
      have gk:(ac / 2^min (Y).toNat 64)=ab:=bp
      have gl:(Y)≤64→(ac / 2^(Y).toNat)=ab:=zcQ bp
      have b7:=zaa.mk H
      clear H
      go_upto_region 16 with(fail)
      go_cut [11] (fun gI wc=> ∃(kq:Nat) (aK:Bool),gI= .bool aK∧zaa (zae.j2 kq ar aa (⟨#[]⟩:ByteArray) (Y) af ab aK O U E I D X J=some r)∧zaa (kq≤dy)∧zaa (wc.heap[B]? =some (.cells #[.int .u64 O,.int .i64 U,.int .u64 E,.int .i64 I,.int .i64 D,.bool X,.int .i32 J] 74 (0,0)))∧zaa (Below w.heap.size w wc))
      case first=>
       have H:=b7.out
       clear b7
       by_cases b8:(Int.tmod (ab) 2)=1
       ·replace H:=hE H b8
        obtain⟨bG,bH⟩:=eT b8
        clear b8
        try first|rw[bG]|rw[bH]
        have H':=zaa.mk H
        clear H
        go_wp2
        go_meet
        case rel=>exact⟨_,(true),rz,H',⟨by have:=ag.out;have:=ae.out;first|omega|exact Nat.le_refl _⟩,⟨bk⟩,⟨bz⟩⟩
       replace H:=hN H b8
       obtain⟨bG,bH⟩:=eF b8
       try first|rw[bG]|rw[bH]
       by_cases ca:D=0
       ·replace H:=hE H ca
        obtain⟨cw,cx⟩:=eT ca
        clear ca
        have H':=zaa.mk H
        clear H
        obtain⟨dA,dB,dC,dD,dE,dF,dG,dH,dI,dJ,dK,dL,dM,dN⟩:=cz7 (W:=wc) A
        go_wp2
        go_meet
        case rel=>exact⟨_,((ar.toList==([49]:List UInt8))),rz,H',⟨by have:=ag.out;have:=ae.out;first|omega|exact Nat.le_refl _⟩,⟨bk⟩,⟨bz⟩⟩
       replace H:=hN H ca
       obtain⟨cw,cx⟩:=eF ca
       have H':=zaa.mk H
       clear H
       obtain⟨dO,dP,dQ,dR,dS,dT,dU,dV,dW,dY,dZ,d0,d5,d6⟩:=cz7 (W:=wc) A
       go_wp2
       go_meet
       case rel=>exact⟨_,(false),rz,H',⟨by have:=ag.out;have:=ae.out;first|omega|exact Nat.le_refl _⟩,⟨bk⟩,⟨bz⟩⟩
      case rest=>
       clear b7
       try clear bm
       try clear aC
       try clear bn
       try clear bo
       try clear bC
       try clear bD
       try clear b5
       try clear b6
       try clear aN aO aP aQ aR aS aT au av aw ax ay az aA
       try clear aV aW aX aY aZ a1 a2 a3 a4 a5 a6 a7 a8 a9
       try clear aF aG aH aI aJ ah ai aj ak al am an ao ap
       obtain⟨kq,aK,rfl,HA,aB,A,HB⟩:=hcut
       cases kq with
       |zero=>exact absurd HA.out (by simp[zae.j2])
       |succ d9=>
        have H:=HA.out
        clear HA
        simp only[zae.j2] at H
        have cb:=zaa.mk H
        clear H
        go_upto_region 17 with(fail)
        go_cut [79] (fun gJ wc=> ∃(kq:Nat) (aL:Bool),gJ= .bool aL∧zaa (zae.j3 kq ar aa (⟨#[]⟩:ByteArray) (Y) ab aL O U E I D X J=some r)∧zaa (kq≤d9)∧zaa (wc.heap[B]? =some (.cells #[.int .u64 O,.int .i64 U,.int .u64 E,.int .i64 I,.int .i64 D,.bool X,.int .i32 J] 74 (0,0)))∧zaa (Below w.heap.size w wc))
        case first=>
         have H:=cb.out
         clear cb
         by_cases bR:af>9223372036854775808
         ·replace H:=hE H bR
          have bI:decide (9223372036854775808<af)=true:=decide_eq_true bR
          clear bR
          try rw[bI]
          have H':=zaa.mk H
          clear H
          go_wp2
          go_meet
          case rel=>exact⟨_,(true),rz,H',⟨by have:=ag.out;have:=ae.out;have:=aB.out;first|omega|exact Nat.le_refl _⟩,⟨bk⟩,⟨bz⟩⟩
         replace H:=hN H bR
         have bI:decide (9223372036854775808<af)=false:=decide_eq_false bR
         clear bR
         try rw[bI]
         by_cases cc:af=9223372036854775808
         ·replace H:=hE H cc
          obtain⟨cy,cz⟩:=eT cc
          clear cc
          have H':=zaa.mk H
          clear H
          go_wp2
          go_meet
          case rel=>exact⟨_,(aK),rz,H',⟨by have:=ag.out;have:=ae.out;have:=aB.out;first|omega|exact Nat.le_refl _⟩,⟨bk⟩,⟨bz⟩⟩
         replace H:=hN H cc
         obtain⟨cy,cz⟩:=eF cc
         have H':=zaa.mk H
         clear H
         go_wp2
         go_meet
         case rel=>exact⟨_,(false),rz,H',⟨by have:=ag.out;have:=ae.out;have:=aB.out;first|omega|exact Nat.le_refl _⟩,⟨bk⟩,⟨bz⟩⟩
        case rest=>
         clear cb
         try clear bm
         try clear aC
         try clear bn
         try clear bo
         try clear bC
         try clear bD
         try clear b5
         try clear b6
         try clear aN aO aP aQ aR aS aT au av aw ax ay az aA
         try clear aV aW aX aY aZ a1 a2 a3 a4 a5 a6 a7 a8 a9
         try clear aF aG aH aI aJ ah ai aj ak al am an ao ap
         obtain⟨kq,aL,rfl,HA,bg,A,HB⟩:=hcut
         cases kq with
         |zero=>exact absurd HA.out (by simp[zae.j3])
         |succ hl=>
          have H:=HA.out
          clear HA
          simp only[zae.j3] at H
          by_cases ck:aL=true
          case neg=>
           replace ck:=Bool.eq_false_iff.mpr ck
           subst ck
           replace H:=hF H
           by_cases bW:D>0
           case neg=>
            replace H:=hN H bW
            have cD:decide (0<D)=false:=decide_eq_false bW
            clear bW
            have H':=zaa.mk H
            clear H
            obtain⟨fs,ft,fu,fv,fw,fx,fy,fz,fA,fC,fD,fF,fG,fH⟩:=cz7 (W:=wc) A
            go_wp2
            go_meet
            case rel=>exact⟨_,(aa),((⟨#[]⟩:ByteArray)),rz,rz,H',⟨by have:=ag.out;have:=ae.out;have:=aB.out;have:=bg.out;first|omega|exact Nat.le_refl _⟩,⟨bk⟩,⟨bz⟩⟩
           replace H:=hE H bW
           have cD:decide (0<D)=true:=decide_eq_true bW
           clear bW
           obtain⟨g1,g2,H⟩:=hG3 H
           obtain⟨bQ,bd⟩:=ex (shl .u64 ab (Y))
           (first|rw[bd] at H|simp only[bd] at H)
           have gt:(IntKind.u64.wrap (ab*2^min (Y).toNat 64))=bQ:=bd
           have gu:(Y)≤64→(IntKind.u64.wrap (ab*2^(Y).toNat))=bQ:=zbA bd
           replace H:=bs H
           obtain⟨ct,g3,H⟩:=H
           obtain⟨g4,g5,H⟩:=hG3 H
           obtain⟨g6,g7,H⟩:=hG3 H
           have H':=zaa.mk H
           clear H
           obtain⟨fa,fb,fc,fe,fg,fh,fi,fj,fk,fl,fm,fo,fp,fq⟩:=cz7 (W:=wc) A
           try go_wp2
           replace A:=zaa.mk (zao A.out)
           replace HB:=zaa.mk (zaM HB.out)
           refine zbc (n:=8) (S:=fun w'=>w'.cell? ⟨B,0,none⟩=some (.int .u64 O)∧w'.cell? ⟨B,1,none⟩=some (.int .i64 U)∧w'.cell? ⟨B,2,none⟩=some (.int .u64 E)∧w'.cell? ⟨B,3,none⟩=some (.int .i64 I)∧w'.cell? ⟨B,4,none⟩=some (.int .i64 D)∧w'.cell? ⟨B,5,none⟩=some (.bool X)∧w'.cell? ⟨B,6,none⟩=some (.int .i32 J)) (ds:=[]) #[false,false,false,false,false,false,false,false] (by kernel_rfl) rfl rfl ⟨(zab A.out 0).trans rfl,(zab A.out 1).trans rfl,(zab A.out 2).trans rfl,(zab A.out 3).trans rfl,(zab A.out 4).trans rfl,(zab A.out 5).trans rfl,(zab A.out 6).trans rfl⟩ (fun hHeld=>?_);refine za3 zae.tab23 zae.bits23 (fun Z HW_=>?_)
           generalize wc.drew=hA at A HB hHeld ⊢
           refine pz (i:=0) (N:=92) Z ?_
           refine pz (i:=1) (N:=93) Z ?_
           refine pz (i:=2) (N:=94) Z ?_
           refine pz (i:=4) (N:=96) Z ?_
           refine tz (i:=5) (N:=97) rfl Z HW_ hHeld (by(rintro w' ⟨s0,s1,s2,s3,s4,s5,s6⟩;go_simp;with_reducible rfl)) ?_
           refine oz (i:=3) (N:=some 95) Z fun K hK=>?_
           refine zc6 Tryz.func113 (by kernel_rfl) rfl #[.int .u64 bQ] (by rfl) rfl rfl (by(try simp only[List.map_toArray,List.map_cons,List.map_nil]);first|done|(simp only[bd];rfl)|rfl|(simp only[List.length_drop,List.length_take];rfl)) ?_
           with_reducible refine(zaV.calls bQ ct _ g3.out).mono ?_
           rintro e hB ⟨rfl,hb⟩
           refine⟨_,rfl,?_⟩
           replace A:=kN (g:=B) (cs:=#[.int .u64 O,.int .i64 U,.int .u64 E,.int .i64 I,.int .i64 D,.bool X,.int .i32 J]) hb bk
           replace HB:=bN bz hb
           (try clear hb)
           (try clear aM)
           (try clear hk)
           (try clear hi)
           refine hK.out _ _ (d7 A) (fun hHeld=>?_)
           clear hK K
           refine zaN (a':=?_) ?_ ?_
           rotate_left
           ·show Act.put _ (some 95) _=_
            simp only[Act.put,List.setIfInBounds_toArray,List.set_cons_zero,List.set_cons_succ,zap,zav]
            rfl
           refine pz (i:=6) (N:=98) Z ?_
           refine pz (i:=7) (N:=7) Z ?_
           refine dz Z ?_
           try go_wp2
           go_meet
           case rel=>exact⟨_,(aa),(ct.extract 0 (D:Int).toNat),rz,rz,H',⟨by have:=ag.out;have:=ae.out;have:=aB.out;have:=bg.out;first|omega|exact Nat.le_refl _⟩,⟨bk⟩,⟨bz⟩⟩
          subst ck
          replace H:=hT H
          obtain⟨bO,cd⟩:=ex (IntKind.u64.wrap (64-(Y)))
          (first|rw[cd] at H|simp only[cd] at H)
          obtain⟨gK,gL,H⟩:=hG3 H
          obtain⟨br,bq⟩:=ex (shr .u64 (IntKind.u64.wrap (ab+1)) (bO))
          (first|rw[bq] at H|simp only[bq] at H)
          have gm:((IntKind.u64.wrap (ab+1)) / 2^min (bO).toNat 64)=br:=bq
          have gn:(bO)≤64→((IntKind.u64.wrap (ab+1)) / 2^(bO).toNat)=br:=zcQ bq
          by_cases bS:(br)>0
          ·replace H:=hE H bS
           have cA:decide (0<(br))=true:=decide_eq_true bS
           clear bS
           by_cases bU:D>0
           case neg=>
            replace H:=hN H bU
            have cB:decide (0<D)=false:=decide_eq_false bU
            clear bU
            have H':=zaa.mk H
            clear H
            obtain⟨ep,eq,er,et,eu,ev,ew,ey,eA,eB,eC,eD,eE,eG⟩:=cz7 (W:=wc) A
            go_wp2
            go_meet
            case rel=>exact⟨_,(wrap64 (aa+1)),((⟨#[]⟩:ByteArray)),rz,rz,H',⟨by have:=ag.out;have:=ae.out;have:=aB.out;have:=bg.out;first|omega|exact Nat.le_refl _⟩,⟨bk⟩,⟨bz⟩⟩
           replace H:=hE H bU
           have cB:decide (0<D)=true:=decide_eq_true bU
           clear bU
           obtain⟨gM,gO,H⟩:=hG3 H
           obtain⟨ce,aD⟩:=ex (shl .u64 0 (Y))
           (first|rw[aD] at H|simp only[aD] at H)
           have gp:(IntKind.u64.wrap (0*2^min (Y).toNat 64))=ce:=aD
           have gq:(Y)≤64→(IntKind.u64.wrap (0*2^(Y).toNat))=ce:=zbA aD
           have hz_:ce=0:=by rw[←aD];unfold shl;rw[Int.zero_mul];rfl
           subst hz_
           replace H:=bs H
           obtain⟨cq,gP,H⟩:=H
           obtain⟨gQ,gR,H⟩:=hG3 H
           obtain⟨gS,gT,H⟩:=hG3 H
           have H':=zaa.mk H
           clear H
           obtain⟨ea,eb,ec,ed,ee,ef,eg,eh,ei,ej,ek,em,en,eo⟩:=cz7 (W:=wc) A
           try go_wp2
           replace A:=zaa.mk (zao A.out)
           replace HB:=zaa.mk (zaM HB.out)
           refine zbc (n:=8) (S:=fun w'=>w'.cell? ⟨B,0,none⟩=some (.int .u64 O)∧w'.cell? ⟨B,1,none⟩=some (.int .i64 U)∧w'.cell? ⟨B,2,none⟩=some (.int .u64 E)∧w'.cell? ⟨B,3,none⟩=some (.int .i64 I)∧w'.cell? ⟨B,4,none⟩=some (.int .i64 D)∧w'.cell? ⟨B,5,none⟩=some (.bool X)∧w'.cell? ⟨B,6,none⟩=some (.int .i32 J)) (ds:=[]) #[false,false,false,false,false,false,false,false] (by kernel_rfl) rfl rfl ⟨(zab A.out 0).trans rfl,(zab A.out 1).trans rfl,(zab A.out 2).trans rfl,(zab A.out 3).trans rfl,(zab A.out 4).trans rfl,(zab A.out 5).trans rfl,(zab A.out 6).trans rfl⟩ (fun hHeld=>?_);refine za3 zae.tab23 zae.bits23 (fun Z HW_=>?_)
           generalize wc.drew=hw at A HB hHeld ⊢
           refine pz (i:=0) (N:=92) Z ?_
           refine pz (i:=1) (N:=93) Z ?_
           refine pz (i:=2) (N:=94) Z ?_
           refine pz (i:=4) (N:=96) Z ?_
           refine tz (i:=5) (N:=97) rfl Z HW_ hHeld (by(rintro w' ⟨s0,s1,s2,s3,s4,s5,s6⟩;go_simp;with_reducible rfl)) ?_
           refine oz (i:=3) (N:=some 95) Z fun K hK=>?_
           refine zc6 Tryz.func113 (by kernel_rfl) rfl #[.int .u64 0] (by rfl) rfl rfl (by(try simp only[List.map_toArray,List.map_cons,List.map_nil]);first|done|(simp only[aD];rfl)|rfl|(simp only[List.length_drop,List.length_take];rfl)) ?_
           with_reducible refine(zaV.calls 0 cq _ gP.out).mono ?_
           rintro e hx ⟨rfl,hb⟩
           refine⟨_,rfl,?_⟩
           replace A:=kN (g:=B) (cs:=#[.int .u64 O,.int .i64 U,.int .u64 E,.int .i64 I,.int .i64 D,.bool X,.int .i32 J]) hb bk
           replace HB:=bN bz hb
           (try clear hb)
           (try clear aM)
           (try clear hk)
           (try clear hi)
           refine hK.out _ _ (d7 A) (fun hHeld=>?_)
           clear hK K
           refine zaN (a':=?_) ?_ ?_
           rotate_left
           ·show Act.put _ (some 95) _=_
            simp only[Act.put,List.setIfInBounds_toArray,List.set_cons_zero,List.set_cons_succ,zap,zav]
            rfl
           refine pz (i:=6) (N:=98) Z ?_
           refine pz (i:=7) (N:=7) Z ?_
           refine dz Z ?_
           try go_wp2
           go_meet
           case rel=>exact⟨_,(wrap64 (aa+1)),(cq.extract 0 (D:Int).toNat),rz,rz,H',⟨by have:=ag.out;have:=ae.out;have:=aB.out;have:=bg.out;first|omega|exact Nat.le_refl _⟩,⟨bk⟩,⟨bz⟩⟩
          replace H:=hN H bS
          have cA:decide (0<(br))=false:=decide_eq_false bS
          clear bS
          by_cases bV:D>0
          case neg=>
           replace H:=hN H bV
           have cC:decide (0<D)=false:=decide_eq_false bV
           clear bV
           have H':=zaa.mk H
           clear H
           obtain⟨eW,eX,eY,eZ,e0,e1,e2,e3,e4,e5,e6,e7,e8,e9⟩:=cz7 (W:=wc) A
           go_wp2
           go_meet
           case rel=>exact⟨_,(aa),((⟨#[]⟩:ByteArray)),rz,rz,H',⟨by have:=ag.out;have:=ae.out;have:=aB.out;have:=bg.out;first|omega|exact Nat.le_refl _⟩,⟨bk⟩,⟨bz⟩⟩
          replace H:=hE H bV
          have cC:decide (0<D)=true:=decide_eq_true bV
          clear bV
          obtain⟨gU,gV,H⟩:=hG3 H
          obtain⟨bP,bb⟩:=ex (shl .u64 (IntKind.u64.wrap (ab+1)) (Y))
          (first|rw[bb] at H|simp only[bb] at H)
          have gr:(IntKind.u64.wrap ((IntKind.u64.wrap (ab+1))*2^min (Y).toNat 64))=bP:=bb
          have gs:(Y)≤64→(IntKind.u64.wrap ((IntKind.u64.wrap (ab+1))*2^(Y).toNat))=bP:=zbA bb
          replace H:=bs H
          obtain⟨cr,gW,H⟩:=H
          obtain⟨gX,gY,H⟩:=hG3 H
          obtain⟨gZ,g0,H⟩:=hG3 H
          have H':=zaa.mk H
          clear H
          obtain⟨eH,eI,eJ,eK,eL,eM,eN,eO,eP,eQ,eR,eS,eU,eV⟩:=cz7 (W:=wc) A
          try go_wp2
          replace A:=zaa.mk (zao A.out)
          replace HB:=zaa.mk (zaM HB.out)
          refine zbc (n:=8) (S:=fun w'=>w'.cell? ⟨B,0,none⟩=some (.int .u64 O)∧w'.cell? ⟨B,1,none⟩=some (.int .i64 U)∧w'.cell? ⟨B,2,none⟩=some (.int .u64 E)∧w'.cell? ⟨B,3,none⟩=some (.int .i64 I)∧w'.cell? ⟨B,4,none⟩=some (.int .i64 D)∧w'.cell? ⟨B,5,none⟩=some (.bool X)∧w'.cell? ⟨B,6,none⟩=some (.int .i32 J)) (ds:=[]) #[false,false,false,false,false,false,false,false] (by kernel_rfl) rfl rfl ⟨(zab A.out 0).trans rfl,(zab A.out 1).trans rfl,(zab A.out 2).trans rfl,(zab A.out 3).trans rfl,(zab A.out 4).trans rfl,(zab A.out 5).trans rfl,(zab A.out 6).trans rfl⟩ (fun hHeld=>?_);refine za3 zae.tab23 zae.bits23 (fun Z HW_=>?_)
          generalize wc.drew=hy at A HB hHeld ⊢
          refine pz (i:=0) (N:=92) Z ?_
          refine pz (i:=1) (N:=93) Z ?_
          refine pz (i:=2) (N:=94) Z ?_
          refine pz (i:=4) (N:=96) Z ?_
          refine tz (i:=5) (N:=97) rfl Z HW_ hHeld (by(rintro w' ⟨s0,s1,s2,s3,s4,s5,s6⟩;go_simp;with_reducible rfl)) ?_
          refine oz (i:=3) (N:=some 95) Z fun K hK=>?_
          refine zc6 Tryz.func113 (by kernel_rfl) rfl #[.int .u64 bP] (by rfl) rfl rfl (by(try simp only[List.map_toArray,List.map_cons,List.map_nil]);first|done|(simp only[bb];rfl)|rfl|(simp only[List.length_drop,List.length_take];rfl)) ?_
          with_reducible refine(zaV.calls bP cr _ gW.out).mono ?_
          rintro e hz ⟨rfl,hb⟩
          refine⟨_,rfl,?_⟩
          replace A:=kN (g:=B) (cs:=#[.int .u64 O,.int .i64 U,.int .u64 E,.int .i64 I,.int .i64 D,.bool X,.int .i32 J]) hb bk
          replace HB:=bN bz hb
          (try clear hb)
          (try clear aM)
          (try clear hk)
          (try clear hi)
          refine hK.out _ _ (d7 A) (fun hHeld=>?_)
          clear hK K
          refine zaN (a':=?_) ?_ ?_
          rotate_left
          ·show Act.put _ (some 95) _=_
           simp only[Act.put,List.setIfInBounds_toArray,List.set_cons_zero,List.set_cons_succ,zap,zav]
           rfl
          refine pz (i:=6) (N:=98) Z ?_
          refine pz (i:=7) (N:=7) Z ?_
          refine dz Z ?_
          try go_wp2
          go_meet
          case rel=>exact⟨_,(aa),(cr.extract 0 (D:Int).toNat),rz,rz,H',⟨by have:=ag.out;have:=ae.out;have:=aB.out;have:=bg.out;first|omega|exact Nat.le_refl _⟩,⟨bk⟩,⟨bz⟩⟩
   case rest=>
    clear bZ
    try clear ah ai aj ak al am an ao ap
    try clear au av aw ax ay az aA
    obtain⟨kq,bj,bl,rfl,rfl,HA,hm,A,HB⟩:=hcut
    cases kq with
    |zero=>exact absurd HA.out (by simp[zae.j4])
    |succ hn=>
     have H:=HA.out
     clear HA
     simp only[zae.j4] at H
     replace H:=bs H
     obtain⟨bh,g8,H⟩:=H
     replace H:=bs H
     obtain⟨bi,g9,H⟩:=H
     obtain⟨cf,be⟩: ∃y_:List ByteArray,y_=(([(⟨#[48,120]⟩:ByteArray),bh,bi]:List ByteArray)):=⟨_,rfl⟩
     replace H:((zat.f cf).bind fun bu=>(if J=88 then((zbm.f bu).bind fun cg=>(some cg)) else(some bu)))=some r:=by first|(rw[be];with_reducible exact H)|(have cF:=(Option.bind_some _ _).symm.trans H;rw[be];with_reducible exact cF)|(have cF:=(Option.bind_some _ _).symm.trans H;with_reducible exact cF)|with_reducible exact H|(rw[be];exact H)|exact H
     have ci:=zaa.mk be
     clear be
     replace H:=bs H
     obtain⟨bu,ha,H⟩:=H
     obtain⟨fI,fJ,fK,fL,fN,fO,fP,fQ,fR,fS,fT,fU,fV,fX⟩:=cz7 (W:=wc) A
     go_upto_if 109 with(first|((with_reducible refine zac (f:=107) rfl ?_);refine gB Tryz.func107 (zaB.calls O U E I D X J ar bl bh _ g8.out) ?_;intro hC hb;replace A:=kN (g:=B) (cs:=#[.int .u64 O,.int .i64 U,.int .u64 E,.int .i64 I,.int .i64 D,.bool X,.int .i32 J]) hb bk;replace HB:=bN bz hb;(try clear hb);(try clear aM);(try clear hk);(try clear hi))|((with_reducible refine zac (f:=111) rfl ?_);refine gB Tryz.func111 (zbb.calls (⟨#[112]⟩:ByteArray) bj 2 bi _ g9.out) ?_;intro hD hb;replace A:=kN (g:=B) (cs:=#[.int .u64 O,.int .i64 U,.int .u64 E,.int .i64 I,.int .i64 D,.bool X,.int .i32 J]) hb bk;replace HB:=bN bz hb;(try clear hb);(try clear aM);(try clear hk);(try clear hi))|((with_reducible refine zah (N:=105) rfl ?_);refine Kd.R_lit Kd.string _ 9 ?hg (N:=105) ?hd (xs:=([(⟨#[48,120]⟩:ByteArray),bh,bi]:List ByteArray)) (inner:=[.string (⟨#[48,120]⟩:ByteArray),.string bh,.string bi]) (ok:=fun _=>True) (okp:=fun _=>True) ?hr ?hp (fun _ hk=>hk) trivial (Below.refl _ _) (Nat.le_refl _) (by simp) ?_;(case hd=>rfl);(case hg=>rfl);(case hr=>first|(go_simp;done)|(go_simp;rfl));(case hp=>exact(Reps.one (show Kd.M Kd.string _ _ _ (⟨#[48,120]⟩:ByteArray) [.string (⟨#[48,120]⟩:ByteArray)] from rfl) (Reps.one (show Kd.M Kd.string _ _ _ bh [.string bh] from rfl) (Reps.one (show Kd.M Kd.string _ _ _ bi [.string bi] from rfl) (Reps.none _ _)))));intro ho hH bv hb hg_ hnew_;clear hg_ hnew_;(first|rw[←ci.out] at bv|(simp only[Int.reduceToNat] at bv;rw[←ci.out] at bv));have bw:=zaa.mk (Kd.R_lower bv (zaA bz));have bA:=kN (g:=B) (cs:=#[.int .u64 O,.int .i64 U,.int .u64 E,.int .i64 I,.int .i64 D,.bool X,.int .i32 J]) hb bk;have bB:=bN bz hb;clear A;clear HB;have ad:=bw;have A:=bA;have HB:=bB;clear bw bA bB;clear hb bv;obtain⟨fY,fZ,f0⟩:=Kd.R_slice ad.out;subst f0)|((with_reducible refine zac (f:=109) rfl ?_);refine zbK (some 106) rfl rfl Tryz.func109 (by kernel_rfl) rfl #[.slice fY cf.length fZ] rfl lz ?_;(with_reducible refine(zat.calls _ _ cf bu _ ?side1 ?side2 ha.out).mono ?_);(case side1=>repeat(first|exact(Kd.R_reads' ad.out).2.2|(with_reducible refine Kd.C_alloc ?_ _)|(with_reducible refine Kd.C_drewN ?_ _)|(with_reducible refine Kd.C_drew ?_)));(case side2=>exact(Kd.R_reads' ad.out).2.1);rintro e hc ⟨rfl,hb⟩;refine⟨_,rfl,?_⟩;have bw:=zaa.mk (Kd.R_below (by(with_reducible repeat(first|apply Kd.R_alloc|apply Kd.R_drewN|apply Kd.R_drew));exact ad.out) hb);have bA:=kN (g:=B) (cs:=#[.int .u64 O,.int .i64 U,.int .u64 E,.int .i64 I,.int .i64 D,.bool X,.int .i32 J]) hb bk;have bB:=bN bz hb;clear ad;clear A;clear HB;have ad:=bw;have A:=bA;have HB:=bB;clear bw bA bB;(try clear hb);(try clear aM);(try clear hk);(try clear hi);obtain⟨f2,f3,f4,f5,f6,f7,f8,f9,ga,gb,ge,gf,gg,gh⟩:=cz7 (W:=hc) A))
     (try simp only[Act.put,List.setIfInBounds_toArray,List.set_cons_zero,List.set_cons_succ])
     by_cases cj:J=88
     ·replace H:=hE H cj
      obtain⟨bJ,bK⟩:=eT cj
      clear cj
      try first|rw[bJ]|rw[bK]
      replace H:=bs H
      obtain⟨cg,he,H⟩:=H
      obtain rfl:=Option.some.inj H
      go_wp2_with (first|((with_reducible refine zac (f:=114) rfl ?_);refine gB Tryz.func114 (zbm.calls bu cg _ he.out) ?_;intro hI hb;have bw:=zaa.mk (Kd.R_below (by(with_reducible repeat(first|apply Kd.R_alloc|apply Kd.R_drewN|apply Kd.R_drew));exact ad.out) hb);have bA:=kN (g:=B) (cs:=#[.int .u64 O,.int .i64 U,.int .u64 E,.int .i64 I,.int .i64 D,.bool X,.int .i32 J]) hb bk;have bB:=bN bz hb;clear ad;clear A;clear HB;have ad:=bw;have A:=bA;have HB:=bB;clear bw bA bB;(try clear hb);(try clear aM);(try clear hk);(try clear hi)))
      go_ret
      exact⟨ez,bz⟩
     replace H:=hN H cj
     obtain⟨bJ,bK⟩:=eF cj
     try first|rw[bJ]|rw[bK]
     obtain rfl:=Option.some.inj H
     go_wp2
     go_ret
     exact⟨ez,bz⟩
end Go.Proofs.YtecpgdfnamkfdaaGreatDoor.Fn
end
section
namespace Go.Proofs.YtecpgdfnamkfdaaGreatDoor.Fn
open Go.RowKit Go.Proofs.YtecpgdfnamkfdaaGreatDoorW.PrintWords Go.Proofs.YtecpgdfnamkfdaaGreatDoorW.PrintLast Go.Proofs.YtecpgdfnamkfdaaGreatDoorW.PrintMore
set_option linter.unusedVariables false
set_option linter.unusedSimpArgs false
section
attribute [local go_sem] fnW_0 fnW_1 fnW_2 fnW_3 fnW_4 fnW_5 fnW_guard fnW_eql zaF zaG zaK zaL
theorem eqA42(d:Nat)(w:World)(x0 y0:ByteArray)(x1 y1:Int):
  (Op.equalIn (d+2) 42 (.agg #[.string x0,.int .i64 x1]) (.agg #[.string y0,.int .i64 y1])).run Tryz.prog w= .ok (x0.toList==y0.toList&&(x1==y1)) w:=by
 refine eqA_of Tryz.underlying42 (by kernel_rfl) ?_
 refine zhf (by rfl) (by go_simp;rfl) (by go_simp;rfl) (by go_simp) ?_
 exact zhe (by rfl) (by go_simp;rfl) (by go_simp;rfl) (by go_simp)
end
end Go.Proofs.YtecpgdfnamkfdaaGreatDoor.Fn
end
section
namespace Go.Proofs.YtecpgdfnamkfdaaGreatDoor.Fn
open Go.RowKit Go.Proofs.YtecpgdfnamkfdaaGreatDoorW.PrintWords Go.Proofs.YtecpgdfnamkfdaaGreatDoorW.PrintLast Go.Proofs.YtecpgdfnamkfdaaGreatDoorW.PrintMore
attribute [local go_sem] fnW_0 fnW_1 fnW_2 fnW_3 fnW_4 fnW_5 fnW_guard fnW_eql zaF zaG zaK zaL
set_option linter.unusedVariables false
set_option linter.unusedSimpArgs false
mutual
def zaz.j0:Nat→Int→Bool→Option (Int)
 |0,_,_=>none
 |k+1,x3,x4=>if x4=true then(some 1) else(if x3=102 then(zaz.j1 k x3 (x3==102)) else(zaz.j1 k x3 (x3==70)))
def zaz.j1:Nat→Int→Bool→Option (Int)
 |0,_,_=>none
 |k+1,x3,x7=>if x7=true then(some 2) else(if x3=103 then(zaz.j2 k x3 (x3==103)) else(if x3=71 then(zaz.j2 k x3 (x3==71)) else(zaz.j2 k x3 (x3==118))))
def zaz.j2:Nat→Int→Bool→Option (Int)
 |0,_,_=>none
 |k+1,x3,A=>if A=true then(some 3) else(if x3=98 then(some 4) else(if x3=120 then(some 5) else(if x3=88 then(some 5) else(some 0))))
end
def zaz.f(k:Nat)(a0:Int):Option (Int):=if a0=101 then(zaz.j0 k a0 (a0==101)) else(zaz.j0 k a0 (a0==69))
set_option maxHeartbeats 8000000 in
set_option maxRecDepth 100000 in
theorem zaz.calls(k:Nat)(a0:Int)(r:Int)(w:World)(h:zaz.f k a0=some r):
  Calls Tryz.prog 44 #[.int .i32 a0] w fun e w'=>e= .returned (fnW r)∧zbE w w':=by
 have H:(if a0=101 then(zaz.j0 k a0 (a0==101)) else(zaz.j0 k a0 (a0==69)))=some r:=h
 clear h
 have ac:=zaa.mk H
 clear H
 go_enter Tryz.func44,Tryz.ntmps44
 go_upto_if 4 with(fail)
 go_cut [4] (fun v4 wc=> ∃(kq:Nat) (B:Bool),v4= .bool B∧zaa (zaz.j0 kq a0 B=some r)∧zaa (kq≤k)∧zbE w wc)
 case first=>
  have H:=ac.out
  clear ac
  by_cases c3:a0=101
  ·replace H:=hE H c3
   obtain⟨E,I⟩:=eT c3
   clear c3
   try first|rw[E]|rw[I]
   have H':=zaa.mk H
   clear H
   go_wp2
   go_meet
   case rel=>exact⟨_,((a0==101)),rz,H',⟨by first|omega|exact Nat.le_refl _⟩,dr⟩
  replace H:=hN H c3
  obtain⟨E,I⟩:=eF c3
  try first|rw[E]|rw[I]
  have H':=zaa.mk H
  clear H
  go_wp2
  go_meet
  case rel=>exact⟨_,((a0==69)),rz,H',⟨by first|omega|exact Nat.le_refl _⟩,dr⟩
 case rest=>
  clear ac
  obtain⟨kq,B,rfl,HA,J,⟨au,rfl⟩⟩:=hcut
  cases kq with
  |zero=>exact absurd HA.out (by simp[zaz.j0])
  |succ ao=>
   have H:=HA.out
   clear HA
   simp only[zaz.j0] at H
   by_cases c4:B=true
   ·subst c4
    replace H:=hT H
    obtain rfl:=Option.some.inj H
    go_wp2
    go_ret
    exact⟨rd2,dr⟩
   replace c4:=Bool.eq_false_iff.mpr c4
   subst c4
   replace H:=hF H
   have ad:=zaa.mk H
   clear H
   go_upto_if 7 with(fail)
   go_cut [7] (fun v7 wc=> ∃(kq:Nat) (D:Bool),v7= .bool D∧zaa (zaz.j1 kq a0 D=some r)∧zaa (kq≤ao)∧zbE w wc)
   case first=>
    have H:=ad.out
    clear ad
    by_cases c6:a0=102
    ·replace H:=hE H c6
     obtain⟨K,M⟩:=eT c6
     clear c6
     try first|rw[K]|rw[M]
     have H':=zaa.mk H
     clear H
     go_wp2
     go_meet
     case rel=>exact⟨_,((a0==102)),rz,H',⟨by have:=J.out;first|omega|exact Nat.le_refl _⟩,dr⟩
    replace H:=hN H c6
    obtain⟨K,M⟩:=eF c6
    try first|rw[K]|rw[M]
    have H':=zaa.mk H
    clear H
    go_wp2
    go_meet
    case rel=>exact⟨_,((a0==70)),rz,H',⟨by have:=J.out;first|omega|exact Nat.le_refl _⟩,dr⟩
   case rest=>
    clear ad
    try clear c4
    obtain⟨kq,D,rfl,HA,ae,⟨av,rfl⟩⟩:=hcut
    cases kq with
    |zero=>exact absurd HA.out (by simp[zaz.j1])
    |succ ap=>
     have H:=HA.out
     clear HA
     simp only[zaz.j1] at H
     by_cases c7:D=true
     ·subst c7
      replace H:=hT H
      obtain rfl:=Option.some.inj H
      go_wp2
      go_ret
      exact⟨rd2,dr⟩
     replace c7:=Bool.eq_false_iff.mpr c7
     subst c7
     replace H:=hF H
     have af:=zaa.mk H
     clear H
     go_upto_if 10 with(fail)
     go_cut [10] (fun ar wc=> ∃(kq:Nat) (A:Bool),ar= .bool A∧zaa (zaz.j2 kq a0 A=some r)∧zaa (kq≤ap)∧zbE w wc)
     case first=>
      have H:=af.out
      clear af
      by_cases c9:a0=103
      ·replace H:=hE H c9
       obtain⟨O,U⟩:=eT c9
       clear c9
       try first|rw[O]|rw[U]
       have H':=zaa.mk H
       clear H
       go_wp2
       go_meet
       case rel=>exact⟨_,((a0==103)),rz,H',⟨by have:=J.out;have:=ae.out;first|omega|exact Nat.le_refl _⟩,dr⟩
      replace H:=hN H c9
      obtain⟨O,U⟩:=eF c9
      try first|rw[O]|rw[U]
      by_cases X:a0=71
      ·replace H:=hE H X
       obtain⟨ag,ah⟩:=eT X
       clear X
       have H':=zaa.mk H
       clear H
       go_wp2
       go_meet
       case rel=>exact⟨_,((a0==71)),rz,H',⟨by have:=J.out;have:=ae.out;first|omega|exact Nat.le_refl _⟩,dr⟩
      replace H:=hN H X
      obtain⟨ag,ah⟩:=eF X
      have H':=zaa.mk H
      clear H
      go_wp2
      go_meet
      case rel=>exact⟨_,((a0==118)),rz,H',⟨by have:=J.out;have:=ae.out;first|omega|exact Nat.le_refl _⟩,dr⟩
     case rest=>
      clear af
      try clear c4
      try clear c7
      obtain⟨kq,A,rfl,HA,aw,⟨ax,rfl⟩⟩:=hcut
      cases kq with
      |zero=>exact absurd HA.out (by simp[zaz.j2])
      |succ ay=>
       have H:=HA.out
       clear HA
       simp only[zaz.j2] at H
       by_cases ab:A=true
       ·subst ab
        replace H:=hT H
        obtain rfl:=Option.some.inj H
        go_wp2
        go_ret
        exact⟨rd2,dr⟩
       replace ab:=Bool.eq_false_iff.mpr ab
       subst ab
       replace H:=hF H
       by_cases Y:a0=98
       ·replace H:=hE H Y
        obtain⟨ai,aj⟩:=eT Y
        clear Y
        obtain rfl:=Option.some.inj H
        go_wp2
        go_ret
        exact⟨rd2,dr⟩
       replace H:=hN H Y
       obtain⟨ai,aj⟩:=eF Y
       by_cases Z:a0=120
       ·replace H:=hE H Z
        obtain⟨ak,al⟩:=eT Z
        clear Z
        obtain rfl:=Option.some.inj H
        go_wp2
        go_ret
        exact⟨rd2,dr⟩
       replace H:=hN H Z
       obtain⟨ak,al⟩:=eF Z
       by_cases aa:a0=88
       ·replace H:=hE H aa
        obtain⟨am,an⟩:=eT aa
        clear aa
        obtain rfl:=Option.some.inj H
        go_wp2
        go_ret
        exact⟨rd2,dr⟩
       replace H:=hN H aa
       obtain⟨am,an⟩:=eF aa
       obtain rfl:=Option.some.inj H
       go_wp2
       go_ret
       exact⟨rd2,dr⟩
end Go.Proofs.YtecpgdfnamkfdaaGreatDoor.Fn
end
section
namespace Go.Proofs.YtecpgdfnamkfdaaGreatDoor.Fn
open Go.RowKit Go.Proofs.YtecpgdfnamkfdaaGreatDoorW.PrintWords Go.Proofs.YtecpgdfnamkfdaaGreatDoorW.PrintLast Go.Proofs.YtecpgdfnamkfdaaGreatDoorW.PrintMore
set_option linter.unusedVariables false
set_option linter.unusedSimpArgs false
set_option maxHeartbeats 8000000
set_option maxRecDepth 100000
section
attribute [local go_sem] fnW_0 fnW_1 fnW_2 fnW_3 fnW_4 fnW_5 fnW_guard fnW_eql zaF zaG zaK zaL
def zax.f(a0:Int):Option (Bool×Bool×Bool×Bool×Bool×Int×Int×Int):=some (false,false,false,false,false,(-1),(-1),a0)
theorem zax.calls(a0:Int)(r1:Bool)(r2:Bool)(r3:Bool)(r4:Bool)(r5:Bool)(r6:Int)(r7:Int)(r8:Int)(w:World)(h:zax.f a0=some (r1,r2,r3,r4,r5,r6,r7,r8)):
  Calls Tryz.prog 30 #[.int .i32 a0] w fun e w'=>e= .returned (.agg #[.bool r1,.bool r2,.bool r3,.bool r4,.bool r5,.int .i64 r6,.int .i64 r7,.int .i32 r8])∧Below w.heap.size w w':=by
 have ag:=Tryz.underlying26
 have HB:=zaa.mk (Below.refl w.heap.size w)
 have H:(some (false,false,false,false,false,(-1),(-1),a0))=some (r1,r2,r3,r4,r5,r6,r7,r8):=h
 clear h
 simp only[Option.some.injEq,Prod.mk.injEq] at H
 obtain⟨rfl,rfl,rfl,rfl,rfl,rfl,rfl,rfl⟩:=H
 go_enter Tryz.func30,Tryz.ntmps30
 go_wp2_with (first|((with_reducible refine zah (N:=2) rfl ?_);refine zag rfl (N:=2) rfl (cs:=#[.bool false,.bool false,.bool false,.bool false,.bool false,.int .i64 0,.int .i64 0,.int .i32 0]) (t:=26) gz ?_;intro A hg w2 hbox hb;have af:=gN bz hg;have B:=zaa.mk hbox;replace HB:=bN bz hb;clear hb hbox hg;obtain⟨D,E,I,J,K,M,O,U,X,Y,Z,aa,ab,ac,ad,ae⟩:=cz8 (W:=w2) B))
 refine bodyPost_ret (results_cell_row rfl _ _ A 26 #[.bool false,.bool false,.bool false,.bool false,.bool false,.int .i64 (-1),.int .i64 (-1),.int .i32 a0] (0,0) _ rfl bk Tryz.underlying26 rfl (by kernel_rfl)) rfl ?_
 exact⟨ez,bz⟩
def zbq.f(a0:Bool):Option (Int):=if a0=true then(some 64) else(some 32)
theorem zbq.calls(a0:Bool)(r:Int)(w:World)(h:zbq.f a0=some r):
  Calls Tryz.prog 21 #[.bool a0] w fun e w'=>e= .returned (.int .i64 r)∧zbE w w':=by
 have H:(if a0=true then(some 64) else(some 32))=some r:=h
 clear h
 by_cases c2:a0=true
 ·subst c2
  replace H:=hT H
  obtain rfl:=Option.some.inj H
  go_enter Tryz.func21,Tryz.ntmps21
  go_wp2
  go_ret
  exact⟨rd2,dr⟩
 replace c2:=Bool.eq_false_iff.mpr c2
 subst c2
 replace H:=hF H
 obtain rfl:=Option.some.inj H
 go_enter Tryz.func21,Tryz.ntmps21
 go_wp2
 go_ret
 exact⟨rd2,dr⟩
end
end Go.Proofs.YtecpgdfnamkfdaaGreatDoor.Fn
end
section
namespace Go.Proofs.YtecpgdfnamkfdaaGreatDoor.Fn
open Go.RowKit Go.Proofs.YtecpgdfnamkfdaaGreatDoorW.PrintWords Go.Proofs.YtecpgdfnamkfdaaGreatDoorW.PrintLast Go.Proofs.YtecpgdfnamkfdaaGreatDoorW.PrintMore
attribute [local go_sem] fnW_0 fnW_1 fnW_2 fnW_3 fnW_4 fnW_5 fnW_guard fnW_eql zaF zaG zaK zaL
set_option linter.unusedVariables false
set_option linter.unusedSimpArgs false
theorem isE(l:List UInt8):(l !=[])= !l.isEmpty:=by cases l<;>rfl
mutual
def zad.l0:Nat→ByteArray→ByteArray→Int→Bool→Int→Option (ByteArray×Int×Bool)
 |0,_,_,_,_,_=>none
 |k+1,x0,x4,x5,x6,x7=>if x7<(x0.size:Int) then(if 0≤x7 then(if(bt x0 x7)≥48 then(zad.j1 k x0 x4 x5 x6 x7 (bt x0 x7) (decide ((bt x0 x7)≤57))) else(zad.j1 k x0 x4 x5 x6 x7 (bt x0 x7) false)) else(none)) else((zas.f k x4 x5).bind fun A=>(if A.2.2=0 then(some (A.1,A.2.1,(x4.toList !=([]:List UInt8)))) else(some (A.1,A.2.1,false))))
def zad.j1:Nat→ByteArray→ByteArray→Int→Bool→Int→Int→Bool→Option (ByteArray×Int×Bool)
 |0,_,_,_,_,_,_,_=>none
 |k+1,x0,x4,x5,x6,x7,x8,A=>if A=true then(if 0≤x7 then(if x7≤(wrap64 (x7+1)) then(if(wrap64 (x7+1))≤(x0.size:Int) then(if x4.size+(x0.extract (x7:Int).toNat ((wrap64 (x7+1)):Int).toNat).size≤9223372036854775807 then(if x6=true then(zad.l0 k x0 (x4++(x0.extract (x7:Int).toNat ((wrap64 (x7+1)):Int).toNat)) x5 x6 (wrap64 (x7+1))) else(zad.l0 k x0 (x4++(x0.extract (x7:Int).toNat ((wrap64 (x7+1)):Int).toNat)) (wrap64 (x5+1)) x6 (wrap64 (x7+1)))) else(none)) else(none)) else(none)) else(none)) else(if x8=46 then(zad.j2 k x0 x4 x5 x7 x8 (!x6)) else(zad.j2 k x0 x4 x5 x7 x8 false))
def zad.j2:Nat→ByteArray→ByteArray→Int→Int→Int→Bool→Option (ByteArray×Int×Bool)
 |0,_,_,_,_,_,_=>none
 |k+1,x0,x4,x5,x7,x8,A=>if A=true then(zad.l0 k x0 x4 x5 true (wrap64 (x7+1))) else(if x8=101 then(zad.j3 k x0 x4 x5 x7 true) else(zad.j3 k x0 x4 x5 x7 (x8==69)))
def zad.j3:Nat→ByteArray→ByteArray→Int→Int→Bool→Option (ByteArray×Int×Bool)
 |0,_,_,_,_,_=>none
 |k+1,x0,x4,x5,x7,A=>if A=true then(if(x0.size:Int)<(wrap64 (x7+4)) then(zad.j4 k x0 x4 x5 x7 0 true) else(if 0≤(wrap64 (x7+1)) then(if(wrap64 (x7+1))<(x0.size:Int) then(if(bt x0 (wrap64 (x7+1)))=43 then(zad.j4 k x0 x4 x5 x7 0 false) else(zad.j4 k x0 x4 x5 x7 0 ((bt x0 (wrap64 (x7+1)))!=45))) else(none)) else(none))) else(some ((⟨#[]⟩:ByteArray),0,false))
def zad.j4:Nat→ByteArray→ByteArray→Int→Int→Int→Bool→Option (ByteArray×Int×Bool)
 |0,_,_,_,_,_,_=>none
 |k+1,x0,x4,x5,x7,x9,B=>if B=true then(some ((⟨#[]⟩:ByteArray),0,false)) else(if 0≤(wrap64 (x7+2)) then(if(wrap64 (x7+2))≤(x0.size:Int) then(if(x0.extract ((wrap64 (x7+2)):Int).toNat x0.size).size≤9223372036854775807 then((some (bytesOf (x0.extract ((wrap64 (x7+2)):Int).toNat x0.size):List Int)).bind fun A=>(zad.l1 k x0 x4 x5 x7 x9 A (A.length:Int) 0)) else(none)) else(none)) else(none))
def zad.l1:Nat→ByteArray→ByteArray→Int→Int→Int→List Int→Int→Int→Option (ByteArray×Int×Bool)
 |0,_,_,_,_,_,_,_,_=>none
 |k+1,x0,x4,x5,x7,x9,E,I,D=>if D<I then(if 0≤D then(if D<(E.length:Int) then(if(rd E D)<48 then(some ((⟨#[]⟩:ByteArray),0,false)) else(if(rd E D)>57 then(some ((⟨#[]⟩:ByteArray),0,false)) else(if x9>1000 then(some ((⟨#[]⟩:ByteArray),0,false)) else(zad.l1 k x0 x4 x5 x7 (wrap64 ((wrap64 (10*x9))+(((rd E D)-48)%256))) E I (wrap64 (D+1)))))) else(none)) else(none)) else(if 0≤(wrap64 (x7+1)) then(if(wrap64 (x7+1))<(x0.size:Int) then(if(bt x0 (wrap64 (x7+1)))=45 then((zas.f k x4 (wrap64 (x5+(wrap64 (-x9))))).bind fun A=>(if A.2.2=0 then(some (A.1,A.2.1,(x4.toList !=([]:List UInt8)))) else(some (A.1,A.2.1,false)))) else((zas.f k x4 (wrap64 (x5+x9))).bind fun B=>(if B.2.2=0 then(some (B.1,B.2.1,(x4.toList !=([]:List UInt8)))) else(some (B.1,B.2.1,false))))) else(none)) else(none))
end
def zad.f(k:Nat)(a0:ByteArray):Option (ByteArray×Int×Bool):=zad.l0 k a0 (⟨#[]⟩:ByteArray) 0 false 0
set_option maxHeartbeats 8000000 in
set_option maxRecDepth 100000 in
theorem zad.calls(k:Nat)(a0:ByteArray)(r1:ByteArray)(r2:Int)(r3:Bool)(w:World)(h:zad.f k a0=some (r1,r2,r3)):
  Calls Tryz.prog 31 #[.string a0] w fun e w'=>e= .returned (.tuple #[.agg #[.string r1,.int .i64 r2],.bool r3])∧Below w.heap.size w w':=by
 have eP:=Tryz.underlying42
 have HB:=zaa.mk (Below.refl w.heap.size w)
 have H:(zad.l0 k a0 (⟨#[]⟩:ByteArray) 0 false 0)=some (r1,r2,r3):=h
 clear h
 have H':=zaa.mk H
 clear H
 go_enter Tryz.func31,Tryz.ntmps31
 go_wp2_with (first|((with_reducible refine zah (N:=2) rfl ?_);refine zag rfl (N:=2) rfl (cs:=#[.string (⟨#[]⟩:ByteArray),.int .i64 0]) (t:=42) gz ?_;intro A hg w2 hbox hb;have ef:=gN bz hg;have E:=zaa.mk hbox;replace HB:=bN bz hb;clear hb hbox hg))
 go_loopg [4,5,6,7] k (fun kq v4 v5 v6 v7 w'=> ∃(U:ByteArray) (X:Int) (aK:Bool) (M:Int) (B:ByteArray) (D:Int),v4= .string U∧v5= .int .i64 X∧v6= .bool aK∧v7= .int .i64 M∧zaa (zad.l0 kq a0 U X aK M=some (r1,r2,r3))∧zaa (kq≤k)∧zaa (w'.heap[A]? =some (.cells #[.string B,.int .i64 D] 42 (0,0)))∧zaa (Below w.heap.size w w'))
 case atStart=>exact⟨((⟨#[]⟩:ByteArray)),(0),(false),(0),((⟨#[]⟩:ByteArray)),(0),rz,rz,rz,rz,H',⟨Nat.le_refl _⟩,⟨bk⟩,⟨bz⟩⟩
 case round=>
  clear H'
  obtain⟨U,X,aK,M,B,D,rfl,rfl,rfl,rfl,HA,aj,E,HB⟩:=hrel
  cases gk with
  |zero=>exact absurd HA.out (by simp[zad.l0])
  |succ k1=>
   have H:=HA.out
   clear HA
   simp only[zad.l0] at H
   by_cases c3:M<(a0.size:Int)
   case neg=>
    replace H:=hN H c3
    have aL:=decide_eq_false c3
    clear c3
    replace H:=bs H
    obtain⟨⟨a5,a6,bH⟩,dM,H⟩:=H
    dsimp only at H
    by_cases bI:bH=0
    ·replace H:=hE H bI
     obtain⟨cg,ci⟩:=eT bI
     clear bI
     simp only[Option.some.injEq,Prod.mk.injEq] at H
     obtain⟨rfl,rfl,rfl⟩:=H
     go_wp2_with (first|((with_reducible refine zac (f:=50) rfl ?_);refine gB Tryz.func50 (zas.calls k1 U X a5 a6 bH _ dM.out) ?_;intro e0 hb;replace E:=kN (g:=A) (cs:=#[.string B,.int .i64 D]) hb bk;replace HB:=bN bz hb;(try clear hb);(try clear bD);(try clear hk);(try clear hi))|((with_reducible refine zah (N:=14) rfl ?_);refine zag rfl (N:=14) rfl (cs:=#[.string (⟨#[]⟩:ByteArray),.int .i64 0]) (t:=42) gz ?_;intro cj hg dN hbox hb;have ck:=gN bz hg;have cm:=gN bz hg;have au:=lN (g:=A) (cs:=#[.string B,.int .i64 D]) hg bk;have av:=rN (g:=A) (cs:=#[.string B,.int .i64 D]) hg bk;replace E:=kN (g:=A) (cs:=#[.string B,.int .i64 D]) hb bk;have aZ:=zaa.mk hbox;replace HB:=bN bz hb;clear hb hbox hg;have eL:=av.out;have eM:=au.out;obtain⟨dO,dP,dQ,dR⟩:=cz2 (W:=dN) aZ;obtain⟨dS,dT,dU,dV⟩:=cz2 (W:=dN) E))
     refine bodyPost_ret (zaC rfl _ _ A 42 #[.string a5,.int .i64 a6] (0,0) _ rfl bk Tryz.underlying42 rfl (by kernel_rfl)) rfl ?_
     exact⟨by first|rfl|(simp[zbk,zbl]<;>rfl)|(simp[*,zbk,zbl]<;>rfl)|(simp[isE];done),bz⟩
    replace H:=hN H bI
    obtain⟨cg,ci⟩:=eF bI
    simp only[Option.some.injEq,Prod.mk.injEq] at H
    obtain⟨rfl,rfl,rfl⟩:=H
    go_wp2_with (first|((with_reducible refine zac (f:=50) rfl ?_);refine gB Tryz.func50 (zas.calls k1 U X a5 a6 bH _ dM.out) ?_;intro e1 hb;replace E:=kN (g:=A) (cs:=#[.string B,.int .i64 D]) hb bk;replace HB:=bN bz hb;(try clear hb);(try clear bD);(try clear hk);(try clear hi))|((with_reducible refine zah (N:=14) rfl ?_);refine zag rfl (N:=14) rfl (cs:=#[.string (⟨#[]⟩:ByteArray),.int .i64 0]) (t:=42) gz ?_;intro cj hg dW hbox hb;have ck:=gN bz hg;have cm:=gN bz hg;have au:=lN (g:=A) (cs:=#[.string B,.int .i64 D]) hg bk;have av:=rN (g:=A) (cs:=#[.string B,.int .i64 D]) hg bk;replace E:=kN (g:=A) (cs:=#[.string B,.int .i64 D]) hb bk;have aZ:=zaa.mk hbox;replace HB:=bN bz hb;clear hb hbox hg;have eN:=av.out;have eO:=au.out;obtain⟨dY,dZ,d0,d5⟩:=cz2 (W:=dW) aZ;obtain⟨d6,d9,ea,eb⟩:=cz2 (W:=dW) E))
    refine bodyPost_ret (zaC rfl _ _ A 42 #[.string a5,.int .i64 a6] (0,0) _ rfl bk Tryz.underlying42 rfl (by kernel_rfl)) rfl ?_
    exact⟨by first|rfl|(simp[zbk,zbl]<;>rfl)|(simp[*,zbk,zbl]<;>rfl)|(simp[isE];done),bz⟩
   replace H:=hE H c3
   have aL:=decide_eq_true c3
   clear c3
   obtain⟨c4,H⟩:=hG H
   have aO:=decide_eq_true c4
   clear c4
   have bM:=zaa.mk H
   clear H
   have p5:0≤(M:Int):=of_decide_eq_true (by first|(with_reducible assumption)|assumption)
   have q5:M<(a0.size:Int):=of_decide_eq_true (by first|(with_reducible assumption)|assumption)
   have be:=za5 a0 M
   replace p5:=eq_true p5
   replace q5:=eq_true q5
   go_upto_region 7 with(fail)
   go_cut [26] (fun eg wc=> ∃(kq:Nat) (aM:Bool),eg= .bool aM∧zaa (zad.j1 kq a0 U X aK M (bt a0 M) aM=some (r1,r2,r3))∧zaa (kq≤k1)∧zaa (wc.heap[A]? =some (.cells #[.string B,.int .i64 D] 42 (0,0)))∧zaa (Below w.heap.size w wc))
   case first=>
    have H:=bM.out
    clear bM
    by_cases c7:(bt a0 M)≥48
    ·replace H:=hE H c7
     have bf:decide (48≤(bt a0 M))=true:=decide_eq_true c7
     clear c7
     try rw[bf]
     have H':=zaa.mk H
     clear H
     go_wp2
     go_meet
     case rel=>exact⟨_,(decide ((bt a0 M)≤57)),rz,H',⟨by have:=aj.out;first|omega|exact Nat.le_refl _⟩,⟨bk⟩,⟨bz⟩⟩
    replace H:=hN H c7
    have bf:decide (48≤(bt a0 M))=false:=decide_eq_false c7
    clear c7
    try rw[bf]
    have H':=zaa.mk H
    clear H
    go_wp2
    go_meet
    case rel=>exact⟨_,(false),rz,H',⟨by have:=aj.out;first|omega|exact Nat.le_refl _⟩,⟨bk⟩,⟨bz⟩⟩
   case rest=>
    clear bM
    try clear c3
    try clear aL
    try clear c4
    try clear aO
    try clear p5
    try clear q5
    try clear be
    try clear p5
    try clear q5
    obtain⟨kq,aM,rfl,HA,al,E,HB⟩:=hcut
    cases kq with
    |zero=>exact absurd HA.out (by simp[zad.j1])
    |succ bO=>
     have H:=HA.out
     clear HA
     simp only[zad.j1] at H
     by_cases c8:aM=true
     ·subst c8
      replace H:=hT H
      obtain⟨eQ,eR,H⟩:=hG3 H
      obtain⟨cn,H⟩:=hG H
      have eh:=eq_true cn
      have ei:=decide_eq_true cn
      obtain⟨co,H⟩:=hG H
      have ej:=eq_true co
      have ek:=decide_eq_true co
      obtain⟨bP,H⟩:=hG H
      have em:=eq_true bP
      have en:=decide_eq_true bP
      have eo:=eq_false (Nat.not_lt.2 bP)
      by_cases bJ:aK=true
      ·subst bJ
       replace H:=hT H
       have H':=zaa.mk H
       clear H
       go_wp2
       go_roundg bO
       case measure=>have:=aj.out;have:=al.out;omega
       case rel=>exact⟨(U++(a0.extract (M:Int).toNat ((wrap64 (M+1)):Int).toNat)),(X),(true),(wrap64 (M+1)),(B),(D),rz,rz,rz,rz,H',⟨by have:=aj.out;have:=al.out;omega⟩,⟨bk⟩,⟨bz⟩⟩
      replace bJ:=Bool.eq_false_iff.mpr bJ
      subst bJ
      replace H:=hF H
      have H':=zaa.mk H
      clear H
      go_wp2
      go_roundg bO
      case measure=>have:=aj.out;have:=al.out;omega
      case rel=>exact⟨(U++(a0.extract (M:Int).toNat ((wrap64 (M+1)):Int).toNat)),(wrap64 (X+1)),(false),(wrap64 (M+1)),(B),(D),rz,rz,rz,rz,H',⟨by have:=aj.out;have:=al.out;omega⟩,⟨bk⟩,⟨bz⟩⟩
     replace c8:=Bool.eq_false_iff.mpr c8
     subst c8
     replace H:=hF H
     have bg:=zaa.mk H
     clear H
     go_upto_region 11 with(fail)
     go_cut [44] (fun ep wc=> ∃(kq:Nat) (ax:Bool),ep= .bool ax∧zaa (zad.j2 kq a0 U X M (bt a0 M) ax=some (r1,r2,r3))∧zaa (kq≤bO)∧zaa (wc.heap[A]? =some (.cells #[.string B,.int .i64 D] 42 (0,0)))∧zaa (Below w.heap.size w wc))
     case first=>
      have H:=bg.out
      clear bg
      by_cases bh:(bt a0 M)=46
      ·replace H:=hE H bh
       obtain⟨aR,aS⟩:=eT bh
       clear bh
       try first|rw[aR]|rw[aS]
       have H':=zaa.mk H
       clear H
       go_wp2
       go_meet
       case rel=>exact⟨_,(!aK),rz,H',⟨by have:=aj.out;have:=al.out;first|omega|exact Nat.le_refl _⟩,⟨bk⟩,⟨bz⟩⟩
      replace H:=hN H bh
      obtain⟨aR,aS⟩:=eF bh
      try first|rw[aR]|rw[aS]
      have H':=zaa.mk H
      clear H
      go_wp2
      go_meet
      case rel=>exact⟨_,(false),rz,H',⟨by have:=aj.out;have:=al.out;first|omega|exact Nat.le_refl _⟩,⟨bk⟩,⟨bz⟩⟩
     case rest=>
      clear bg
      try clear c3
      try clear aL
      try clear c4
      try clear aO
      try clear p5
      try clear q5
      try clear be
      try clear c8
      try clear p5
      try clear q5
      obtain⟨kq,ax,rfl,HA,aw,E,HB⟩:=hcut
      cases kq with
      |zero=>exact absurd HA.out (by simp[zad.j2])
      |succ bK=>
       have H:=HA.out
       clear HA
       simp only[zad.j2] at H
       by_cases aT:ax=true
       ·subst aT
        replace H:=hT H
        have H':=zaa.mk H
        clear H
        go_wp2
        go_roundg bK
        case measure=>have:=aj.out;have:=al.out;have:=aw.out;omega
        case rel=>exact⟨(U),(X),(true),(wrap64 (M+1)),(B),(D),rz,rz,rz,rz,H',⟨by have:=aj.out;have:=al.out;have:=aw.out;omega⟩,⟨bk⟩,⟨bz⟩⟩
       replace aT:=Bool.eq_false_iff.mpr aT
       subst aT
       replace H:=hF H
       have bi:=zaa.mk H
       clear H
       go_upto_region 13 with(fail)
       go_cut [51] (fun eq wc=> ∃(kq:Nat) (ay:Bool),eq= .bool ay∧zaa (zad.j3 kq a0 U X M ay=some (r1,r2,r3))∧zaa (kq≤bK)∧zaa (wc.heap[A]? =some (.cells #[.string B,.int .i64 D] 42 (0,0)))∧zaa (Below w.heap.size w wc))
       case first=>
        have H:=bi.out
        clear bi
        by_cases bj:(bt a0 M)=101
        ·replace H:=hE H bj
         obtain⟨aU,aV⟩:=eT bj
         clear bj
         try first|rw[aU]|rw[aV]
         have H':=zaa.mk H
         clear H
         go_wp2
         go_meet
         case rel=>exact⟨_,(true),rz,H',⟨by have:=aj.out;have:=al.out;have:=aw.out;first|omega|exact Nat.le_refl _⟩,⟨bk⟩,⟨bz⟩⟩
        replace H:=hN H bj
        obtain⟨aU,aV⟩:=eF bj
        try first|rw[aU]|rw[aV]
        have H':=zaa.mk H
        clear H
        go_wp2
        go_meet
        case rel=>exact⟨_,(((bt a0 M)==69)),rz,H',⟨by have:=aj.out;have:=al.out;have:=aw.out;first|omega|exact Nat.le_refl _⟩,⟨bk⟩,⟨bz⟩⟩
       case rest=>
        clear bi
        try clear c3
        try clear aL
        try clear c4
        try clear aO
        try clear p5
        try clear q5
        try clear be
        try clear c8
        try clear aT
        try clear p5
        try clear q5
        obtain⟨kq,ay,rfl,HA,aP,E,HB⟩:=hcut
        cases kq with
        |zero=>exact absurd HA.out (by simp[zad.j3])
        |succ cp=>
         have H:=HA.out
         clear HA
         simp only[zad.j3] at H
         by_cases a7:ay=true
         case neg=>
          replace a7:=Bool.eq_false_iff.mpr a7
          subst a7
          replace H:=hF H
          simp only[Option.some.injEq,Prod.mk.injEq] at H
          obtain⟨rfl,rfl,rfl⟩:=H
          obtain⟨dI,dJ,dK,dL⟩:=cz2 (W:=wc) E
          go_wp2
          refine bodyPost_ret (zaC rfl _ _ A 42 #[.string (⟨#[]⟩:ByteArray),.int .i64 0] (0,0) _ rfl bk Tryz.underlying42 rfl (by kernel_rfl)) rfl ?_
          exact⟨by first|rfl|(simp[zbk,zbl]<;>rfl)|(simp[*,zbk,zbl]<;>rfl)|(simp[isE];done),bz⟩
         subst a7
         replace H:=hT H
         have bl:=zaa.mk H
         clear H
         go_upto_region 15 with(fail)
         go_cut [76] (fun er wc=> ∃(kq:Nat) (az:Bool),er= .bool az∧zaa (zad.j4 kq a0 U X M 0 az=some (r1,r2,r3))∧zaa (kq≤cp)∧zaa (wc.heap[A]? =some (.cells #[.string B,.int .i64 D] 42 (0,0)))∧zaa (Below w.heap.size w wc))
         case first=>
          have H:=bl.out
          clear bl
          by_cases a8:(a0.size:Int)<(wrap64 (M+4))
          ·replace H:=hE H a8
           have aA:=decide_eq_true a8
           clear a8
           (first|rw[aA]|(simp only[zap,zav];rw[aA])|skip)
           have H':=zaa.mk H
           clear H
           go_wp2
           go_meet
           case rel=>exact⟨_,(true),rz,H',⟨by have:=aj.out;have:=al.out;have:=aw.out;have:=aP.out;first|omega|exact Nat.le_refl _⟩,⟨bk⟩,⟨bz⟩⟩
          replace H:=hN H a8
          have aA:=decide_eq_false a8
          clear a8
          (first|rw[aA]|(simp only[zap,zav];rw[aA])|skip)
          obtain⟨ai,aN⟩:=ex (wrap64 (M+1))
          (first|rw[aN] at H|simp only[aN] at H)
          have ec:(IntKind.i64.wrap (M+1))=ai:=(zap _).trans aN
          obtain⟨cq,H⟩:=hG H
          have et:=decide_eq_true cq
          clear cq
          obtain⟨cr,H⟩:=hG H
          have eu:=decide_eq_true cr
          clear cr
          by_cases bm:(bt a0 (ai))=43
          ·replace H:=hE H bm
           obtain⟨bQ,bR⟩:=eT bm
           clear bm
           have H':=zaa.mk H
           clear H
           have p25:0≤((ai):Int):=of_decide_eq_true (by first|(with_reducible assumption)|assumption)
           have bn:(ai)<(a0.size:Int):=of_decide_eq_true (by first|(with_reducible assumption)|assumption)
           have ct:=za5 a0 (ai)
           replace p25:=eq_true p25
           replace bn:=eq_true bn
           go_wp2
           go_meet
           case rel=>exact⟨_,(false),rz,H',⟨by have:=aj.out;have:=al.out;have:=aw.out;have:=aP.out;first|omega|exact Nat.le_refl _⟩,⟨bk⟩,⟨bz⟩⟩
          replace H:=hN H bm
          obtain⟨bQ,bR⟩:=eF bm
          have H':=zaa.mk H
          clear H
          have p25:0≤((ai):Int):=of_decide_eq_true (by first|(with_reducible assumption)|assumption)
          have bn:(ai)<(a0.size:Int):=of_decide_eq_true (by first|(with_reducible assumption)|assumption)
          have ct:=za5 a0 (ai)
          replace p25:=eq_true p25
          replace bn:=eq_true bn
          have p27:0≤((ai):Int):=of_decide_eq_true (by first|(with_reducible assumption)|assumption)
          have cu:(ai)<(a0.size:Int):=of_decide_eq_true (by first|(with_reducible assumption)|assumption)
          have eS:=za5 a0 (ai)
          replace p27:=eq_true p27
          replace cu:=eq_true cu
          go_wp2
          go_meet
          case rel=>exact⟨_,(((bt a0 (ai))!=45)),(by first|rfl|(simp;done)|(simp only[←aN]<;>(first|rfl|simp))|(simp[*];done)),H',⟨by have:=aj.out;have:=al.out;have:=aw.out;have:=aP.out;first|omega|exact Nat.le_refl _⟩,⟨bk⟩,⟨bz⟩⟩
         case rest=>
          clear bl
          try clear c3
          try clear aL
          try clear c4
          try clear aO
          try clear p5
          try clear q5
          try clear be
          try clear c8
          try clear aT
          try clear a7
          try clear p5
          try clear q5
          obtain⟨kq,az,rfl,HA,bL,E,HB⟩:=hcut
          cases kq with
          |zero=>exact absurd HA.out (by simp[zad.j4])
          |succ bo=>
           have H:=HA.out
           clear HA
           simp only[zad.j4] at H
           by_cases bp:az=true
           ·subst bp
            replace H:=hT H
            simp only[Option.some.injEq,Prod.mk.injEq] at H
            obtain⟨rfl,rfl,rfl⟩:=H
            obtain⟨cv,cw,cx,cy⟩:=cz2 (W:=wc) E
            go_wp2
            refine bodyPost_ret (zaC rfl _ _ A 42 #[.string (⟨#[]⟩:ByteArray),.int .i64 0] (0,0) _ rfl bk Tryz.underlying42 rfl (by kernel_rfl)) rfl ?_
            exact⟨by first|rfl|(simp[zbk,zbl]<;>rfl)|(simp[*,zbk,zbl]<;>rfl)|(simp[isE];done),bz⟩
           replace bp:=Bool.eq_false_iff.mpr bp
           subst bp
           replace H:=hF H
           obtain⟨bq,ah⟩:=ex (wrap64 (M+2))
           (first|rw[ah] at H|simp only[ah] at H)
           have ed:(IntKind.i64.wrap (M+2))=bq:=(zap _).trans ah
           obtain⟨bS,bU,H⟩:=hG3 H
           obtain⟨bV,bW,H⟩:=hG3 H
           obtain⟨br,H⟩:=hG H
           have bX:=eq_true br
           have bY:=decide_eq_true br
           have bZ:=eq_false (Nat.not_lt.2 br)
           clear br
           obtain⟨ab,aB⟩: ∃y_:List Int,y_=(bytesOf (a0.extract ((bq):Int).toNat a0.size)):=⟨_,rfl⟩
           replace H:(zad.l1 bo a0 U X M 0 ab (ab.length:Int) 0)=some (r1,r2,r3):=by first|(rw[aB];with_reducible exact H)|(have b0:=(Option.bind_some _ _).symm.trans H;rw[aB];with_reducible exact b0)|(have b0:=(Option.bind_some _ _).symm.trans H;with_reducible exact b0)|with_reducible exact H|(rw[aB];exact H)|exact H
           have bu:=zaa.mk aB
           clear aB
           have H':=zaa.mk H
           clear H
           go_wp2_with (first|((with_reducible refine zah (N:=82) rfl ?_);refine Kd.V_conv _ rfl (N:=82) rfl 9 51 5 _ rfl (a0.extract ((bq):Int).toNat a0.size) rfl Tryz.underlying9 Tryz.underlying51 Tryz.underlying5 (of_decide_eq_true (by first|(with_reducible assumption)|assumption)) (ok:=fun k_=>wc.heap.size≤k_) (Nat.le_refl _) (Below.refl _ _) (Nat.le_refl _) ?_;intro eU eV aQ hb hg_ hnew_;clear hg_ hnew_;(first|rw[←bu.out] at aQ|(simp only[Int.reduceToNat] at aQ;rw[←bu.out] at aQ));have Y:=zaa.mk (Kd.V_lower (Kd.V_mono (ok':=fun k_=>k_≠A) aQ (fun k_ hk_=>(Kd.freshB (g:=A) (o:=.cells #[.string B,.int .i64 D] 42 (0,0)) bk k_ hk_))) (zaA bz));have Z:=kN (g:=A) (cs:=#[.string B,.int .i64 D]) hb bk;have aa:=bN bz hb;clear E;clear HB;have bv:=Y;have E:=Z;have HB:=aa;clear Y Z aa;clear hb aQ;obtain⟨cz,cA,cB⟩:=Kd.V_slice bv.out;subst cB))
           go_loopg [9,84] bo (fun kq v9 ev w'=> ∃(ak:Int) (O:Int) (I:ByteArray) (J:Int),v9= .int .i64 ak∧ev= .int .i64 O∧zaa (zad.l1 kq a0 U X M ak ab (ab.length:Int) O=some (r1,r2,r3))∧zaa (kq≤bo)∧zaa (Kd.V (Kd.int .u8) 5 w' w.heap.size (fun k_=>k_≠A) (.slice cz ab.length cA) ab)∧zaa (w'.heap[A]? =some (.cells #[.string I,.int .i64 J] 42 (0,0)))∧zaa (Below w.heap.size w w'))
           case atStart=>exact⟨(0),(0),(B),(D),rz,rz,H',⟨Nat.le_refl _⟩,⟨by(with_reducible repeat(first|apply Kd.V_alloc|apply Kd.V_drewN|apply Kd.V_drew));exact bv.out⟩,⟨bk⟩,⟨bz⟩⟩
           case round=>
            clear H'
            try clear c3
            try clear aL
            try clear c4
            try clear aO
            try clear p5
            try clear q5
            try clear be
            try clear c8
            try clear aT
            try clear a7
            try clear bp
            try clear bS
            try clear bU
            try clear bV
            try clear bW
            try clear br
            try clear bX
            try clear bY
            try clear bZ
            try clear p5
            try clear q5
            obtain⟨ak,O,I,J,rfl,rfl,HA,cC,K,E,HB⟩:=hrel
            cases gk with
            |zero=>exact absurd HA.out (by simp[zad.l1])
            |succ k6=>
             have H:=HA.out
             clear HA
             simp only[zad.l1] at H
             by_cases a9:O<(ab.length:Int)
             ·replace H:=hE H a9
              have b1:=decide_eq_true a9
              clear a9
              obtain⟨cD,H⟩:=hG H
              have ew:=decide_eq_true cD
              clear cD
              obtain⟨cF,H⟩:=hG H
              have ey:=decide_eq_true cF
              clear cF
              by_cases ba:(rd ab O)<48
              ·replace H:=hE H ba
               have b2:=decide_eq_true ba
               clear ba
               simp only[Option.some.injEq,Prod.mk.injEq] at H
               obtain⟨rfl,rfl,rfl⟩:=H
               have ac:0≤(O:Int):=of_decide_eq_true (by first|(with_reducible assumption)|assumption)
               have ad:O<(ab.length:Int):=of_decide_eq_true (by first|(with_reducible assumption)|assumption)
               obtain⟨aW,aC,aD⟩:=Kd.at_int (Kd.V_reads' K.out).2.2 O ac ad
               cases aC
               replace ac:=eq_true ac
               replace ad:=eq_true ad
               obtain⟨cG,cH,cI,cJ⟩:=cz2 (W:=wr) E
               go_wp2
               refine bodyPost_ret (zaC rfl _ _ A 42 #[.string (⟨#[]⟩:ByteArray),.int .i64 0] (0,0) _ rfl bk Tryz.underlying42 rfl (by kernel_rfl)) rfl ?_
               exact⟨by first|exact ez|(simp only[←ah];exact ez)|(simp[isE];done),bz⟩
              replace H:=hN H ba
              have b2:=decide_eq_false ba
              clear ba
              by_cases bb:(rd ab O)>57
              ·replace H:=hE H bb
               have b3:decide (57<(rd ab O))=true:=decide_eq_true bb
               clear bb
               simp only[Option.some.injEq,Prod.mk.injEq] at H
               obtain⟨rfl,rfl,rfl⟩:=H
               have ac:0≤(O:Int):=of_decide_eq_true (by first|(with_reducible assumption)|assumption)
               have ad:O<(ab.length:Int):=of_decide_eq_true (by first|(with_reducible assumption)|assumption)
               obtain⟨aW,aC,aD⟩:=Kd.at_int (Kd.V_reads' K.out).2.2 O ac ad
               cases aC
               replace ac:=eq_true ac
               replace ad:=eq_true ad
               obtain⟨cK,cL,cM,cN⟩:=cz2 (W:=wr) E
               go_wp2
               refine bodyPost_ret (zaC rfl _ _ A 42 #[.string (⟨#[]⟩:ByteArray),.int .i64 0] (0,0) _ rfl bk Tryz.underlying42 rfl (by kernel_rfl)) rfl ?_
               exact⟨by first|exact ez|(simp only[←ah];exact ez)|(simp[isE];done),bz⟩
              replace H:=hN H bb
              have b3:decide (57<(rd ab O))=false:=decide_eq_false bb
              clear bb
              by_cases bd:ak>1000
              ·replace H:=hE H bd
               have b4:decide (1000<ak)=true:=decide_eq_true bd
               clear bd
               simp only[Option.some.injEq,Prod.mk.injEq] at H
               obtain⟨rfl,rfl,rfl⟩:=H
               have ac:0≤(O:Int):=of_decide_eq_true (by first|(with_reducible assumption)|assumption)
               have ad:O<(ab.length:Int):=of_decide_eq_true (by first|(with_reducible assumption)|assumption)
               obtain⟨aW,aC,aD⟩:=Kd.at_int (Kd.V_reads' K.out).2.2 O ac ad
               cases aC
               replace ac:=eq_true ac
               replace ad:=eq_true ad
               obtain⟨cO,cP,cQ,cR⟩:=cz2 (W:=wr) E
               go_wp2
               refine bodyPost_ret (zaC rfl _ _ A 42 #[.string (⟨#[]⟩:ByteArray),.int .i64 0] (0,0) _ rfl bk Tryz.underlying42 rfl (by kernel_rfl)) rfl ?_
               exact⟨by first|exact ez|(simp only[←ah];exact ez)|(simp[isE];done),bz⟩
              replace H:=hN H bd
              have b4:decide (1000<ak)=false:=decide_eq_false bd
              clear bd
              have H':=zaa.mk H
              clear H
              have ac:0≤(O:Int):=of_decide_eq_true (by first|(with_reducible assumption)|assumption)
              have ad:O<(ab.length:Int):=of_decide_eq_true (by first|(with_reducible assumption)|assumption)
              obtain⟨aW,aC,aD⟩:=Kd.at_int (Kd.V_reads' K.out).2.2 O ac ad
              cases aC
              replace ac:=eq_true ac
              replace ad:=eq_true ad
              go_wp2
              go_roundg k6
              case measure=>have:=aj.out;have:=al.out;have:=aw.out;have:=aP.out;have:=bL.out;have:=cC.out;omega
              case rel=>exact⟨(wrap64 ((wrap64 (10*ak))+(((rd ab O)-48)%256))),(wrap64 (O+1)),(I),(J),rz,rz,H',⟨by have:=aj.out;have:=al.out;have:=aw.out;have:=aP.out;have:=bL.out;have:=cC.out;omega⟩,⟨by(with_reducible repeat(first|apply Kd.V_alloc|apply Kd.V_drewN|apply Kd.V_drew));exact K.out⟩,⟨bk⟩,⟨bz⟩⟩
             replace H:=hN H a9
             have b1:=decide_eq_false a9
             clear a9
             obtain⟨ag,am⟩:=ex (wrap64 (M+1))
             (first|rw[am] at H|simp only[am] at H)
             have ee:(IntKind.i64.wrap (M+1))=ag:=(zap _).trans am
             obtain⟨cS,H⟩:=hG H
             have eA:=decide_eq_true cS
             clear cS
             obtain⟨cT,H⟩:=hG H
             have eB:=decide_eq_true cT
             clear cT
             by_cases bw:(bt a0 (ag))=45
             ·replace H:=hE H bw
              obtain⟨b5,b6⟩:=eT bw
              clear bw
              replace H:=bs H
              obtain⟨⟨a1,a2,bA⟩,cV,H⟩:=H
              dsimp only at H
              by_cases bB:bA=0
              ·replace H:=hE H bB
               obtain⟨b7,b8⟩:=eT bB
               clear bB
               simp only[Option.some.injEq,Prod.mk.injEq] at H
               obtain⟨rfl,rfl,rfl⟩:=H
               have p49:0≤((ag):Int):=of_decide_eq_true (by first|(with_reducible assumption)|assumption)
               have aE:(ag)<(a0.size:Int):=of_decide_eq_true (by first|(with_reducible assumption)|assumption)
               have bC:=za5 a0 (ag)
               replace p49:=eq_true p49
               replace aE:=eq_true aE
               go_wp2_with (first|((with_reducible refine zac (f:=50) rfl ?_);refine gB Tryz.func50 (zas.calls k6 U (wrap64 (X+(wrap64 (-ak)))) a1 a2 bA _ cV.out) ?_;intro eW hb;have Y:=zaa.mk (Kd.V_below (by(with_reducible repeat(first|apply Kd.V_alloc|apply Kd.V_drewN|apply Kd.V_drew));exact K.out) hb);have Z:=kN (g:=A) (cs:=#[.string I,.int .i64 J]) hb bk;have aa:=bN bz hb;clear K;clear E;clear HB;have K:=Y;have E:=Z;have HB:=aa;clear Y Z aa;(try clear hb);(try clear bD);(try clear hk);(try clear hi))|((with_reducible refine zah (N:=12) rfl ?_);refine zag rfl (N:=12) rfl (cs:=#[.string (⟨#[]⟩:ByteArray),.int .i64 0]) (t:=42) gz ?_;intro ae hg cW hbox hb;have Y:=zaa.mk (Kd.V_below (Kd.V_elderB (by(with_reducible repeat(first|apply Kd.V_alloc|apply Kd.V_drewN|apply Kd.V_drew));exact K.out) ae (Nat.le_of_eq hg.symm)) hb);have Z:=kN (g:=A) (cs:=#[.string I,.int .i64 J]) hb bk;have aa:=bN bz hb;have aF:=zaa.mk (hbox);have aG:=zaa.mk ((by rw[hg];exact(zaA bz):w.heap.size≤ae));have aH:=zaa.mk ((by rw[hg];exact(zaA bz):w.heap.size≤ae));have aI:=zaa.mk ((by rw[hg];exact Nat.ne_of_lt (zaR (g:=A) (o:=.cells #[.string I,.int .i64 J] 42 (0,0)) bk):A≠ae));have aJ:=zaa.mk ((by rw[hg];exact Nat.ne_of_gt (zaR (g:=A) (o:=.cells #[.string I,.int .i64 J] 42 (0,0)) bk):ae≠A));clear K;clear E;clear HB;have K:=Y;have E:=Z;have HB:=aa;have aX:=aF;have ca:=aG;have cb:=aH;have an:=aI;have ao:=aJ;clear Y Z aa aF aG aH aI aJ;clear hb hbox hg;have eC:=ao.out;have eD:=an.out;obtain⟨cX,cY,cZ,c5⟩:=cz2 (W:=cW) aX;obtain⟨c6,c9,da,db⟩:=cz2 (W:=cW) E))
               refine bodyPost_ret (zaC rfl _ _ A 42 #[.string a1,.int .i64 a2] (0,0) _ rfl bk Tryz.underlying42 rfl (by kernel_rfl)) rfl ?_
               exact⟨by first|exact ez|(simp only[←ah,←am];exact ez)|(simp[isE];done),bz⟩
              replace H:=hN H bB
              obtain⟨b7,b8⟩:=eF bB
              simp only[Option.some.injEq,Prod.mk.injEq] at H
              obtain⟨rfl,rfl,rfl⟩:=H
              have p49:0≤((ag):Int):=of_decide_eq_true (by first|(with_reducible assumption)|assumption)
              have aE:(ag)<(a0.size:Int):=of_decide_eq_true (by first|(with_reducible assumption)|assumption)
              have bC:=za5 a0 (ag)
              replace p49:=eq_true p49
              replace aE:=eq_true aE
              go_wp2_with (first|((with_reducible refine zac (f:=50) rfl ?_);refine gB Tryz.func50 (zas.calls k6 U (wrap64 (X+(wrap64 (-ak)))) a1 a2 bA _ cV.out) ?_;intro eX hb;have Y:=zaa.mk (Kd.V_below (by(with_reducible repeat(first|apply Kd.V_alloc|apply Kd.V_drewN|apply Kd.V_drew));exact K.out) hb);have Z:=kN (g:=A) (cs:=#[.string I,.int .i64 J]) hb bk;have aa:=bN bz hb;clear K;clear E;clear HB;have K:=Y;have E:=Z;have HB:=aa;clear Y Z aa;(try clear hb);(try clear bD);(try clear hk);(try clear hi))|((with_reducible refine zah (N:=12) rfl ?_);refine zag rfl (N:=12) rfl (cs:=#[.string (⟨#[]⟩:ByteArray),.int .i64 0]) (t:=42) gz ?_;intro ae hg dc hbox hb;have Y:=zaa.mk (Kd.V_below (Kd.V_elderB (by(with_reducible repeat(first|apply Kd.V_alloc|apply Kd.V_drewN|apply Kd.V_drew));exact K.out) ae (Nat.le_of_eq hg.symm)) hb);have Z:=kN (g:=A) (cs:=#[.string I,.int .i64 J]) hb bk;have aa:=bN bz hb;have aF:=zaa.mk (hbox);have aG:=zaa.mk ((by rw[hg];exact(zaA bz):w.heap.size≤ae));have aH:=zaa.mk ((by rw[hg];exact(zaA bz):w.heap.size≤ae));have aI:=zaa.mk ((by rw[hg];exact Nat.ne_of_lt (zaR (g:=A) (o:=.cells #[.string I,.int .i64 J] 42 (0,0)) bk):A≠ae));have aJ:=zaa.mk ((by rw[hg];exact Nat.ne_of_gt (zaR (g:=A) (o:=.cells #[.string I,.int .i64 J] 42 (0,0)) bk):ae≠A));clear K;clear E;clear HB;have K:=Y;have E:=Z;have HB:=aa;have aX:=aF;have ca:=aG;have cb:=aH;have an:=aI;have ao:=aJ;clear Y Z aa aF aG aH aI aJ;clear hb hbox hg;have eE:=ao.out;have eG:=an.out;obtain⟨dd,de,df,dh⟩:=cz2 (W:=dc) aX;obtain⟨di,dj,dk,dl⟩:=cz2 (W:=dc) E))
              refine bodyPost_ret (zaC rfl _ _ A 42 #[.string a1,.int .i64 a2] (0,0) _ rfl bk Tryz.underlying42 rfl (by kernel_rfl)) rfl ?_
              exact⟨by first|exact ez|(simp only[←ah,←am];exact ez)|(simp[isE];done),bz⟩
             replace H:=hN H bw
             obtain⟨b5,b6⟩:=eF bw
             replace H:=bs H
             obtain⟨⟨a3,a4,bE⟩,dm,H⟩:=H
             dsimp only at H
             by_cases bG:bE=0
             ·replace H:=hE H bG
              obtain⟨cc,cd⟩:=eT bG
              clear bG
              simp only[Option.some.injEq,Prod.mk.injEq] at H
              obtain⟨rfl,rfl,rfl⟩:=H
              have p49:0≤((ag):Int):=of_decide_eq_true (by first|(with_reducible assumption)|assumption)
              have aE:(ag)<(a0.size:Int):=of_decide_eq_true (by first|(with_reducible assumption)|assumption)
              have bC:=za5 a0 (ag)
              replace p49:=eq_true p49
              replace aE:=eq_true aE
              go_wp2_with (first|((with_reducible refine zac (f:=50) rfl ?_);refine gB Tryz.func50 (zas.calls k6 U (wrap64 (X+ak)) a3 a4 bE _ dm.out) ?_;intro eY hb;have Y:=zaa.mk (Kd.V_below (by(with_reducible repeat(first|apply Kd.V_alloc|apply Kd.V_drewN|apply Kd.V_drew));exact K.out) hb);have Z:=kN (g:=A) (cs:=#[.string I,.int .i64 J]) hb bk;have aa:=bN bz hb;clear K;clear E;clear HB;have K:=Y;have E:=Z;have HB:=aa;clear Y Z aa;(try clear hb);(try clear bD);(try clear hk);(try clear hi))|((with_reducible refine zah (N:=12) rfl ?_);refine zag rfl (N:=12) rfl (cs:=#[.string (⟨#[]⟩:ByteArray),.int .i64 0]) (t:=42) gz ?_;intro af hg dn hbox hb;have Y:=zaa.mk (Kd.V_below (Kd.V_elderB (by(with_reducible repeat(first|apply Kd.V_alloc|apply Kd.V_drewN|apply Kd.V_drew));exact K.out) af (Nat.le_of_eq hg.symm)) hb);have Z:=kN (g:=A) (cs:=#[.string I,.int .i64 J]) hb bk;have aa:=bN bz hb;have aF:=zaa.mk (hbox);have aG:=zaa.mk ((by rw[hg];exact(zaA bz):w.heap.size≤af));have aH:=zaa.mk ((by rw[hg];exact(zaA bz):w.heap.size≤af));have aI:=zaa.mk ((by rw[hg];exact Nat.ne_of_lt (zaR (g:=A) (o:=.cells #[.string I,.int .i64 J] 42 (0,0)) bk):A≠af));have aJ:=zaa.mk ((by rw[hg];exact Nat.ne_of_gt (zaR (g:=A) (o:=.cells #[.string I,.int .i64 J] 42 (0,0)) bk):af≠A));clear K;clear E;clear HB;have K:=Y;have E:=Z;have HB:=aa;have aY:=aF;have ce:=aG;have cf:=aH;have ap:=aI;have ar:=aJ;clear Y Z aa aF aG aH aI aJ;clear hb hbox hg;have eH:=ar.out;have eI:=ap.out;obtain⟨dp,dq,ds,dt⟩:=cz2 (W:=dn) aY;obtain⟨du,dv,dw,dx⟩:=cz2 (W:=dn) E))
              refine bodyPost_ret (zaC rfl _ _ A 42 #[.string a3,.int .i64 a4] (0,0) _ rfl bk Tryz.underlying42 rfl (by kernel_rfl)) rfl ?_
              exact⟨by first|exact ez|(simp only[←ah,←am];exact ez)|(simp[isE];done),bz⟩
             replace H:=hN H bG
             obtain⟨cc,cd⟩:=eF bG
             simp only[Option.some.injEq,Prod.mk.injEq] at H
             obtain⟨rfl,rfl,rfl⟩:=H
             have p49:0≤((ag):Int):=of_decide_eq_true (by first|(with_reducible assumption)|assumption)
             have aE:(ag)<(a0.size:Int):=of_decide_eq_true (by first|(with_reducible assumption)|assumption)
             have bC:=za5 a0 (ag)
             replace p49:=eq_true p49
             replace aE:=eq_true aE
             go_wp2_with (first|((with_reducible refine zac (f:=50) rfl ?_);refine gB Tryz.func50 (zas.calls k6 U (wrap64 (X+ak)) a3 a4 bE _ dm.out) ?_;intro eZ hb;have Y:=zaa.mk (Kd.V_below (by(with_reducible repeat(first|apply Kd.V_alloc|apply Kd.V_drewN|apply Kd.V_drew));exact K.out) hb);have Z:=kN (g:=A) (cs:=#[.string I,.int .i64 J]) hb bk;have aa:=bN bz hb;clear K;clear E;clear HB;have K:=Y;have E:=Z;have HB:=aa;clear Y Z aa;(try clear hb);(try clear bD);(try clear hk);(try clear hi))|((with_reducible refine zah (N:=12) rfl ?_);refine zag rfl (N:=12) rfl (cs:=#[.string (⟨#[]⟩:ByteArray),.int .i64 0]) (t:=42) gz ?_;intro af hg dy hbox hb;have Y:=zaa.mk (Kd.V_below (Kd.V_elderB (by(with_reducible repeat(first|apply Kd.V_alloc|apply Kd.V_drewN|apply Kd.V_drew));exact K.out) af (Nat.le_of_eq hg.symm)) hb);have Z:=kN (g:=A) (cs:=#[.string I,.int .i64 J]) hb bk;have aa:=bN bz hb;have aF:=zaa.mk (hbox);have aG:=zaa.mk ((by rw[hg];exact(zaA bz):w.heap.size≤af));have aH:=zaa.mk ((by rw[hg];exact(zaA bz):w.heap.size≤af));have aI:=zaa.mk ((by rw[hg];exact Nat.ne_of_lt (zaR (g:=A) (o:=.cells #[.string I,.int .i64 J] 42 (0,0)) bk):A≠af));have aJ:=zaa.mk ((by rw[hg];exact Nat.ne_of_gt (zaR (g:=A) (o:=.cells #[.string I,.int .i64 J] 42 (0,0)) bk):af≠A));clear K;clear E;clear HB;have K:=Y;have E:=Z;have HB:=aa;have aY:=aF;have ce:=aG;have cf:=aH;have ap:=aI;have ar:=aJ;clear Y Z aa aF aG aH aI aJ;clear hb hbox hg;have eJ:=ar.out;have eK:=ap.out;obtain⟨dA,dB,dC,dD⟩:=cz2 (W:=dy) aY;obtain⟨dE,dF,dG,dH⟩:=cz2 (W:=dy) E))
             refine bodyPost_ret (zaC rfl _ _ A 42 #[.string a3,.int .i64 a4] (0,0) _ rfl bk Tryz.underlying42 rfl (by kernel_rfl)) rfl ?_
             exact⟨by first|exact ez|(simp only[←ah,←am];exact ez)|(simp[isE];done),bz⟩
end Go.Proofs.YtecpgdfnamkfdaaGreatDoor.Fn
end
