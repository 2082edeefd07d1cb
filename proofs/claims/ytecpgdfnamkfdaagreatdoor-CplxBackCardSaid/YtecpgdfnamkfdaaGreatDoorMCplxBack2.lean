/- The law CplxBack: the walks through its functions and its plain law (part 2). Own texts and the kit's printed words for this seat, without what the law does not use: put together by merge.py (of this work). -/
import Derived.Test.YtecpgdfnamkfdaaGreatDoorMCplxBack1
section
namespace Go.Proofs.YtecpgdfnamkfdaaGreatDoor.Fn
open Go.RowKit Go.Proofs.YtecpgdfnamkfdaaGreatDoorW.PrintWords Go.Proofs.YtecpgdfnamkfdaaGreatDoorW.PrintLast Go.Proofs.YtecpgdfnamkfdaaGreatDoorW.PrintMore
set_option linter.unusedVariables false
set_option linter.unusedSimpArgs false
set_option maxHeartbeats 8000000
set_option maxRecDepth 100000
section
attribute [local go_sem] fnW_0 fnW_1 fnW_2 fnW_3 fnW_4 fnW_5 fnW_guard fnW_eql zaD zaE zaI zaJ
def zbi.f(a0:Int)(a1:Int):Option (ByteArray):=(strings_Repeat.f (strOfNums (([a0]:List Int))) (mx 0 (mn a1 1000))).bind fun A=>(some A)
theorem zbi.calls(a0:Int)(a1:Int)(r:ByteArray)(w:World)(h:zbi.f a0 a1=some r):
  Calls Tryz.prog 27 #[.int .u8 a0,.int .i64 a1] w fun e w'=>e= .returned (.string r)∧Below w.heap.size w w':=by
 have HB:=zaa.mk (Below.refl w.heap.size w)
 have H:((strings_Repeat.f (strOfNums (([a0]:List Int))) (mx 0 (mn a1 1000))).bind fun D=>(some D))=some r:=h
 clear h
 obtain⟨Y,A⟩: ∃y_:List Int,y_=(([a0]:List Int)):=⟨_,rfl⟩
 replace H:((strings_Repeat.f (strOfNums Y) (mx 0 (mn a1 1000))).bind fun D=>(some D))=some r:=by first|(rw[A];with_reducible exact H)|(have Z:=(Option.bind_some _ _).symm.trans H;rw[A];with_reducible exact Z)|(have Z:=(Option.bind_some _ _).symm.trans H;with_reducible exact Z)|with_reducible exact H|(rw[A];exact H)|exact H
 have K:=zaa.mk A
 clear A
 obtain⟨J,E⟩:=ex (mn a1 1000)
 (first|rw[E] at H|simp only[E] at H)
 (try(have ab:J≤1000:=by(rw[←E];unfold mn;(repeat' split)<;>omega)))
 (try(have ac:J≤64:=by omega))
 have ad:(if 1000<a1 then 1000 else a1)=J:=E
 obtain⟨aa,I⟩:=ex (mx 0 (J))
 (first|rw[I] at H|simp only[I] at H)
 have ae:(if 0<(J) then(J) else 0)=aa:=I
 replace H:=bs H
 obtain⟨D,A5,H⟩:=H
 obtain rfl:=Option.some.inj H
 go_enter Tryz.func27,Tryz.ntmps27
 go_wp2_with (first|((with_reducible refine zah (N:=6) rfl ?_);refine Kd.R_lit (Kd.int .u8) _ 5 ?hg (N:=6) ?hd (xs:=([a0]:List Int)) (inner:=[.int .u8 a0]) (ok:=fun _=>True) (okp:=fun _=>True) ?hr ?hp (fun _ hk=>hk) trivial (Below.refl _ _) (Nat.le_refl _) (by simp) ?_;(case hd=>rfl);(case hg=>rfl);(case hr=>first|(go_simp;done)|(go_simp;rfl));(case hp=>exact(Reps.one (show Kd.M (Kd.int .u8) _ _ _ a0 [.int .u8 a0] from rfl) (Reps.none _ _)));intro af w6 O hb hg_ hnew_;clear hg_ hnew_;(first|rw[←K.out] at O|(simp only[Int.reduceToNat] at O;rw[←K.out] at O));have U:=zaa.mk (Kd.R_lower O (zaG bz));have X:=bN bz hb;clear HB;have B:=U;have HB:=X;clear U X;clear hb O;have ag:=zc4 (P:=Tryz.prog) Tryz.underlying51 Tryz.underlying5 Tryz.underlying9 (Kd.own_of_R B.out))|((with_reducible refine zad (f:=46) rfl ?_);refine gB Tryz.func46 (strings_Repeat.calls (strOfNums Y) aa D _ A5.out) ?_ (hargs:=by(try simp only[List.map_toArray,List.map_cons,List.map_nil]);first|done|(simp only[I];rfl)|rfl|(simp only[List.length_drop,List.length_take];rfl));intro w9 hb;have U:=zaa.mk (Kd.R_below (by(with_reducible repeat(first|apply Kd.R_alloc|apply Kd.R_drewN|apply Kd.R_drew));exact B.out) hb);have X:=bN bz hb;clear B;clear HB;have B:=U;have HB:=X;clear U X;clear hb))
 go_ret
 exact⟨by first|exact ez|(simp only[←E,←I];exact ez),bz⟩
end
end Go.Proofs.YtecpgdfnamkfdaaGreatDoor.Fn
end
section
namespace Go.Proofs.YtecpgdfnamkfdaaGreatDoor.Fn
open Go.RowKit Go.Proofs.YtecpgdfnamkfdaaGreatDoorW.PrintWords
set_option linter.unusedVariables false
def zbC.f(s:ByteArray):Option Int:=if s.size≤1000000∧s.data.toList.all (fun b=>b.toNat<128)=true then some (s.size:Int) else none
theorem zgm(w:World)(s:ByteArray)(pos:Nat):Below w.heap.size w (w.iter s pos):=(Below.refl _ _).alloc (Nat.le_refl _) _
set_option maxHeartbeats 4000000 in
theorem zbC.calls(a0:ByteArray)(r:Int)(w:World)(h:zbC.f a0=some r):
    Calls Tryz.prog 71 #[.string a0] w fun e w'=>e= .returned (.int .i64 r)∧Below w.heap.size w w':=by
  unfold zbC.f at h
  split at h
  case isFalse=>cases h
  rename_i hc
  obtain rfl:=Option.some.inj h
  clear h
  have hn:=hc.1
  have HA:=zaa.mk hc.2
  clear hc
  have A:=Tryz.underlying9
  go_enter Tryz.func71,Tryz.ntmps71
  go_wp2
  go_loopw [3] (fun n wr=> ∃k:Nat,k≤a0.size∧n= .int .i64 k∧wr=w.iter a0 k) (fun n _=>a0.size-(intOf n).toNat)
  case atStart=>exact⟨0,Nat.zero_le _,rfl,rfl⟩
  case round=>
    obtain⟨k,hk,rfl,rfl⟩:=hrel
    by_cases hlt:k<a0.size
    · have ha:(a0[k]'hlt).toNat<128:=by
        have:=List.all_eq_true.1 HA.out (a0[k]'hlt) (by show a0.data[k]∈a0.data.toList;exact Array.getElem_mem_toList _)
        simpa using this
      have hnx:=fun ty=>run_next_ascii (P:=Tryz.prog) w a0 k ty hlt ha
      go_wp2
      go_roundw
      case rel=>exact⟨k+1,by omega,by go_num,rfl⟩
      case measure=>simp[intOf];omega
    · obtain rfl:k=a0.size:=by omega
      have hnx:=fun ty=>run_next_end (P:=Tryz.prog) w a0 a0.size ty (Nat.lt_irrefl _)
      go_wp2
      go_ret
      exact⟨rfl,zgm w a0 _⟩
end Go.Proofs.YtecpgdfnamkfdaaGreatDoor.Fn
end
section
namespace Go.Proofs.YtecpgdfnamkfdaaGreatDoor.Fn
open Go.RowKit Go.Proofs.YtecpgdfnamkfdaaGreatDoorW.PrintWords Go.Proofs.YtecpgdfnamkfdaaGreatDoorW.PrintLast Go.Proofs.YtecpgdfnamkfdaaGreatDoorW.PrintMore
set_option linter.unusedVariables false
set_option linter.unusedSimpArgs false
set_option maxHeartbeats 8000000
set_option maxRecDepth 100000
section
attribute [local go_sem] fnW_0 fnW_1 fnW_2 fnW_3 fnW_4 fnW_5 fnW_guard fnW_eql zaD zaE zaI zaJ
def zbj.f(a0:ByteArray)(M:Bool)(J:Bool)(O:Bool)(U:Bool)(K:Bool)(A:Int)(X:Int)(Y:Int):Option (ByteArray):=(zbC.f a0).bind fun B=>(if(wrap64 ((mx 0 (mn A 1000))-B))≤0 then(some a0) else(if J=true then((zbi.f 32 (wrap64 ((mx 0 (mn A 1000))-B))).bind fun D=>(if a0.size+D.size≤9223372036854775807 then(some (a0++D)) else(none))) else(if K=true then((zbi.f 48 (wrap64 ((mx 0 (mn A 1000))-B))).bind fun E=>(if E.size+a0.size≤9223372036854775807 then(some (E++a0)) else(none))) else((zbi.f 32 (wrap64 ((mx 0 (mn A 1000))-B))).bind fun I=>(if I.size+a0.size≤9223372036854775807 then(some (I++a0)) else(none))))))
def zbj.T1:Bool×List (List Nat×List Nat):=(true,[([],[]),([0],[0]),([1],[1]),([2],[2]),([],[]),([4],[4]),([3,5],[3,5]),([6,5,0,1,2,3,4,5,6],[6])])
def zbj.B1:List Nat:=[0,1,3,7,0,16,63,127]
theorem zbj.tab1:rtab .any (opsOf Tryz.f45 1)=zbj.T1:=by kernel_rfl
theorem zbj.bits1:waitsOk zbj.T1.2 zbj.B1=true:=by kernel_rfl
theorem zbj.calls(a0:ByteArray)(J:Bool)(aa:Bool)(M:Bool)(O:Bool)(U:Bool)(D:Int)(X:Int)(Y:Int)(r:ByteArray)(w:World)(h:zbj.f a0 J aa M O U D X Y=some r):
  Calls Tryz.prog 45 #[.string a0,.agg #[.bool J,.bool aa,.bool M,.bool O,.bool U,.int .i64 D,.int .i64 X,.int .i32 Y]] w fun e w'=>e= .returned (.string r)∧Below w.heap.size w w':=by
 have bB:=Tryz.underlying26
 have HB:=zaa.mk (Below.refl w.heap.size w)
 have H:((zbC.f a0).bind fun E=>(if(wrap64 ((mx 0 (mn D 1000))-E))≤0 then(some a0) else(if aa=true then((zbi.f 32 (wrap64 ((mx 0 (mn D 1000))-E))).bind fun ae=>(if a0.size+ae.size≤9223372036854775807 then(some (a0++ae)) else(none))) else(if U=true then((zbi.f 48 (wrap64 ((mx 0 (mn D 1000))-E))).bind fun af=>(if af.size+a0.size≤9223372036854775807 then(some (af++a0)) else(none))) else((zbi.f 32 (wrap64 ((mx 0 (mn D 1000))-E))).bind fun ac=>(if ac.size+a0.size≤9223372036854775807 then(some (ac++a0)) else(none)))))))=some r:=h
 clear h
 obtain⟨ag,Z⟩:=ex (mn D 1000)
 (first|rw[Z] at H|simp only[Z] at H)
 (try(have be:ag≤1000:=by(rw[←Z];unfold mn;(repeat' split)<;>omega)))
 (try(have bf:ag≤64:=by omega))
 have bg:(if 1000<D then 1000 else D)=ag:=Z
 obtain⟨ah,I⟩:=ex (mx 0 (ag))
 (first|rw[I] at H|simp only[I] at H)
 have bh:(if 0<(ag) then(ag) else 0)=ah:=I
 replace H:=bs H
 obtain⟨E,A5,H⟩:=H
 go_enter Tryz.func45,Tryz.ntmps45
 try go_wp2_with (first|((with_reducible refine zah (N:=3) rfl ?_);refine zag rfl (N:=3) rfl (cs:=#[.bool J,.bool aa,.bool M,.bool O,.bool U,.int .i64 D,.int .i64 X,.int .i32 Y]) (t:=26) gz ?_;intro B hg w6 hbox hb;have bi:=gN bz hg;have A:=zaa.mk hbox;replace HB:=bN bz hb;clear hb hbox hg))
 replace A:=zaa.mk (zao A.out)
 replace HB:=zaa.mk (zaH HB.out)
 refine za8 (n:=8) (S:=fun w'=>w'.cell? ⟨B,0,none⟩=some (.bool J)∧w'.cell? ⟨B,1,none⟩=some (.bool aa)∧w'.cell? ⟨B,2,none⟩=some (.bool M)∧w'.cell? ⟨B,3,none⟩=some (.bool O)∧w'.cell? ⟨B,4,none⟩=some (.bool U)∧w'.cell? ⟨B,5,none⟩=some (.int .i64 D)∧w'.cell? ⟨B,6,none⟩=some (.int .i64 X)∧w'.cell? ⟨B,7,none⟩=some (.int .i32 Y)) (ds:=[]) #[false,false,false,false,false,false,false,false] (by kernel_rfl) rfl rfl ⟨(zab A.out 0).trans rfl,(zab A.out 1).trans rfl,(zab A.out 2).trans rfl,(zab A.out 3).trans rfl,(zab A.out 4).trans rfl,(zab A.out 5).trans rfl,(zab A.out 6).trans rfl,(zab A.out 7).trans rfl⟩ (fun hHeld=>?_);refine za0 zbj.tab1 zbj.bits1 (fun ab HW_=>?_)
 generalize w6.drew=w7 at A HB hHeld ⊢
 refine pz (i:=0) (N:=6) ab ?_
 refine pz (i:=4) (N:=10) ab ?_
 refine tz (i:=1) (N:=7) rfl ab HW_ hHeld (by(rintro w' ⟨s0,s1,s2,s3,s4,s5,s6,s7⟩;go_simp;with_reducible rfl)) ?_
 refine pz (i:=2) (N:=8) ab ?_
 refine pz (i:=3) (N:=9) ab ?_
 refine oz (i:=5) (N:=some 11) ab fun K hK=>?_
 refine gG Tryz.func71 (zbC.calls a0 E _ A5.out) ?_
 intro w8 hb
 replace A:=kN (g:=B) (cs:=#[.bool J,.bool aa,.bool M,.bool O,.bool U,.int .i64 D,.int .i64 X,.int .i32 Y]) hb bk
 replace HB:=bN bz hb
 clear hb
 refine hK.out _ _ (d8 A) (fun hHeld=>?_)
 clear hK K
 refine zaL (a':=?_) ?_ ?_
 rotate_left
 ·show Act.put _ (some 11) _=_
  simp only[Act.put,List.setIfInBounds_toArray,List.set_cons_zero,List.set_cons_succ,zar,zau]
  rfl
 refine pz (i:=6) (N:=12) ab ?_
 refine pz (i:=7) (N:=5) ab ?_
 refine dz ab ?_
 go_upto_if 13 with(fail)
 by_cases c9:(wrap64 ((ah)-E))≤0
 ·replace H:=hE H c9
  have ad:=decide_eq_true c9
  clear c9
  (first|rw[ad]|(simp only[zar,zau];rw[ad])|skip)
  obtain rfl:=Option.some.inj H
  go_wp2
  go_ret
  exact⟨by first|exact ez|(simp only[←Z,←I];exact ez),bz⟩
 replace H:=hN H c9
 have ad:=decide_eq_false c9
 clear c9
 (first|rw[ad]|(simp only[zar,zau];rw[ad])|skip)
 by_cases aj:aa=true
 ·subst aj
  replace H:=hT H
  replace H:=bs H
  obtain⟨ae,bj,H⟩:=H
  obtain⟨al,H⟩:=hG H
  have bl:=eq_true al
  have bm:=decide_eq_true al
  have bn:=eq_false (Nat.not_lt.2 al)
  obtain rfl:=Option.some.inj H
  obtain⟨an,ao,ap,ar,au,av,aw,ax,ay,az,aA,aB,aC,aD,aE,aF⟩:=cz8 A
  go_wp2_with (first|((with_reducible refine zad (f:=27) rfl ?_);refine gB Tryz.func27 (zbi.calls 32 (wrap64 ((ah)-E)) ae _ bj.out) ?_ (hargs:=by(try simp only[List.map_toArray,List.map_cons,List.map_nil]);first|done|(simp only[I];rfl)|rfl|(simp only[List.length_drop,List.length_take];rfl));intro bC hb;replace A:=kN (g:=B) (cs:=#[.bool J,.bool true,.bool M,.bool O,.bool U,.int .i64 D,.int .i64 X,.int .i32 Y]) hb bk;replace HB:=bN bz hb;clear hb))
  go_ret
  exact⟨by first|exact ez|(simp only[←Z,←I];exact ez),bz⟩
 replace aj:=Bool.eq_false_iff.mpr aj
 subst aj
 replace H:=hF H
 by_cases ak:U=true
 ·subst ak
  replace H:=hT H
  replace H:=bs H
  obtain⟨af,bo,H⟩:=H
  obtain⟨am,H⟩:=hG H
  have bp:=eq_true am
  have bq:=decide_eq_true am
  have br:=eq_false (Nat.not_lt.2 am)
  obtain rfl:=Option.some.inj H
  obtain⟨aG,aH,aI,aJ,aK,aL,aM,aN,aO,aP,aQ,aR,aS,aT,aU,aV⟩:=cz8 A
  go_wp2_with (first|((with_reducible refine zad (f:=27) rfl ?_);refine gB Tryz.func27 (zbi.calls 48 (wrap64 ((ah)-E)) af _ bo.out) ?_ (hargs:=by(try simp only[List.map_toArray,List.map_cons,List.map_nil]);first|done|(simp only[I];rfl)|rfl|(simp only[List.length_drop,List.length_take];rfl));intro bD hb;replace A:=kN (g:=B) (cs:=#[.bool J,.bool false,.bool M,.bool O,.bool true,.int .i64 D,.int .i64 X,.int .i32 Y]) hb bk;replace HB:=bN bz hb;clear hb))
  go_ret
  exact⟨by first|exact ez|(simp only[←Z,←I];exact ez),bz⟩
 replace ak:=Bool.eq_false_iff.mpr ak
 subst ak
 replace H:=hF H
 replace H:=bs H
 obtain⟨ac,bu,H⟩:=H
 by_cases ai:ac.size+a0.size≤9223372036854775807
 ·replace H:=hE H ai
  have bv:=eq_true ai
  have bw:=decide_eq_true ai
  have bA:=eq_false (Nat.not_lt.2 ai)
  obtain rfl:=Option.some.inj H
  obtain⟨aW,aX,aY,aZ,a1,a2,a3,a4,a5,a6,a7,a8,a9,ba,bb,bd⟩:=cz8 A
  go_wp2_with (first|((with_reducible refine zad (f:=27) rfl ?_);refine gB Tryz.func27 (zbi.calls 32 (wrap64 ((ah)-E)) ac _ bu.out) ?_ (hargs:=by(try simp only[List.map_toArray,List.map_cons,List.map_nil]);first|done|(simp only[I];rfl)|rfl|(simp only[List.length_drop,List.length_take];rfl));intro bE hb;replace A:=kN (g:=B) (cs:=#[.bool J,.bool false,.bool M,.bool O,.bool false,.int .i64 D,.int .i64 X,.int .i32 Y]) hb bk;replace HB:=bN bz hb;clear hb))
  go_ret
  exact⟨by first|exact ez|(simp only[←Z,←I];exact ez),bz⟩
 replace H:=hN H ai
 exact absurd H (by simp)
end
end Go.Proofs.YtecpgdfnamkfdaaGreatDoor.Fn
end
section
namespace Go.Proofs.YtecpgdfnamkfdaaGreatDoor.Pure
set_option linter.unusedVariables false
def fM(f p:Nat):Nat:=if p / 2^f=0 then p%2^f else p%2^f+2^f
def fE(f p:Nat):Nat:=p / 2^f-1
def fW(f p:Nat):Nat:=fM f p*2^fE f p
theorem zbM(n:Nat):0<2^n:=Nat.pow_pos (by omega)
theorem zgn(f p:Nat):fM f p<2^(f+1):=by
  have h:=Nat.mod_lt p (zbM f)
  unfold fM
  rw[Nat.pow_succ]
  split<;>omega
theorem fParts(f k m:Nat)(h1:m<2^(f+1))(h2:2^f≤m∨k=0):fM f (k*2^f+m)=m∧fE f (k*2^f+m)=k:=by
  have hp:=zbM f
  rw[Nat.pow_succ] at h1
  unfold fM fE
  by_cases c:2^f≤m
  · have e:k*2^f+m=(m-2^f)+2^f*(k+1):=by rw[Nat.mul_add,Nat.mul_one,Nat.mul_comm (2^f) k];omega
    rw[e,Nat.add_mul_div_left _ _ hp,Nat.add_mul_mod_self_left,Nat.div_eq_of_lt (by omega),Nat.mod_eq_of_lt (by omega)]
    rw[if_neg (by omega)]
    omega
  · have hk:k=0:=h2.resolve_left c
    subst hk
    rw[Nat.zero_mul,Nat.zero_add,Nat.div_eq_of_lt (by omega),Nat.mod_eq_of_lt (by omega),if_pos rfl]
    exact⟨rfl,rfl⟩
theorem fOf(f p:Nat):p=fE f p*2^f+fM f p∧(2^f≤fM f p∨fE f p=0):=by
  have hp:=zbM f
  have hd:=Nat.div_add_mod p (2^f)
  unfold fM fE
  by_cases c:p / 2^f=0
  · rw[if_pos c,c,Nat.zero_sub,Nat.zero_mul,Nat.zero_add]
    rw[c,Nat.mul_zero,Nat.zero_add] at hd
    exact⟨hd.symm,.inr rfl⟩
  · rw[if_neg c]
    obtain⟨j,hj⟩:=Nat.exists_eq_succ_of_ne_zero c
    rw[Nat.succ_eq_add_one] at hj
    rw[hj] at hd ⊢
    rw[Nat.mul_add,Nat.mul_one,Nat.mul_comm (2^f) j] at hd
    rw[Nat.add_sub_cancel]
    omega
theorem zh6{f k m:Nat}(h1:m≤2^(f+1))(h2:2^f≤m∨k=0):fW f (k*2^f+m)=m*2^k:=by
  by_cases c:m<2^(f+1)
  · obtain⟨e1,e2⟩:=fParts f k m c h2
    unfold fW
    rw[e1,e2]
  · have hm:m=2^(f+1):=by omega
    have e:k*2^f+m=(k+1)*2^f+2^f:=by rw[hm,Nat.pow_succ,Nat.add_mul];omega
    obtain⟨e1,e2⟩:=fParts f (k+1) (2^f) (by rw[Nat.pow_succ];have:=zbM f;omega) (.inl (Nat.le_refl _))
    unfold fW
    rw[e,e1,e2,hm,Nat.pow_succ,Nat.pow_succ,Nat.mul_assoc,Nat.mul_comm 2]
theorem zdA(f p:Nat):fW f (p+1)=fW f p+2^fE f p:=by
  obtain⟨e1,e2⟩:=fOf f p
  have hlt:=zgn f p
  have e3:p+1=fE f p*2^f+(fM f p+1):=by omega
  rw[e3,zh6 (by omega) (e2.imp (fun h=>by omega) id)]
  unfold fW
  rw[Nat.add_mul,Nat.one_mul]
theorem ze2{f p q:Nat}(h:p<q):fW f p<fW f q:=by
  obtain⟨d,rfl⟩: ∃d,q=p+1+d:=⟨q-(p+1),by omega⟩
  clear h
  induction d with
  |zero=>rw[Nat.add_zero,zdA];have:=zbM (fE f p);omega
  |succ d ih=>rw[←Nat.add_assoc,zdA];have:=zbM (fE f (p+1+d));omega
theorem zgo{f p q:Nat}(h:p≤q):fW f p≤fW f q:=by
  rcases Nat.lt_or_eq_of_le h with h|rfl
  · exact Nat.le_of_lt (ze2 h)
  · exact Nat.le_refl _
theorem ziz(f:Nat):fW f 0=0:=by
  have:=zh6 (f:=f) (k:=0) (m:=0) (Nat.zero_le _) (.inr rfl)
  rw[Nat.zero_mul,Nat.zero_add,Nat.zero_mul] at this
  exact this
def fFloor(f inf X B p:Nat):Prop:=p≤inf∧fW f p*B≤X∧(p<inf→X<fW f (p+1)*B)
theorem zec{f inf X B p q:Nat}(hB:0<B)(h1:fFloor f inf X B p)(h2:fFloor f inf X B q):p=q:=by
  obtain⟨a1,a2,a3⟩:=h1
  obtain⟨b1,b2,b3⟩:=h2
  have key: ∀p q:Nat,p<q→q≤inf→fW f q*B≤X→(p<inf→X<fW f (p+1)*B)→False:=by
    intro p q hpq hq h1 h2
    have h3:=h2 (by omega)
    have h4:fW f (p+1)*B≤fW f q*B:=Nat.mul_le_mul_right _ (zgo hpq)
    omega
  rcases Nat.lt_trichotomy p q with h|h|h
  · exact(key p q h b1 b2 a3).elim
  · exact h
  · exact(key q p h a1 a2 b3).elim
def fUp(f X B p:Nat):Prop:=(fW f p+fW f (p+1))*B<2*X∨((fW f p+fW f (p+1))*B=2*X∧p%2=1)
instance (f X B p : Nat) : Decidable (fUp f X B p) := by unfold fUp; infer_instance
def fNear(f inf X B p:Nat):Nat:=if p=inf then inf else if fUp f X B p then p+1 else p
def fFind(f X B:Nat):Nat→Nat→Nat
  |0,lo=>lo
  |n+1,lo=>if fW f (lo+2^n)*B≤X then fFind f X B n (lo+2^n) else fFind f X B n lo
theorem zda(f X B:Nat): ∀n lo,fW f lo*B≤X→fW f (fFind f X B n lo)*B≤X∧(X<fW f (lo+2^n)*B→X<fW f (fFind f X B n lo+1)*B)∧lo≤fFind f X B n lo∧fFind f X B n lo<lo+2^n
  |0,lo,h=>⟨h,fun h=>h,Nat.le_refl _,by simp[fFind]⟩
  |n+1,lo,h=>by
    unfold fFind
    have hp:=zbM n
    by_cases c:fW f (lo+2^n)*B≤X
    · rw[if_pos c]
      obtain⟨a,b,d,e⟩:=zda f X B n (lo+2^n) c
      refine⟨a,fun h2=>b ?_,by omega,by rw[Nat.pow_succ];omega⟩
      rw[show lo+2^n+2^n=lo+2^(n+1) by rw[Nat.pow_succ];omega]
      exact h2
    · rw[if_neg c]
      obtain⟨a,b,d,e⟩:=zda f X B n lo h
      exact⟨a,fun _=>b (by omega),d,by rw[Nat.pow_succ];omega⟩
end Go.Proofs.YtecpgdfnamkfdaaGreatDoor.Pure
end
section
namespace Go.Proofs.YtecpgdfnamkfdaaGreatDoor.Fn
open Go.RowKit Go.Proofs.YtecpgdfnamkfdaaGreatDoorW.PrintWords Go.Proofs.YtecpgdfnamkfdaaGreatDoorW.PrintLast Go.Proofs.YtecpgdfnamkfdaaGreatDoorW.PrintMore
set_option linter.unusedVariables false
set_option linter.unusedSimpArgs false
set_option maxHeartbeats 8000000
set_option maxRecDepth 100000
section
attribute [local go_sem] fnW_0 fnW_1 fnW_2 fnW_3 fnW_4 fnW_5 fnW_guard fnW_eql zaD zaE zaI zaJ
def zbz.f(a0:Int):Option (Int×Int×Int×Bool):=if a0=32 then(some (23,(-149),2139095040,true)) else(if a0=64 then(some (52,(-1074),9218868437227405312,true)) else(some (0,0,0,false)))
theorem zbz.calls(a0:Int)(r1:Int)(r2:Int)(r3:Int)(r4:Bool)(w:World)(h:zbz.f a0=some (r1,r2,r3,r4)):
  Calls Tryz.prog 42 #[.int .i64 a0] w fun e w'=>e= .returned (.tuple #[.agg #[.int .i64 r1,.int .i64 r2,.int .u64 r3],.bool r4])∧Below w.heap.size w w':=by
 have am:=Tryz.underlying66
 have HB:=zaa.mk (Below.refl w.heap.size w)
 have H:(if a0=32 then(some (23,(-149),2139095040,true)) else(if a0=64 then(some (52,(-1074),9218868437227405312,true)) else(some (0,0,0,false))))=some (r1,r2,r3,r4):=h
 clear h
 go_enter Tryz.func42,Tryz.ntmps42
 go_upto_if 5 with(first|((with_reducible refine zah (N:=2) rfl ?_);refine zag rfl (N:=2) rfl (cs:=#[.int .i64 0,.int .i64 0,.int .u64 0]) (t:=66) gz ?_;intro A hg w2 hbox hb;have al:=gN bz hg;have B:=zaa.mk hbox;replace HB:=bN bz hb;clear hb hbox hg))
 (try simp only[Act.put,List.setIfInBounds_toArray,List.set_cons_zero,List.set_cons_succ])
 by_cases c3:a0=32
 ·replace H:=hE H c3
  obtain⟨D,E⟩:=eT c3
  clear c3
  try first|rw[D]|rw[E]
  simp only[Option.some.injEq,Prod.mk.injEq] at H
  obtain⟨rfl,rfl,rfl,rfl⟩:=H
  obtain⟨K,M,O,U,X,Y⟩:=cz3 B
  go_wp2
  refine bodyPost_ret (zaK rfl _ _ A 66 #[.int .i64 23,.int .i64 (-149),.int .u64 2139095040] (0,0) _ rfl bk Tryz.underlying66 rfl (by kernel_rfl)) rfl ?_
  exact⟨ez,bz⟩
 replace H:=hN H c3
 obtain⟨D,E⟩:=eF c3
 try first|rw[D]|rw[E]
 by_cases c5:a0=64
 ·replace H:=hE H c5
  obtain⟨I,J⟩:=eT c5
  clear c5
  simp only[Option.some.injEq,Prod.mk.injEq] at H
  obtain⟨rfl,rfl,rfl,rfl⟩:=H
  obtain⟨Z,aa,ab,ac,ad,ae⟩:=cz3 B
  go_wp2
  refine bodyPost_ret (zaK rfl _ _ A 66 #[.int .i64 52,.int .i64 (-1074),.int .u64 9218868437227405312] (0,0) _ rfl bk Tryz.underlying66 rfl (by kernel_rfl)) rfl ?_
  exact⟨ez,bz⟩
 replace H:=hN H c5
 obtain⟨I,J⟩:=eF c5
 simp only[Option.some.injEq,Prod.mk.injEq] at H
 obtain⟨rfl,rfl,rfl,rfl⟩:=H
 obtain⟨af,ag,ah,ai,aj,ak⟩:=cz3 B
 go_wp2
 refine bodyPost_ret (zaK rfl _ _ A 66 #[.int .i64 0,.int .i64 0,.int .u64 0] (0,0) _ rfl bk Tryz.underlying66 rfl (by kernel_rfl)) rfl ?_
 exact⟨ez,bz⟩
def zaP.f(A:Int)(B:Int)(D:Int)(a1:Int):Option (Int×Int):=if 0≤A then(if(wrap64 (shr .u64 a1 A))=0 then(some (Go.bits .and .u64 a1 (IntKind.u64.wrap ((shl .u64 1 A)-1)),B)) else(some (Go.bits .or .u64 (Go.bits .and .u64 a1 (IntKind.u64.wrap ((shl .u64 1 A)-1))) (shl .u64 1 A),wrap64 ((wrap64 (B+(wrap64 (shr .u64 a1 A))))-1)))) else(none)
theorem zaP.calls(A:Int)(E:Int)(K:Int)(a1:Int)(r1:Int)(r2:Int)(w:World)(h:zaP.f A E K a1=some (r1,r2)):
  Calls Tryz.prog 43 #[.agg #[.int .i64 A,.int .i64 E,.int .u64 K],.int .u64 a1] w fun e w'=>e= .returned (.tuple #[.int .u64 r1,.int .i64 r2])∧Below w.heap.size w w':=by
 have aG:=Tryz.underlying66
 have HB:=zaa.mk (Below.refl w.heap.size w)
 have H:(if 0≤A then(if(wrap64 (shr .u64 a1 A))=0 then(some (Go.bits .and .u64 a1 (IntKind.u64.wrap ((shl .u64 1 A)-1)),E)) else(some (Go.bits .or .u64 (Go.bits .and .u64 a1 (IntKind.u64.wrap ((shl .u64 1 A)-1))) (shl .u64 1 A),wrap64 ((wrap64 (E+(wrap64 (shr .u64 a1 A))))-1)))) else(none))=some (r1,r2):=h
 clear h
 by_cases c3:0≤A
 case neg=>
  replace H:=hN H c3
  exact absurd H (by simp)
 obtain⟨aH,aI,H⟩:=hE3 H c3
 clear c3
 obtain⟨aj,I⟩:=ex (shr .u64 a1 A)
 (first|rw[I] at H|simp only[I] at H)
 have aB:(a1 / 2^min A.toNat 64)=aj:=I
 have aC:A≤64→(a1 / 2^A.toNat)=aj:=zcH I
 have aJ:=eq_true (od:0≤A)
 obtain⟨ai,J⟩:=ex (shl .u64 1 A)
 (first|rw[J] at H|simp only[J] at H)
 have ak:(IntKind.u64.wrap (1*2^min A.toNat 64))=ai:=J
 have al:A≤64→(IntKind.u64.wrap (1*2^A.toNat))=ai:=zbx J
 have aD:(IntKind.u64.wrap (2^min A.toNat 64))=ai:=by have h_:=ak;rw[Int.one_mul] at h_;exact h_
 have aE:A≤64→(IntKind.u64.wrap (2^A.toNat))=ai:=fun hle_=>by have h_:=al hle_;rw[Int.one_mul] at h_;exact h_
 go_enter Tryz.func43,Tryz.ntmps43
 go_upto_if 20 with(first|((with_reducible refine zah (N:=2) rfl ?_);refine zag rfl (N:=2) rfl (cs:=#[.int .i64 A,.int .i64 E,.int .u64 K]) (t:=66) gz ?_;intro D hg w7 hbox hb;have ab:=gN bz hg;have ac:=gN bz hg;have B:=zaa.mk hbox;replace HB:=bN bz hb;clear hb hbox hg;obtain⟨O,U,X,Y,Z,aa⟩:=cz3 B))
 repeat(go_quiet (first|((with_reducible refine zah (N:=2) rfl ?_);refine zag rfl (N:=2) rfl (cs:=#[.int .i64 A,.int .i64 E,.int .u64 K]) (t:=66) gz ?_;intro D hg w7 hbox hb;have ad:=bN bz hb;have ae:=zaa.mk (hbox);have af:=zaa.mk ((by rw[hg];exact(zaG bz):w.heap.size≤D));have ag:=zaa.mk ((by rw[hg];exact(zaG bz):w.heap.size≤D));clear HB;have HB:=ad;have B:=ae;have ab:=af;have ac:=ag;clear ad ae af ag;clear hb hbox hg;obtain⟨O,U,X,Y,Z,aa⟩:=cz3 B));go_upto_if 20 with(first|((with_reducible refine zah (N:=2) rfl ?_);refine zag rfl (N:=2) rfl (cs:=#[.int .i64 A,.int .i64 E,.int .u64 K]) (t:=66) gz ?_;intro D hg w7 hbox hb;have ad:=bN bz hb;have ae:=zaa.mk (hbox);have af:=zaa.mk ((by rw[hg];exact(zaG bz):w.heap.size≤D));have ag:=zaa.mk ((by rw[hg];exact(zaG bz):w.heap.size≤D));clear HB;have HB:=ad;have B:=ae;have ab:=af;have ac:=ag;clear ad ae af ag;clear hb hbox hg;obtain⟨O,U,X,Y,Z,aa⟩:=cz3 B)))
 (try simp only[Act.put,List.setIfInBounds_toArray,List.set_cons_zero,List.set_cons_succ])
 by_cases c9:(wrap64 (aj))=0
 ·replace H:=hE H c9
  obtain⟨M,ah⟩:=eT c9
  clear c9
  (first|rw[M]|rw[ah]|(simp only[zar,zau];rw[M])|skip)
  obtain⟨rfl,rfl⟩:=o2 H
  obtain⟨am,an,ao,ap,ar,au⟩:=cz3 B
  go_wp2
  repeat(go_quiet (fail);try go_wp2)
  go_ret2
  exact⟨by first|exact ez|(simp only[←I,←J];exact ez),bz⟩
 replace H:=hN H c9
 obtain⟨M,ah⟩:=eF c9
 (first|rw[M]|rw[ah]|(simp only[zar,zau];rw[M])|skip)
 have aF:=eq_true (od:0≤A)
 obtain⟨rfl,rfl⟩:=o2 H
 obtain⟨av,aw,ax,ay,az,aA⟩:=cz3 B
 go_wp2
 repeat(go_quiet (fail);try go_wp2)
 go_ret2
 exact⟨by first|exact ez|(simp only[←I,←J];exact ez),bz⟩
def zbA.f(a0:Int)(a1:Int):Option (Bool×Int×Int×Int):=(zbz.f a1).bind fun A=>(if A.2.2.2=true then(if 0≤(wrap64 (a1-1)) then(if(Go.bits .and .u64 a0 (IntKind.u64.wrap ((shl .u64 1 (wrap64 (a1-1)))-1)))=A.2.2.1 then(some (((Go.bits .and .u64 (shr .u64 a0 (wrap64 (a1-1))) 1)==1),0,0,1)) else(if(Go.bits .and .u64 a0 (IntKind.u64.wrap ((shl .u64 1 (wrap64 (a1-1)))-1)))>A.2.2.1 then(some (((Go.bits .and .u64 (shr .u64 a0 (wrap64 (a1-1))) 1)==1),0,0,2)) else((zaP.f A.1 A.2.1 A.2.2.1 (Go.bits .and .u64 a0 (IntKind.u64.wrap ((shl .u64 1 (wrap64 (a1-1)))-1)))).bind fun B=>(some (((Go.bits .and .u64 (shr .u64 a0 (wrap64 (a1-1))) 1)==1),B.1,B.2,0))))) else(none)) else(some (false,0,0,3)))
theorem zbA.calls(a0:Int)(a1:Int)(r1:Bool)(r2:Int)(r3:Int)(r4:Int)(w:World)(h:zbA.f a0 a1=some (r1,r2,r3,r4)):
  Calls Tryz.prog 24 #[.int .u64 a0,.int .i64 a1] w fun e w'=>e= .returned (.tuple #[.bool r1,.int .u64 r2,.int .i64 r3,.int .i64 r4])∧Below w.heap.size w w':=by
 have aT:=Tryz.underlying66
 have HB:=zaa.mk (Below.refl w.heap.size w)
 have H:((zbz.f a1).bind fun E=>(if E.2.2.2=true then(if 0≤(wrap64 (a1-1)) then(if(Go.bits .and .u64 a0 (IntKind.u64.wrap ((shl .u64 1 (wrap64 (a1-1)))-1)))=E.2.2.1 then(some (((Go.bits .and .u64 (shr .u64 a0 (wrap64 (a1-1))) 1)==1),0,0,1)) else(if(Go.bits .and .u64 a0 (IntKind.u64.wrap ((shl .u64 1 (wrap64 (a1-1)))-1)))>E.2.2.1 then(some (((Go.bits .and .u64 (shr .u64 a0 (wrap64 (a1-1))) 1)==1),0,0,2)) else((zaP.f E.1 E.2.1 E.2.2.1 (Go.bits .and .u64 a0 (IntKind.u64.wrap ((shl .u64 1 (wrap64 (a1-1)))-1)))).bind fun Y=>(some (((Go.bits .and .u64 (shr .u64 a0 (wrap64 (a1-1))) 1)==1),Y.1,Y.2,0))))) else(none)) else(some (false,0,0,3))))=some (r1,r2,r3,r4):=h
 clear h
 replace H:=bs H
 obtain⟨⟨Z,aa,J,ae⟩,A3,H⟩:=H
 dsimp only at H
 go_enter Tryz.func24,Tryz.ntmps24
 go_upto_if 20 with(first|((with_reducible refine zad (f:=42) rfl ?_);refine gB Tryz.func42 (zbz.calls a1 Z aa J ae _ A3.out) ?_;intro w4 hb;replace HB:=bN bz hb;clear hb)|((with_reducible refine zah (N:=8) rfl ?_);refine zag rfl (N:=8) rfl (cs:=#[.int .i64 0,.int .i64 0,.int .u64 0]) (t:=66) gz ?_;intro ag hg w5 hbox hb;have aP:=gN bz hg;have K:=zaa.mk hbox;replace HB:=bN bz hb;clear hb hbox hg;obtain⟨aF,aG,aH,aI,aJ,aK⟩:=cz3 K))
 (try simp only[Act.put,List.setIfInBounds_toArray,List.set_cons_zero,List.set_cons_succ])
 by_cases c7:ae=true
 case neg=>
  replace c7:=Bool.eq_false_iff.mpr c7
  subst c7
  replace H:=hF H
  simp only[Option.some.injEq,Prod.mk.injEq] at H
  obtain⟨rfl,rfl,rfl,rfl⟩:=H
  go_wp2
  refine bodyPost_ret (zbB (rs:=[.tmp 4,.tmp 5,.tmp 6,.tmp 7]) rfl (by simp) (.tmp (.tmp (.tmp (.tmp .nil))))) rfl ?_
  exact⟨ez,bz⟩
 subst c7
 replace H:=hT H
 obtain⟨I,O⟩:=ex (wrap64 (a1-1))
 (first|rw[O] at H|simp only[O] at H)
 have aQ:(IntKind.i64.wrap (a1-1))=I:=(zar _).trans O
 obtain⟨aU,aV,H⟩:=hG3 H
 obtain⟨af,B⟩:=ex (shr .u64 a0 (I))
 (first|rw[B] at H|simp only[B] at H)
 have aL:(a0 / 2^min (I).toNat 64)=af:=B
 have aM:(I)≤64→(a0 / 2^(I).toNat)=af:=zcH B
 have aR:=eq_true (od:0≤(I))
 obtain⟨D,A⟩:=ex (shl .u64 1 (I))
 (first|rw[A] at H|simp only[A] at H)
 have ac:(IntKind.u64.wrap (1*2^min (I).toNat 64))=D:=A
 have ad:(I)≤64→(IntKind.u64.wrap (1*2^(I).toNat))=D:=zbx A
 have aN:(IntKind.u64.wrap (2^min (I).toNat 64))=D:=by have h_:=ac;rw[Int.one_mul] at h_;exact h_
 have aO:(I)≤64→(IntKind.u64.wrap (2^(I).toNat))=D:=fun hle_=>by have h_:=ad hle_;rw[Int.one_mul] at h_;exact h_
 by_cases ab:(Go.bits .and .u64 a0 (IntKind.u64.wrap ((D)-1)))=J
 ·replace H:=hE H ab
  obtain⟨M,U⟩:=eT ab
  clear ab
  (first|rw[M]|rw[U]|(simp only[zar,zau];rw[M])|skip)
  simp only[Option.some.injEq,Prod.mk.injEq] at H
  obtain⟨rfl,rfl,rfl,rfl⟩:=H
  obtain⟨ai,aj,ak,al,am,an⟩:=cz3 K
  go_wp2
  refine bodyPost_ret (zbB (rs:=[.tmp 4,.tmp 5,.tmp 6,.tmp 7]) rfl (by simp) (.tmp (.tmp (.tmp (.tmp .nil))))) rfl ?_
  exact⟨by first|exact ez|(simp only[←O,←B,←A];exact ez),bz⟩
 replace H:=hN H ab
 obtain⟨M,U⟩:=eF ab
 (first|rw[M]|rw[U]|(simp only[zar,zau];rw[M])|skip)
 by_cases X:(Go.bits .and .u64 a0 (IntKind.u64.wrap ((D)-1)))>J
 ·replace H:=hE H X
  have ah:decide (J<(Go.bits .and .u64 a0 (IntKind.u64.wrap ((D)-1))))=true:=decide_eq_true X
  clear X
  simp only[Option.some.injEq,Prod.mk.injEq] at H
  obtain⟨rfl,rfl,rfl,rfl⟩:=H
  obtain⟨ao,ap,ar,au,av,aw⟩:=cz3 K
  go_wp2
  refine bodyPost_ret (zbB (rs:=[.tmp 4,.tmp 5,.tmp 6,.tmp 7]) rfl (by simp) (.tmp (.tmp (.tmp (.tmp .nil))))) rfl ?_
  exact⟨by first|exact ez|(simp only[←O,←B,←A];exact ez),bz⟩
 replace H:=hN H X
 have ah:decide (J<(Go.bits .and .u64 a0 (IntKind.u64.wrap ((D)-1))))=false:=decide_eq_false X
 clear X
 replace H:=bs H
 obtain⟨⟨ax,ay⟩,aS,H⟩:=H
 dsimp only at H
 simp only[Option.some.injEq,Prod.mk.injEq] at H
 obtain⟨rfl,rfl,rfl,rfl⟩:=H
 obtain⟨az,aA,aB,aC,aD,aE⟩:=cz3 K
 go_wp2_with (first|((with_reducible refine zad (f:=43) rfl ?_);refine gB Tryz.func43 (zaP.calls Z aa J (Go.bits .and .u64 a0 (IntKind.u64.wrap ((D)-1))) ax ay _ aS.out) ?_ (hargs:=by(try simp only[List.map_toArray,List.map_cons,List.map_nil]);first|done|(simp only[A];rfl)|rfl|(simp only[List.length_drop,List.length_take];rfl));intro aW hb;replace K:=kN (g:=ag) (cs:=#[.int .i64 Z,.int .i64 aa,.int .u64 J]) hb bk;replace HB:=bN bz hb;clear hb))
 refine bodyPost_ret (zbB (rs:=[.tmp 4,.tmp 5,.tmp 6,.tmp 7]) rfl (by simp) (.tmp (.tmp (.tmp (.tmp .nil))))) rfl ?_
 exact⟨by first|exact ez|(simp only[←O,←B,←A];exact ez),bz⟩
end
end Go.Proofs.YtecpgdfnamkfdaaGreatDoor.Fn
end
section
namespace Go.Proofs.YtecpgdfnamkfdaaGreatDoor.Pure
open Go.RowKit Go.Proofs.YtecpgdfnamkfdaaGreatDoor.Fn Go.Proofs.YtecpgdfnamkfdaaGreatDoorW.PrintWords
set_option linter.unusedVariables false
set_option linter.unusedSimpArgs false
def szB(wide:Bool):Int:=if wide then 64 else 32
def ff(wide:Bool):Nat:=if wide then 52 else 23
def ll(wide:Bool):Nat:=if wide then 1074 else 149
def ii(wide:Bool):Nat:=if wide then 9218868437227405312 else 2139095040
def tt(wide:Bool):Nat:=if wide then 9223372036854775808 else 2147483648
theorem zgS(wide:Bool):zbz.f (szB wide)=some ((ff wide:Int),-(ll wide:Int),(ii wide:Int),true):=by
  cases wide<;>simp[zbz.f,szB,ff,ll,ii]
theorem zdb(j p:Nat)(hj:j≤64)(hp:p<18446744073709551616):Go.bits .and .u64 (p:Int) ((2^j-1:Nat):Int)=((p%2^j:Nat):Int):=by
  have h2:2^j≤2^64:=Nat.pow_le_pow_right (by omega) hj
  have hpos:0<2^j:=Nat.pow_pos (by omega)
  have e:(2:Nat)^64=18446744073709551616:=by decide
  rw[u64_and_nat _ _ hp (by omega),Nat.and_two_pow_sub_one_eq_mod]
theorem zjd(j x:Nat)(hj:j≤63)(hx:x<2^j):Go.bits .or .u64 (x:Int) ((2^j:Nat):Int)=((x+2^j:Nat):Int):=by
  have h2:2^j≤2^63:=Nat.pow_le_pow_right (by omega) hj
  have e:(2:Nat)^63=9223372036854775808:=by decide
  rw[u64_or_nat _ _ (by omega) (by omega),Nat.or_comm]
  have:=Nat.two_pow_add_eq_or_of_lt hx 1
  rw[Nat.mul_one] at this
  rw[←this,Nat.add_comm]
theorem zh7(wide:Bool):ff wide≤52:=by cases wide<;>simp[ff]
theorem zed(p j:Nat)(hj:j≤64):shr .u64 (p:Int) (j:Int)=((p / 2^j:Nat):Int):=by
  unfold shr
  rw[Int.toNat_natCast,show min j (IntKind.u64.bits)=j from Nat.min_eq_left (by simpa [IntKind.bits] using hj)]
  simp
theorem zer(j:Nat)(hj:j≤63):shl .u64 1 (j:Int)=((2^j:Nat):Int):=by
  have h2:2^j≤2^63:=Nat.pow_le_pow_right (by omega) hj
  have e:(2:Nat)^63=9223372036854775808:=by decide
  unfold shl
  rw[Int.toNat_natCast,show min j (IntKind.u64.bits)=j from Nat.min_eq_left (by simp[IntKind.bits];omega),Int.one_mul]
  rw[show((2:Int)^j)=((2^j:Nat):Int) by simp]
  generalize 2^j=P at*
  exact zcl (by omega) (by omega)
theorem zdO(j:Nat)(hj:j≤63):IntKind.u64.wrap (shl .u64 1 (j:Int)-1)=((2^j-1:Nat):Int):=by
  have hpos:0<2^j:=Nat.pow_pos (by omega)
  have h2:2^j≤2^63:=Nat.pow_le_pow_right (by omega) hj
  have e:(2:Nat)^63=9223372036854775808:=by decide
  rw[zer j hj]
  generalize 2^j=P at*
  rw[zcl (x:=(P:Int)-1) (by omega) (by omega)]
  omega
theorem zdP(wide:Bool)(p:Nat)(hp:p<9223372036854775808):
    zaP.f (ff wide:Int) (-(ll wide:Int)) (ii wide:Int) (p:Int)=some ((fM (ff wide) p:Int),(fE (ff wide) p:Int)-(ll wide:Int)):=by
  have hf:=zh7 wide
  have hl:ll wide≤1074:=by cases wide<;>simp[ll]
  unfold zaP.f
  rw[if_pos (by omega),zed p _ (by omega),zdO _ (by omega),zdb _ _ (by omega) (by omega),zer _ (by omega)]
  have hd:p / 2^ff wide≤p:=Nat.div_le_self _ _
  unfold fM fE
  have hpos:0<2^ff wide:=Nat.pow_pos (by omega)
  have hm:=Nat.mod_lt p hpos
  by_cases c:p / 2^ff wide=0
  · rw[if_pos c,c,if_pos (by simp[wrap64])]
    congr 2
    omega
  · rw[if_neg c,zjd _ _ (by omega) hm]
    generalize p / 2^ff wide=q at*
    rw[if_neg (by rw[zaN (by omega) (by omega)];omega),zaN (x:=(q:Int)) (by omega) (by omega),zaN (x:= -(ll wide:Int)+(q:Int)) (by omega) (by omega),zaN (by omega) (by omega)]
    congr 2
    omega
def bareN(wide:Bool)(a:Nat):Nat:=a%tt wide
def partsS(wide:Bool)(a:Nat):Bool×Int×Int×Int:=
  ((a / tt wide%2==1:Bool),if bareN wide a<ii wide then((fM (ff wide) (bareN wide a):Int),(fE (ff wide) (bareN wide a):Int)-(ll wide:Int),0) else(0,0,if bareN wide a=ii wide then 1 else 2))
theorem zgT(wide:Bool): ∃j:Nat,j≤63∧tt wide=2^j∧wrap64 (szB wide-1)=(j:Int):=by
  cases wide
  · exact⟨31,by omega,by decide,by simp[szB,wrap64]⟩
  · exact⟨63,by omega,by decide,by simp[szB,wrap64]⟩
theorem ze3(wide:Bool):0<tt wide∧tt wide≤9223372036854775808:=by cases wide<;>simp[tt]
theorem ze4(wide:Bool):0<ii wide∧ii wide<tt wide∧ii wide≤9218868437227405312:=by cases wide<;>simp[ii,tt]
theorem zje(wide:Bool)(x:Nat):(((x%2:Nat):Int)==1)=(x%2==1:Bool):=by
  rw[Bool.eq_iff_iff]
  simp
  omega
theorem parts_eq(wide:Bool)(a:Nat)(ha:a<18446744073709551616):zbA.f (a:Int) (szB wide)=some (partsS wide a):=by
  obtain⟨j,hj,ht,hw⟩:=zgT wide
  have hmt:=Nat.mod_lt a (ze3 wide).1
  have htt:=(ze3 wide).2
  unfold zbA.f
  rw[zgS]
  simp only[Option.bind_some]
  rw[if_pos trivial,hw,if_pos (by omega),zdO _ hj,zdb _ _ (by omega) ha,←ht,zed _ _ (by omega),←ht]
  rw[show(1:Int)=((2^1-1:Nat):Int) from rfl,zdb _ _ (by omega) (Nat.lt_of_le_of_lt (Nat.div_le_self _ _) ha),zdP wide _ (by omega)]
  simp only[Option.bind_some]
  unfold partsS bareN
  rw[show(((2^1-1:Nat)):Int)=1 from rfl,show(2:Nat)^1=2 from rfl,zje wide]
  generalize a%tt wide=p at*
  by_cases c1:p=ii wide
  · rw[if_pos (by omega),if_neg (by omega),if_pos c1]
  · rw[if_neg (by omega)]
    by_cases c2:p<ii wide
    · rw[if_neg (by omega),if_pos c2]
    · rw[if_pos (by omega),if_neg c2,if_neg c1]
theorem u64N(x:Nat)(h:x≤18446744073709551615):IntKind.u64.wrap (x:Int)=(x:Int):=zcl (by omega) (by omega)
theorem tdivN(a b:Nat):Int.tdiv (a:Int) (b:Int)=((a / b:Nat):Int):=by rw[zcZ (by omega)];simp
theorem tmodN(a b:Nat):Int.tmod (a:Int) (b:Int)=((a%b:Nat):Int):=by rw[zcY (by omega)];simp
theorem ze5(wide:Bool):ll wide≤1074:=by cases wide<;>simp[ll]
end Go.Proofs.YtecpgdfnamkfdaaGreatDoor.Pure
end
section
namespace Go.Proofs.YtecpgdfnamkfdaaGreatDoor.Fn
open Go.RowKit Go.Proofs.YtecpgdfnamkfdaaGreatDoorW.PrintWords Go.Proofs.YtecpgdfnamkfdaaGreatDoorW.PrintLast Go.Proofs.YtecpgdfnamkfdaaGreatDoorW.PrintMore
set_option linter.unusedVariables false
set_option linter.unusedSimpArgs false
set_option maxHeartbeats 8000000
set_option maxRecDepth 100000
section
attribute [local go_sem] fnW_0 fnW_1 fnW_2 fnW_3 fnW_4 fnW_5 fnW_guard fnW_eql zaD zaE zaI zaJ
def zaV.f(k:Nat)(B:ByteArray)(D:Int)(E:ByteArray)(I:Int):Option (Int):=(zbH.f k B D E I).bind fun A=>(some A.1)
theorem zaV.calls(k:Nat)(B:ByteArray)(D:Int)(E:ByteArray)(I:Int)(r:Int)(w:World)(h:zaV.f k B D E I=some r):
  Calls Tryz.prog 53 #[.agg #[.string B,.int .i64 D],.agg #[.string E,.int .i64 I]] w fun e w'=>e= .returned (.int .i64 r)∧Below w.heap.size w w':=by
 have ak:=Tryz.underlying42
 have HB:=zaa.mk (Below.refl w.heap.size w)
 have H:((zbH.f k B D E I).bind fun U=>(some U.1))=some r:=h
 clear h
 replace H:=bs H
 obtain⟨⟨Y,Z⟩,A3,H⟩:=H
 dsimp only at H
 obtain rfl:=Option.some.inj H
 go_enter Tryz.func53,Tryz.ntmps53
 go_wp2_with (first|((with_reducible refine zah (N:=2) rfl ?_);refine zag rfl (N:=2) rfl (cs:=#[.string B,.int .i64 D]) (t:=42) gz ?_;intro A hg w4 hbox hb;have ai:=gN bz hg;have J:=zaa.mk hbox;replace HB:=bN bz hb;clear hb hbox hg)|((with_reducible refine zah (N:=3) rfl ?_);refine zag rfl (N:=3) rfl (cs:=#[.string E,.int .i64 I]) (t:=42) gz ?_;intro X hg w5 hbox hb;have aj:=gN bz hg;have K:=lN (g:=A) hg bk;have M:=rN (g:=A) hg bk;replace J:=kN (g:=A) hb bk;have O:=zaa.mk hbox;replace HB:=bN bz hb;clear hb hbox hg;have al:=K.out;have am:=M.out;obtain⟨aa,ab,ac,ad⟩:=cz2 J;obtain⟨ae,af,ag,ah⟩:=cz2 O)|((with_reducible refine zad (f:=82) rfl ?_);refine gB Tryz.func82 (zbH.calls k B D E I Y Z _ A3.out) ?_;intro w9 hb;replace J:=kN (g:=A) hb bk;replace O:=kN (g:=X) hb bk;replace HB:=bN bz hb;clear hb))
 go_ret
 exact⟨ez,bz⟩
def zav.f(k:Nat)(J:ByteArray)(K:Int)(M:ByteArray)(O:Int)(D:Bool)(E:ByteArray)(I:Int):Option (Bool):=(zaV.f k E I J K).bind fun A=>((zaV.f k E I M O).bind fun B=>(if A>0 then(if B<0 then(some true) else(if D=true then(if A≥0 then(some (decide (B≤0))) else(some false)) else(some false))) else(if D=true then(if A≥0 then(some (decide (B≤0))) else(some false)) else(some false))))
def zav.T1:Bool×List (List Nat×List Nat):=(true,[([],[]),([],[]),([1],[1]),([0,2],[0,2]),([],[]),([],[]),([5],[5]),([4,6,3],[4,6]),([3,7,0,1,2,3],[3]),([7,8,0,1,2,3,4,5,6,7,8],[7])])
def zav.B1:List Nat:=[0,0,2,7,0,0,32,127,255,511]
theorem zav.tab1:rtab .any (opsOf Tryz.f56 1)=zav.T1:=by kernel_rfl
theorem zav.bits1:waitsOk zav.T1.2 zav.B1=true:=by kernel_rfl
theorem zav.calls(k:Nat)(E:ByteArray)(I:Int)(J:ByteArray)(M:Int)(ac:Bool)(Z:ByteArray)(aa:Int)(r:Bool)(w:World)(h:zav.f k E I J M ac Z aa=some r):
  Calls Tryz.prog 56 #[.agg #[.string E,.int .i64 I,.string J,.int .i64 M,.bool ac],.agg #[.string Z,.int .i64 aa]] w fun e w'=>e= .returned (.bool r)∧Below w.heap.size w w':=by
 have bU:=Tryz.underlying88
 have bV:=Tryz.underlying42
 have HB:=zaa.mk (Below.refl w.heap.size w)
 have H:((zaV.f k Z aa E I).bind fun ab=>((zaV.f k Z aa J M).bind fun ad=>(if ab>0 then(if ad<0 then(some true) else(if ac=true then(if ab≥0 then(some (decide (ad≤0))) else(some false)) else(some false))) else(if ac=true then(if ab≥0 then(some (decide (ad≤0))) else(some false)) else(some false)))))=some r:=h
 clear h
 replace H:=bs H
 obtain⟨ab,A3,H⟩:=H
 replace H:=bs H
 obtain⟨ad,A4,H⟩:=H
 by_cases c5:ab>0
 case neg=>
  replace H:=hN H c5
  have ao:decide (0<ab)=false:=decide_eq_false c5
  clear c5
  by_cases al:ac=true
  case neg=>
   replace al:=Bool.eq_false_iff.mpr al
   subst al
   replace H:=hF H
   obtain rfl:=Option.some.inj H
   go_enter Tryz.func56,Tryz.ntmps56
   try go_wp2_with (first|((with_reducible refine zah (N:=2) rfl ?_);refine zag rfl (N:=2) rfl (cs:=#[.string E,.int .i64 I,.string J,.int .i64 M,.bool false]) (t:=88) gz ?_;intro D hg ck hbox hb;have ae:=gN bz hg;have af:=gN bz hg;have A:=zaa.mk hbox;replace HB:=bN bz hb;clear hb hbox hg)|((with_reducible refine zah (N:=3) rfl ?_);refine zag rfl (N:=3) rfl (cs:=#[.string Z,.int .i64 aa]) (t:=42) gz ?_;intro U hg bQ hbox hb;have ag:=gN bz hg;have ah:=gN bz hg;have X:=lN (g:=D) (cs:=#[.string E,.int .i64 I,.string J,.int .i64 M,.bool false]) hg bk;have Y:=rN (g:=D) (cs:=#[.string E,.int .i64 I,.string J,.int .i64 M,.bool false]) hg bk;replace A:=kN (g:=D) (cs:=#[.string E,.int .i64 I,.string J,.int .i64 M,.bool false]) hb bk;have B:=zaa.mk hbox;replace HB:=bN bz hb;clear hb hbox hg))
   replace A:=zaa.mk (zao A.out)
   replace B:=zaa.mk (zao B.out)
   replace HB:=zaa.mk (zaH HB.out)
   refine za8 (n:=10) (S:=fun w'=>w'.cell? ⟨U,0,none⟩=some (.string Z)∧w'.cell? ⟨U,1,none⟩=some (.int .i64 aa)∧w'.cell? ⟨D,0,none⟩=some (.string E)∧w'.cell? ⟨D,1,none⟩=some (.int .i64 I)∧w'.cell? ⟨D,2,none⟩=some (.string J)∧w'.cell? ⟨D,3,none⟩=some (.int .i64 M)∧w'.cell? ⟨D,4,none⟩=some (.bool false)) (ds:=[]) #[false,false,false,false,false,false,false,false,false,false] (by kernel_rfl) rfl rfl ⟨(zab B.out 0).trans rfl,(zab B.out 1).trans rfl,(zab A.out 0).trans rfl,(zab A.out 1).trans rfl,(zab A.out 2).trans rfl,(zab A.out 3).trans rfl,(zab A.out 4).trans rfl⟩ (fun hHeld=>?_);refine za0 zav.tab1 zav.bits1 (fun O HW_=>?_)
   generalize bQ.drew=cm at A B HB hHeld ⊢
   refine pz (i:=1) (N:=8) O ?_
   refine pz (i:=5) (N:=12) O ?_
   refine tz (i:=0) (N:=7) rfl O HW_ hHeld (by(rintro w' ⟨s0,s1,s2,s3,s4,s5,s6⟩;go_simp;with_reducible rfl)) ?_
   refine tz (i:=2) (N:=9) rfl O HW_ hHeld (by(rintro w' ⟨s0,s1,s2,s3,s4,s5,s6⟩;go_simp;with_reducible rfl)) ?_
   refine tz (i:=4) (N:=11) rfl O HW_ hHeld (by(rintro w' ⟨s0,s1,s2,s3,s4,s5,s6⟩;go_simp;with_reducible rfl)) ?_
   refine tz (i:=6) (N:=13) rfl O HW_ hHeld (by(rintro w' ⟨s0,s1,s2,s3,s4,s5,s6⟩;go_simp;with_reducible rfl)) ?_
   refine oz (i:=3) (N:=some 10) O fun K hK=>?_
   refine gG Tryz.func53 (zaV.calls k Z aa E I ab _ A3.out) ?_
   intro cn hb
   replace A:=kN (g:=D) (cs:=#[.string E,.int .i64 I,.string J,.int .i64 M,.bool false]) hb bk
   replace B:=kN (g:=U) hb bk
   replace HB:=bN bz hb
   clear hb
   refine hK.out _ _ ⟨bc B 0,bc B 1,bc A 0,bc A 1,bc A 2,bc A 3,bc A 4⟩ (fun hHeld=>?_)
   clear hK K
   refine zaL (a':=?_) ?_ ?_
   rotate_left
   ·show Act.put _ (some 10) _=_
    simp only[Act.put,List.setIfInBounds_toArray,List.set_cons_zero,List.set_cons_succ,zar,zau]
    rfl
   refine oz (i:=7) (N:=some 14) O fun K hK=>?_
   refine gG Tryz.func53 (zaV.calls k Z aa J M ad _ A4.out) ?_
   intro co hb
   replace A:=kN (g:=D) (cs:=#[.string E,.int .i64 I,.string J,.int .i64 M,.bool false]) hb bk
   replace B:=kN (g:=U) hb bk
   replace HB:=bN bz hb
   clear hb
   refine hK.out _ _ ⟨bc B 0,bc B 1,bc A 0,bc A 1,bc A 2,bc A 3,bc A 4⟩ (fun hHeld=>?_)
   clear hK K
   refine zaL (a':=?_) ?_ ?_
   rotate_left
   ·show Act.put _ (some 14) _=_
    simp only[Act.put,List.setIfInBounds_toArray,List.set_cons_zero,List.set_cons_succ,zar,zau]
    rfl
   refine pz (i:=8) (N:=5) O ?_
   refine pz (i:=9) (N:=6) O ?_
   refine dz O ?_
   have bR:=X.out
   have bS:=Y.out
   obtain⟨bj,bl,bm,bn,bo,bp,bq,br,bu,bv⟩:=cz5 A
   try go_wp2
   go_ret
   exact⟨ez,bz⟩
  subst al
  replace H:=hT H
  by_cases aj:ab≥0
  ·replace H:=hE H aj
   have an:decide (0≤ab)=true:=decide_eq_true aj
   clear aj
   obtain rfl:=Option.some.inj H
   go_enter Tryz.func56,Tryz.ntmps56
   try go_wp2_with (first|((with_reducible refine zah (N:=2) rfl ?_);refine zag rfl (N:=2) rfl (cs:=#[.string E,.int .i64 I,.string J,.int .i64 M,.bool true]) (t:=88) gz ?_;intro D hg cb hbox hb;have ae:=gN bz hg;have af:=gN bz hg;have A:=zaa.mk hbox;replace HB:=bN bz hb;clear hb hbox hg)|((with_reducible refine zah (N:=3) rfl ?_);refine zag rfl (N:=3) rfl (cs:=#[.string Z,.int .i64 aa]) (t:=42) gz ?_;intro U hg bJ hbox hb;have ag:=gN bz hg;have ah:=gN bz hg;have X:=lN (g:=D) (cs:=#[.string E,.int .i64 I,.string J,.int .i64 M,.bool true]) hg bk;have Y:=rN (g:=D) (cs:=#[.string E,.int .i64 I,.string J,.int .i64 M,.bool true]) hg bk;replace A:=kN (g:=D) (cs:=#[.string E,.int .i64 I,.string J,.int .i64 M,.bool true]) hb bk;have B:=zaa.mk hbox;replace HB:=bN bz hb;clear hb hbox hg))
   replace A:=zaa.mk (zao A.out)
   replace B:=zaa.mk (zao B.out)
   replace HB:=zaa.mk (zaH HB.out)
   refine za8 (n:=10) (S:=fun w'=>w'.cell? ⟨U,0,none⟩=some (.string Z)∧w'.cell? ⟨U,1,none⟩=some (.int .i64 aa)∧w'.cell? ⟨D,0,none⟩=some (.string E)∧w'.cell? ⟨D,1,none⟩=some (.int .i64 I)∧w'.cell? ⟨D,2,none⟩=some (.string J)∧w'.cell? ⟨D,3,none⟩=some (.int .i64 M)∧w'.cell? ⟨D,4,none⟩=some (.bool true)) (ds:=[]) #[false,false,false,false,false,false,false,false,false,false] (by kernel_rfl) rfl rfl ⟨(zab B.out 0).trans rfl,(zab B.out 1).trans rfl,(zab A.out 0).trans rfl,(zab A.out 1).trans rfl,(zab A.out 2).trans rfl,(zab A.out 3).trans rfl,(zab A.out 4).trans rfl⟩ (fun hHeld=>?_);refine za0 zav.tab1 zav.bits1 (fun O HW_=>?_)
   generalize bJ.drew=cc at A B HB hHeld ⊢
   refine pz (i:=1) (N:=8) O ?_
   refine pz (i:=5) (N:=12) O ?_
   refine tz (i:=0) (N:=7) rfl O HW_ hHeld (by(rintro w' ⟨s0,s1,s2,s3,s4,s5,s6⟩;go_simp;with_reducible rfl)) ?_
   refine tz (i:=2) (N:=9) rfl O HW_ hHeld (by(rintro w' ⟨s0,s1,s2,s3,s4,s5,s6⟩;go_simp;with_reducible rfl)) ?_
   refine tz (i:=4) (N:=11) rfl O HW_ hHeld (by(rintro w' ⟨s0,s1,s2,s3,s4,s5,s6⟩;go_simp;with_reducible rfl)) ?_
   refine tz (i:=6) (N:=13) rfl O HW_ hHeld (by(rintro w' ⟨s0,s1,s2,s3,s4,s5,s6⟩;go_simp;with_reducible rfl)) ?_
   refine oz (i:=3) (N:=some 10) O fun K hK=>?_
   refine gG Tryz.func53 (zaV.calls k Z aa E I ab _ A3.out) ?_
   intro cd hb
   replace A:=kN (g:=D) (cs:=#[.string E,.int .i64 I,.string J,.int .i64 M,.bool true]) hb bk
   replace B:=kN (g:=U) hb bk
   replace HB:=bN bz hb
   clear hb
   refine hK.out _ _ ⟨bc B 0,bc B 1,bc A 0,bc A 1,bc A 2,bc A 3,bc A 4⟩ (fun hHeld=>?_)
   clear hK K
   refine zaL (a':=?_) ?_ ?_
   rotate_left
   ·show Act.put _ (some 10) _=_
    simp only[Act.put,List.setIfInBounds_toArray,List.set_cons_zero,List.set_cons_succ,zar,zau]
    rfl
   refine oz (i:=7) (N:=some 14) O fun K hK=>?_
   refine gG Tryz.func53 (zaV.calls k Z aa J M ad _ A4.out) ?_
   intro ce hb
   replace A:=kN (g:=D) (cs:=#[.string E,.int .i64 I,.string J,.int .i64 M,.bool true]) hb bk
   replace B:=kN (g:=U) hb bk
   replace HB:=bN bz hb
   clear hb
   refine hK.out _ _ ⟨bc B 0,bc B 1,bc A 0,bc A 1,bc A 2,bc A 3,bc A 4⟩ (fun hHeld=>?_)
   clear hK K
   refine zaL (a':=?_) ?_ ?_
   rotate_left
   ·show Act.put _ (some 14) _=_
    simp only[Act.put,List.setIfInBounds_toArray,List.set_cons_zero,List.set_cons_succ,zar,zau]
    rfl
   refine pz (i:=8) (N:=5) O ?_
   refine pz (i:=9) (N:=6) O ?_
   refine dz O ?_
   have bK:=X.out
   have bL:=Y.out
   obtain⟨aX,aY,aZ,a1,a2,a3,a4,a5,a6,a7⟩:=cz5 A
   try go_wp2
   go_ret
   exact⟨ez,bz⟩
  replace H:=hN H aj
  have an:decide (0≤ab)=false:=decide_eq_false aj
  clear aj
  obtain rfl:=Option.some.inj H
  go_enter Tryz.func56,Tryz.ntmps56
  try go_wp2_with (first|((with_reducible refine zah (N:=2) rfl ?_);refine zag rfl (N:=2) rfl (cs:=#[.string E,.int .i64 I,.string J,.int .i64 M,.bool true]) (t:=88) gz ?_;intro D hg cf hbox hb;have ae:=gN bz hg;have af:=gN bz hg;have A:=zaa.mk hbox;replace HB:=bN bz hb;clear hb hbox hg)|((with_reducible refine zah (N:=3) rfl ?_);refine zag rfl (N:=3) rfl (cs:=#[.string Z,.int .i64 aa]) (t:=42) gz ?_;intro U hg bM hbox hb;have ag:=gN bz hg;have ah:=gN bz hg;have X:=lN (g:=D) (cs:=#[.string E,.int .i64 I,.string J,.int .i64 M,.bool true]) hg bk;have Y:=rN (g:=D) (cs:=#[.string E,.int .i64 I,.string J,.int .i64 M,.bool true]) hg bk;replace A:=kN (g:=D) (cs:=#[.string E,.int .i64 I,.string J,.int .i64 M,.bool true]) hb bk;have B:=zaa.mk hbox;replace HB:=bN bz hb;clear hb hbox hg))
  replace A:=zaa.mk (zao A.out)
  replace B:=zaa.mk (zao B.out)
  replace HB:=zaa.mk (zaH HB.out)
  refine za8 (n:=10) (S:=fun w'=>w'.cell? ⟨U,0,none⟩=some (.string Z)∧w'.cell? ⟨U,1,none⟩=some (.int .i64 aa)∧w'.cell? ⟨D,0,none⟩=some (.string E)∧w'.cell? ⟨D,1,none⟩=some (.int .i64 I)∧w'.cell? ⟨D,2,none⟩=some (.string J)∧w'.cell? ⟨D,3,none⟩=some (.int .i64 M)∧w'.cell? ⟨D,4,none⟩=some (.bool true)) (ds:=[]) #[false,false,false,false,false,false,false,false,false,false] (by kernel_rfl) rfl rfl ⟨(zab B.out 0).trans rfl,(zab B.out 1).trans rfl,(zab A.out 0).trans rfl,(zab A.out 1).trans rfl,(zab A.out 2).trans rfl,(zab A.out 3).trans rfl,(zab A.out 4).trans rfl⟩ (fun hHeld=>?_);refine za0 zav.tab1 zav.bits1 (fun O HW_=>?_)
  generalize bM.drew=cg at A B HB hHeld ⊢
  refine pz (i:=1) (N:=8) O ?_
  refine pz (i:=5) (N:=12) O ?_
  refine tz (i:=0) (N:=7) rfl O HW_ hHeld (by(rintro w' ⟨s0,s1,s2,s3,s4,s5,s6⟩;go_simp;with_reducible rfl)) ?_
  refine tz (i:=2) (N:=9) rfl O HW_ hHeld (by(rintro w' ⟨s0,s1,s2,s3,s4,s5,s6⟩;go_simp;with_reducible rfl)) ?_
  refine tz (i:=4) (N:=11) rfl O HW_ hHeld (by(rintro w' ⟨s0,s1,s2,s3,s4,s5,s6⟩;go_simp;with_reducible rfl)) ?_
  refine tz (i:=6) (N:=13) rfl O HW_ hHeld (by(rintro w' ⟨s0,s1,s2,s3,s4,s5,s6⟩;go_simp;with_reducible rfl)) ?_
  refine oz (i:=3) (N:=some 10) O fun K hK=>?_
  refine gG Tryz.func53 (zaV.calls k Z aa E I ab _ A3.out) ?_
  intro ci hb
  replace A:=kN (g:=D) (cs:=#[.string E,.int .i64 I,.string J,.int .i64 M,.bool true]) hb bk
  replace B:=kN (g:=U) hb bk
  replace HB:=bN bz hb
  clear hb
  refine hK.out _ _ ⟨bc B 0,bc B 1,bc A 0,bc A 1,bc A 2,bc A 3,bc A 4⟩ (fun hHeld=>?_)
  clear hK K
  refine zaL (a':=?_) ?_ ?_
  rotate_left
  ·show Act.put _ (some 10) _=_
   simp only[Act.put,List.setIfInBounds_toArray,List.set_cons_zero,List.set_cons_succ,zar,zau]
   rfl
  refine oz (i:=7) (N:=some 14) O fun K hK=>?_
  refine gG Tryz.func53 (zaV.calls k Z aa J M ad _ A4.out) ?_
  intro cj hb
  replace A:=kN (g:=D) (cs:=#[.string E,.int .i64 I,.string J,.int .i64 M,.bool true]) hb bk
  replace B:=kN (g:=U) hb bk
  replace HB:=bN bz hb
  clear hb
  refine hK.out _ _ ⟨bc B 0,bc B 1,bc A 0,bc A 1,bc A 2,bc A 3,bc A 4⟩ (fun hHeld=>?_)
  clear hK K
  refine zaL (a':=?_) ?_ ?_
  rotate_left
  ·show Act.put _ (some 14) _=_
   simp only[Act.put,List.setIfInBounds_toArray,List.set_cons_zero,List.set_cons_succ,zar,zau]
   rfl
  refine pz (i:=8) (N:=5) O ?_
  refine pz (i:=9) (N:=6) O ?_
  refine dz O ?_
  have bO:=X.out
  have bP:=Y.out
  obtain⟨a8,a9,ba,bb,bd,be,bf,bg,bh,bi⟩:=cz5 A
  try go_wp2
  go_ret
  exact⟨ez,bz⟩
 replace H:=hE H c5
 have ao:decide (0<ab)=true:=decide_eq_true c5
 clear c5
 by_cases c6:ad<0
 ·replace H:=hE H c6
  have ap:=decide_eq_true c6
  clear c6
  obtain rfl:=Option.some.inj H
  go_enter Tryz.func56,Tryz.ntmps56
  try go_wp2_with (first|((with_reducible refine zah (N:=2) rfl ?_);refine zag rfl (N:=2) rfl (cs:=#[.string E,.int .i64 I,.string J,.int .i64 M,.bool ac]) (t:=88) gz ?_;intro D hg w7 hbox hb;have ae:=gN bz hg;have af:=gN bz hg;have A:=zaa.mk hbox;replace HB:=bN bz hb;clear hb hbox hg)|((with_reducible refine zah (N:=3) rfl ?_);refine zag rfl (N:=3) rfl (cs:=#[.string Z,.int .i64 aa]) (t:=42) gz ?_;intro U hg w8 hbox hb;have ag:=gN bz hg;have ah:=gN bz hg;have X:=lN (g:=D) (cs:=#[.string E,.int .i64 I,.string J,.int .i64 M,.bool ac]) hg bk;have Y:=rN (g:=D) (cs:=#[.string E,.int .i64 I,.string J,.int .i64 M,.bool ac]) hg bk;replace A:=kN (g:=D) (cs:=#[.string E,.int .i64 I,.string J,.int .i64 M,.bool ac]) hb bk;have B:=zaa.mk hbox;replace HB:=bN bz hb;clear hb hbox hg))
  replace A:=zaa.mk (zao A.out)
  replace B:=zaa.mk (zao B.out)
  replace HB:=zaa.mk (zaH HB.out)
  refine za8 (n:=10) (S:=fun w'=>w'.cell? ⟨U,0,none⟩=some (.string Z)∧w'.cell? ⟨U,1,none⟩=some (.int .i64 aa)∧w'.cell? ⟨D,0,none⟩=some (.string E)∧w'.cell? ⟨D,1,none⟩=some (.int .i64 I)∧w'.cell? ⟨D,2,none⟩=some (.string J)∧w'.cell? ⟨D,3,none⟩=some (.int .i64 M)∧w'.cell? ⟨D,4,none⟩=some (.bool ac)) (ds:=[]) #[false,false,false,false,false,false,false,false,false,false] (by kernel_rfl) rfl rfl ⟨(zab B.out 0).trans rfl,(zab B.out 1).trans rfl,(zab A.out 0).trans rfl,(zab A.out 1).trans rfl,(zab A.out 2).trans rfl,(zab A.out 3).trans rfl,(zab A.out 4).trans rfl⟩ (fun hHeld=>?_);refine za0 zav.tab1 zav.bits1 (fun O HW_=>?_)
  generalize w8.drew=w9 at A B HB hHeld ⊢
  refine pz (i:=1) (N:=8) O ?_
  refine pz (i:=5) (N:=12) O ?_
  refine tz (i:=0) (N:=7) rfl O HW_ hHeld (by(rintro w' ⟨s0,s1,s2,s3,s4,s5,s6⟩;go_simp;with_reducible rfl)) ?_
  refine tz (i:=2) (N:=9) rfl O HW_ hHeld (by(rintro w' ⟨s0,s1,s2,s3,s4,s5,s6⟩;go_simp;with_reducible rfl)) ?_
  refine tz (i:=4) (N:=11) rfl O HW_ hHeld (by(rintro w' ⟨s0,s1,s2,s3,s4,s5,s6⟩;go_simp;with_reducible rfl)) ?_
  refine tz (i:=6) (N:=13) rfl O HW_ hHeld (by(rintro w' ⟨s0,s1,s2,s3,s4,s5,s6⟩;go_simp;with_reducible rfl)) ?_
  refine oz (i:=3) (N:=some 10) O fun K hK=>?_
  refine gG Tryz.func53 (zaV.calls k Z aa E I ab _ A3.out) ?_
  intro bW hb
  replace A:=kN (g:=D) (cs:=#[.string E,.int .i64 I,.string J,.int .i64 M,.bool ac]) hb bk
  replace B:=kN (g:=U) hb bk
  replace HB:=bN bz hb
  clear hb
  refine hK.out _ _ ⟨bc B 0,bc B 1,bc A 0,bc A 1,bc A 2,bc A 3,bc A 4⟩ (fun hHeld=>?_)
  clear hK K
  refine zaL (a':=?_) ?_ ?_
  rotate_left
  ·show Act.put _ (some 10) _=_
   simp only[Act.put,List.setIfInBounds_toArray,List.set_cons_zero,List.set_cons_succ,zar,zau]
   rfl
  refine oz (i:=7) (N:=some 14) O fun K hK=>?_
  refine gG Tryz.func53 (zaV.calls k Z aa J M ad _ A4.out) ?_
  intro bX hb
  replace A:=kN (g:=D) (cs:=#[.string E,.int .i64 I,.string J,.int .i64 M,.bool ac]) hb bk
  replace B:=kN (g:=U) hb bk
  replace HB:=bN bz hb
  clear hb
  refine hK.out _ _ ⟨bc B 0,bc B 1,bc A 0,bc A 1,bc A 2,bc A 3,bc A 4⟩ (fun hHeld=>?_)
  clear hK K
  refine zaL (a':=?_) ?_ ?_
  rotate_left
  ·show Act.put _ (some 14) _=_
   simp only[Act.put,List.setIfInBounds_toArray,List.set_cons_zero,List.set_cons_succ,zar,zau]
   rfl
  refine pz (i:=8) (N:=5) O ?_
  refine pz (i:=9) (N:=6) O ?_
  refine dz O ?_
  try go_wp2
  go_ret
  exact⟨ez,bz⟩
 replace H:=hN H c6
 have ap:=decide_eq_false c6
 clear c6
 by_cases ak:ac=true
 case neg=>
  replace ak:=Bool.eq_false_iff.mpr ak
  subst ak
  replace H:=hF H
  obtain rfl:=Option.some.inj H
  go_enter Tryz.func56,Tryz.ntmps56
  try go_wp2_with (first|((with_reducible refine zah (N:=2) rfl ?_);refine zag rfl (N:=2) rfl (cs:=#[.string E,.int .i64 I,.string J,.int .i64 M,.bool false]) (t:=88) gz ?_;intro D hg b6 hbox hb;have ae:=gN bz hg;have af:=gN bz hg;have A:=zaa.mk hbox;replace HB:=bN bz hb;clear hb hbox hg)|((with_reducible refine zah (N:=3) rfl ?_);refine zag rfl (N:=3) rfl (cs:=#[.string Z,.int .i64 aa]) (t:=42) gz ?_;intro U hg bG hbox hb;have ag:=gN bz hg;have ah:=gN bz hg;have X:=lN (g:=D) (cs:=#[.string E,.int .i64 I,.string J,.int .i64 M,.bool false]) hg bk;have Y:=rN (g:=D) (cs:=#[.string E,.int .i64 I,.string J,.int .i64 M,.bool false]) hg bk;replace A:=kN (g:=D) (cs:=#[.string E,.int .i64 I,.string J,.int .i64 M,.bool false]) hb bk;have B:=zaa.mk hbox;replace HB:=bN bz hb;clear hb hbox hg))
  replace A:=zaa.mk (zao A.out)
  replace B:=zaa.mk (zao B.out)
  replace HB:=zaa.mk (zaH HB.out)
  refine za8 (n:=10) (S:=fun w'=>w'.cell? ⟨U,0,none⟩=some (.string Z)∧w'.cell? ⟨U,1,none⟩=some (.int .i64 aa)∧w'.cell? ⟨D,0,none⟩=some (.string E)∧w'.cell? ⟨D,1,none⟩=some (.int .i64 I)∧w'.cell? ⟨D,2,none⟩=some (.string J)∧w'.cell? ⟨D,3,none⟩=some (.int .i64 M)∧w'.cell? ⟨D,4,none⟩=some (.bool false)) (ds:=[]) #[false,false,false,false,false,false,false,false,false,false] (by kernel_rfl) rfl rfl ⟨(zab B.out 0).trans rfl,(zab B.out 1).trans rfl,(zab A.out 0).trans rfl,(zab A.out 1).trans rfl,(zab A.out 2).trans rfl,(zab A.out 3).trans rfl,(zab A.out 4).trans rfl⟩ (fun hHeld=>?_);refine za0 zav.tab1 zav.bits1 (fun O HW_=>?_)
  generalize bG.drew=b7 at A B HB hHeld ⊢
  refine pz (i:=1) (N:=8) O ?_
  refine pz (i:=5) (N:=12) O ?_
  refine tz (i:=0) (N:=7) rfl O HW_ hHeld (by(rintro w' ⟨s0,s1,s2,s3,s4,s5,s6⟩;go_simp;with_reducible rfl)) ?_
  refine tz (i:=2) (N:=9) rfl O HW_ hHeld (by(rintro w' ⟨s0,s1,s2,s3,s4,s5,s6⟩;go_simp;with_reducible rfl)) ?_
  refine tz (i:=4) (N:=11) rfl O HW_ hHeld (by(rintro w' ⟨s0,s1,s2,s3,s4,s5,s6⟩;go_simp;with_reducible rfl)) ?_
  refine tz (i:=6) (N:=13) rfl O HW_ hHeld (by(rintro w' ⟨s0,s1,s2,s3,s4,s5,s6⟩;go_simp;with_reducible rfl)) ?_
  refine oz (i:=3) (N:=some 10) O fun K hK=>?_
  refine gG Tryz.func53 (zaV.calls k Z aa E I ab _ A3.out) ?_
  intro b8 hb
  replace A:=kN (g:=D) (cs:=#[.string E,.int .i64 I,.string J,.int .i64 M,.bool false]) hb bk
  replace B:=kN (g:=U) hb bk
  replace HB:=bN bz hb
  clear hb
  refine hK.out _ _ ⟨bc B 0,bc B 1,bc A 0,bc A 1,bc A 2,bc A 3,bc A 4⟩ (fun hHeld=>?_)
  clear hK K
  refine zaL (a':=?_) ?_ ?_
  rotate_left
  ·show Act.put _ (some 10) _=_
   simp only[Act.put,List.setIfInBounds_toArray,List.set_cons_zero,List.set_cons_succ,zar,zau]
   rfl
  refine oz (i:=7) (N:=some 14) O fun K hK=>?_
  refine gG Tryz.func53 (zaV.calls k Z aa J M ad _ A4.out) ?_
  intro ca hb
  replace A:=kN (g:=D) (cs:=#[.string E,.int .i64 I,.string J,.int .i64 M,.bool false]) hb bk
  replace B:=kN (g:=U) hb bk
  replace HB:=bN bz hb
  clear hb
  refine hK.out _ _ ⟨bc B 0,bc B 1,bc A 0,bc A 1,bc A 2,bc A 3,bc A 4⟩ (fun hHeld=>?_)
  clear hK K
  refine zaL (a':=?_) ?_ ?_
  rotate_left
  ·show Act.put _ (some 14) _=_
   simp only[Act.put,List.setIfInBounds_toArray,List.set_cons_zero,List.set_cons_succ,zar,zau]
   rfl
  refine pz (i:=8) (N:=5) O ?_
  refine pz (i:=9) (N:=6) O ?_
  refine dz O ?_
  have bH:=X.out
  have bI:=Y.out
  obtain⟨aN,aO,aP,aQ,aR,aS,aT,aU,aV,aW⟩:=cz5 A
  try go_wp2
  go_ret
  exact⟨ez,bz⟩
 subst ak
 replace H:=hT H
 by_cases ai:ab≥0
 ·replace H:=hE H ai
  have am:decide (0≤ab)=true:=decide_eq_true ai
  clear ai
  obtain rfl:=Option.some.inj H
  go_enter Tryz.func56,Tryz.ntmps56
  try go_wp2_with (first|((with_reducible refine zah (N:=2) rfl ?_);refine zag rfl (N:=2) rfl (cs:=#[.string E,.int .i64 I,.string J,.int .i64 M,.bool true]) (t:=88) gz ?_;intro D hg bY hbox hb;have ae:=gN bz hg;have af:=gN bz hg;have A:=zaa.mk hbox;replace HB:=bN bz hb;clear hb hbox hg)|((with_reducible refine zah (N:=3) rfl ?_);refine zag rfl (N:=3) rfl (cs:=#[.string Z,.int .i64 aa]) (t:=42) gz ?_;intro U hg bw hbox hb;have ag:=gN bz hg;have ah:=gN bz hg;have X:=lN (g:=D) (cs:=#[.string E,.int .i64 I,.string J,.int .i64 M,.bool true]) hg bk;have Y:=rN (g:=D) (cs:=#[.string E,.int .i64 I,.string J,.int .i64 M,.bool true]) hg bk;replace A:=kN (g:=D) (cs:=#[.string E,.int .i64 I,.string J,.int .i64 M,.bool true]) hb bk;have B:=zaa.mk hbox;replace HB:=bN bz hb;clear hb hbox hg))
  replace A:=zaa.mk (zao A.out)
  replace B:=zaa.mk (zao B.out)
  replace HB:=zaa.mk (zaH HB.out)
  refine za8 (n:=10) (S:=fun w'=>w'.cell? ⟨U,0,none⟩=some (.string Z)∧w'.cell? ⟨U,1,none⟩=some (.int .i64 aa)∧w'.cell? ⟨D,0,none⟩=some (.string E)∧w'.cell? ⟨D,1,none⟩=some (.int .i64 I)∧w'.cell? ⟨D,2,none⟩=some (.string J)∧w'.cell? ⟨D,3,none⟩=some (.int .i64 M)∧w'.cell? ⟨D,4,none⟩=some (.bool true)) (ds:=[]) #[false,false,false,false,false,false,false,false,false,false] (by kernel_rfl) rfl rfl ⟨(zab B.out 0).trans rfl,(zab B.out 1).trans rfl,(zab A.out 0).trans rfl,(zab A.out 1).trans rfl,(zab A.out 2).trans rfl,(zab A.out 3).trans rfl,(zab A.out 4).trans rfl⟩ (fun hHeld=>?_);refine za0 zav.tab1 zav.bits1 (fun O HW_=>?_)
  generalize bw.drew=bZ at A B HB hHeld ⊢
  refine pz (i:=1) (N:=8) O ?_
  refine pz (i:=5) (N:=12) O ?_
  refine tz (i:=0) (N:=7) rfl O HW_ hHeld (by(rintro w' ⟨s0,s1,s2,s3,s4,s5,s6⟩;go_simp;with_reducible rfl)) ?_
  refine tz (i:=2) (N:=9) rfl O HW_ hHeld (by(rintro w' ⟨s0,s1,s2,s3,s4,s5,s6⟩;go_simp;with_reducible rfl)) ?_
  refine tz (i:=4) (N:=11) rfl O HW_ hHeld (by(rintro w' ⟨s0,s1,s2,s3,s4,s5,s6⟩;go_simp;with_reducible rfl)) ?_
  refine tz (i:=6) (N:=13) rfl O HW_ hHeld (by(rintro w' ⟨s0,s1,s2,s3,s4,s5,s6⟩;go_simp;with_reducible rfl)) ?_
  refine oz (i:=3) (N:=some 10) O fun K hK=>?_
  refine gG Tryz.func53 (zaV.calls k Z aa E I ab _ A3.out) ?_
  intro b0 hb
  replace A:=kN (g:=D) (cs:=#[.string E,.int .i64 I,.string J,.int .i64 M,.bool true]) hb bk
  replace B:=kN (g:=U) hb bk
  replace HB:=bN bz hb
  clear hb
  refine hK.out _ _ ⟨bc B 0,bc B 1,bc A 0,bc A 1,bc A 2,bc A 3,bc A 4⟩ (fun hHeld=>?_)
  clear hK K
  refine zaL (a':=?_) ?_ ?_
  rotate_left
  ·show Act.put _ (some 10) _=_
   simp only[Act.put,List.setIfInBounds_toArray,List.set_cons_zero,List.set_cons_succ,zar,zau]
   rfl
  refine oz (i:=7) (N:=some 14) O fun K hK=>?_
  refine gG Tryz.func53 (zaV.calls k Z aa J M ad _ A4.out) ?_
  intro b1 hb
  replace A:=kN (g:=D) (cs:=#[.string E,.int .i64 I,.string J,.int .i64 M,.bool true]) hb bk
  replace B:=kN (g:=U) hb bk
  replace HB:=bN bz hb
  clear hb
  refine hK.out _ _ ⟨bc B 0,bc B 1,bc A 0,bc A 1,bc A 2,bc A 3,bc A 4⟩ (fun hHeld=>?_)
  clear hK K
  refine zaL (a':=?_) ?_ ?_
  rotate_left
  ·show Act.put _ (some 14) _=_
   simp only[Act.put,List.setIfInBounds_toArray,List.set_cons_zero,List.set_cons_succ,zar,zau]
   rfl
  refine pz (i:=8) (N:=5) O ?_
  refine pz (i:=9) (N:=6) O ?_
  refine dz O ?_
  have bA:=X.out
  have bB:=Y.out
  obtain⟨ar,au,av,aw,ax,ay,az,aA,aB,aC⟩:=cz5 A
  try go_wp2
  go_ret
  exact⟨ez,bz⟩
 replace H:=hN H ai
 have am:decide (0≤ab)=false:=decide_eq_false ai
 clear ai
 obtain rfl:=Option.some.inj H
 go_enter Tryz.func56,Tryz.ntmps56
 try go_wp2_with (first|((with_reducible refine zah (N:=2) rfl ?_);refine zag rfl (N:=2) rfl (cs:=#[.string E,.int .i64 I,.string J,.int .i64 M,.bool true]) (t:=88) gz ?_;intro D hg b2 hbox hb;have ae:=gN bz hg;have af:=gN bz hg;have A:=zaa.mk hbox;replace HB:=bN bz hb;clear hb hbox hg)|((with_reducible refine zah (N:=3) rfl ?_);refine zag rfl (N:=3) rfl (cs:=#[.string Z,.int .i64 aa]) (t:=42) gz ?_;intro U hg bC hbox hb;have ag:=gN bz hg;have ah:=gN bz hg;have X:=lN (g:=D) (cs:=#[.string E,.int .i64 I,.string J,.int .i64 M,.bool true]) hg bk;have Y:=rN (g:=D) (cs:=#[.string E,.int .i64 I,.string J,.int .i64 M,.bool true]) hg bk;replace A:=kN (g:=D) (cs:=#[.string E,.int .i64 I,.string J,.int .i64 M,.bool true]) hb bk;have B:=zaa.mk hbox;replace HB:=bN bz hb;clear hb hbox hg))
 replace A:=zaa.mk (zao A.out)
 replace B:=zaa.mk (zao B.out)
 replace HB:=zaa.mk (zaH HB.out)
 refine za8 (n:=10) (S:=fun w'=>w'.cell? ⟨U,0,none⟩=some (.string Z)∧w'.cell? ⟨U,1,none⟩=some (.int .i64 aa)∧w'.cell? ⟨D,0,none⟩=some (.string E)∧w'.cell? ⟨D,1,none⟩=some (.int .i64 I)∧w'.cell? ⟨D,2,none⟩=some (.string J)∧w'.cell? ⟨D,3,none⟩=some (.int .i64 M)∧w'.cell? ⟨D,4,none⟩=some (.bool true)) (ds:=[]) #[false,false,false,false,false,false,false,false,false,false] (by kernel_rfl) rfl rfl ⟨(zab B.out 0).trans rfl,(zab B.out 1).trans rfl,(zab A.out 0).trans rfl,(zab A.out 1).trans rfl,(zab A.out 2).trans rfl,(zab A.out 3).trans rfl,(zab A.out 4).trans rfl⟩ (fun hHeld=>?_);refine za0 zav.tab1 zav.bits1 (fun O HW_=>?_)
 generalize bC.drew=b3 at A B HB hHeld ⊢
 refine pz (i:=1) (N:=8) O ?_
 refine pz (i:=5) (N:=12) O ?_
 refine tz (i:=0) (N:=7) rfl O HW_ hHeld (by(rintro w' ⟨s0,s1,s2,s3,s4,s5,s6⟩;go_simp;with_reducible rfl)) ?_
 refine tz (i:=2) (N:=9) rfl O HW_ hHeld (by(rintro w' ⟨s0,s1,s2,s3,s4,s5,s6⟩;go_simp;with_reducible rfl)) ?_
 refine tz (i:=4) (N:=11) rfl O HW_ hHeld (by(rintro w' ⟨s0,s1,s2,s3,s4,s5,s6⟩;go_simp;with_reducible rfl)) ?_
 refine tz (i:=6) (N:=13) rfl O HW_ hHeld (by(rintro w' ⟨s0,s1,s2,s3,s4,s5,s6⟩;go_simp;with_reducible rfl)) ?_
 refine oz (i:=3) (N:=some 10) O fun K hK=>?_
 refine gG Tryz.func53 (zaV.calls k Z aa E I ab _ A3.out) ?_
 intro b4 hb
 replace A:=kN (g:=D) (cs:=#[.string E,.int .i64 I,.string J,.int .i64 M,.bool true]) hb bk
 replace B:=kN (g:=U) hb bk
 replace HB:=bN bz hb
 clear hb
 refine hK.out _ _ ⟨bc B 0,bc B 1,bc A 0,bc A 1,bc A 2,bc A 3,bc A 4⟩ (fun hHeld=>?_)
 clear hK K
 refine zaL (a':=?_) ?_ ?_
 rotate_left
 ·show Act.put _ (some 10) _=_
  simp only[Act.put,List.setIfInBounds_toArray,List.set_cons_zero,List.set_cons_succ,zar,zau]
  rfl
 refine oz (i:=7) (N:=some 14) O fun K hK=>?_
 refine gG Tryz.func53 (zaV.calls k Z aa J M ad _ A4.out) ?_
 intro b5 hb
 replace A:=kN (g:=D) (cs:=#[.string E,.int .i64 I,.string J,.int .i64 M,.bool true]) hb bk
 replace B:=kN (g:=U) hb bk
 replace HB:=bN bz hb
 clear hb
 refine hK.out _ _ ⟨bc B 0,bc B 1,bc A 0,bc A 1,bc A 2,bc A 3,bc A 4⟩ (fun hHeld=>?_)
 clear hK K
 refine zaL (a':=?_) ?_ ?_
 rotate_left
 ·show Act.put _ (some 14) _=_
  simp only[Act.put,List.setIfInBounds_toArray,List.set_cons_zero,List.set_cons_succ,zar,zau]
  rfl
 refine pz (i:=8) (N:=5) O ?_
 refine pz (i:=9) (N:=6) O ?_
 refine dz O ?_
 have bD:=X.out
 have bE:=Y.out
 obtain⟨aD,aE,aF,aG,aH,aI,aJ,aK,aL,aM⟩:=cz5 A
 try go_wp2
 go_ret
 exact⟨ez,bz⟩
def zaM.l0:Nat→Int→ByteArray→Int→ByteArray→Int→Bool→ByteArray→Int→ByteArray→Int→Option (ByteArray×Int×Bool)
 |0,_,_,_,_,_,_,_,_,_,_=>none
 |k+1,U,A,B,D,E,I,J,K,M,O=>if U<2 then(if U=0 then((zav.f k A B D E I J K).bind fun X=>(if X=true then(some (J,K,true)) else(zaM.l0 k (wrap64 (U+1)) A B D E I J K M O))) else(if U=1 then((zav.f k A B D E I M O).bind fun Y=>(if Y=true then(some (M,O,true)) else(zaM.l0 k (wrap64 (U+1)) A B D E I J K M O))) else(none))) else(some ((⟨#[]⟩:ByteArray),0,false))
def zaM.f(k:Nat)(D:ByteArray)(E:Int)(a1:Int)(J:ByteArray)(K:Int)(M:ByteArray)(O:Int)(U:Bool):Option (ByteArray×Int×Bool):=if a1≥(D.size:Int) then(some (D,E,true)) else((za6.f k D E a1).bind fun A=>((zav.f k J K M O U A.1 A.2.1).bind fun X=>(if X=true then(some (A.1,A.2.1,true)) else(if 0≤a1 then(if a1≤(D.size:Int) then((zaB.f k (D.extract 0 (a1:Int).toNat) E).bind fun B=>((zan.f k B.1 B.2.1 (⟨#[49]⟩:ByteArray) (wrap64 ((wrap64 (E-a1))+1))).bind fun I=>(zaM.l0 k 0 J K M O U B.1 B.2.1 I.1 I.2.1))) else(none)) else(none)))))
def zaM.T7:Bool×List (List Nat×List Nat):=(true,[([],[]),([0],[0]),([],[]),([1,2],[1,2]),([],[]),([4],[4]),([3,5],[3,5]),([6],[6]),([7],[7]),([8],[8]),([8],[8]),([],[]),([11,9,7,0,1,2,3,4,5,6,7,8,9,11],[9,11]),([10,12,0,1,2,3,4,5,6,7,8,9,10,11,12],[10])])
def zaM.B7:List Nat:=[0,1,0,7,0,16,63,127,255,511,511,0,3071,8191]
theorem zaM.tab7:rtab .any (opsOf Tryz.f57 7)=zaM.T7:=by kernel_rfl
theorem zaM.bits7:waitsOk zaM.T7.2 zaM.B7=true:=by kernel_rfl
theorem zaM.calls(k:Nat)(J:ByteArray)(A:Int)(a1:Int)(aH:ByteArray)(aI:Int)(aJ:ByteArray)(aK:Int)(aL:Bool)(r1:ByteArray)(r2:Int)(r3:Bool)(w:World)(h:zaM.f k J A a1 aH aI aJ aK aL=some (r1,r2,r3)):
  Calls Tryz.prog 57 #[.agg #[.string J,.int .i64 A],.int .i64 a1,.func (.func 56) #[.agg #[.string aH,.int .i64 aI,.string aJ,.int .i64 aK,.bool aL]] #[]] w fun e w'=>e= .returned (.tuple #[.agg #[.string r1,.int .i64 r2],.bool r3])∧Below w.heap.size w w':=by
 have he:=Tryz.underlying42
 have fb:=Tryz.underlying119
 have HB:=zaa.mk (Below.refl w.heap.size w)
 have H:(if a1≥(J.size:Int) then(some (J,A,true)) else((za6.f k J A a1).bind fun be=>((zav.f k aH aI aJ aK aL be.1 be.2.1).bind fun bG=>(if bG=true then(some (be.1,be.2.1,true)) else(if 0≤a1 then(if a1≤(J.size:Int) then((zaB.f k (J.extract 0 (a1:Int).toNat) A).bind fun bf=>((zan.f k bf.1 bf.2.1 (⟨#[49]⟩:ByteArray) (wrap64 ((wrap64 (A-a1))+1))).bind fun bQ=>(zaM.l0 k 0 aH aI aJ aK aL bf.1 bf.2.1 bQ.1 bQ.2.1))) else(none)) else(none))))))=some (r1,r2,r3):=h
 clear h
 go_enter Tryz.func57,Tryz.ntmps57
 go_upto_if 21 with(first|((with_reducible refine zah (N:=3) rfl ?_);refine zag rfl (N:=3) rfl (cs:=#[.string J,.int .i64 A]) (t:=42) gz ?_;intro D hg w4 hbox hb;have fc:=gN bz hg;have O:=zaa.mk hbox;replace HB:=bN bz hb;clear hb hbox hg)|((with_reducible refine zah (N:=6) rfl ?_);refine zag rfl (N:=6) rfl (cs:=#[.string (⟨#[]⟩:ByteArray),.int .i64 0]) (t:=42) gz ?_;intro E hg w5 hbox hb;have fe:=gN bz hg;have ai:=lN (g:=D) (cs:=#[.string J,.int .i64 A]) hg bk;have aj:=rN (g:=D) (cs:=#[.string J,.int .i64 A]) hg bk;replace O:=kN (g:=D) (cs:=#[.string J,.int .i64 A]) hb bk;have U:=zaa.mk hbox;replace HB:=bN bz hb;clear hb hbox hg;have hf:=ai.out;have hh:=aj.out;obtain⟨ct,cu,cv,cw⟩:=cz2 O))
 (try simp only[Act.put,List.setIfInBounds_toArray,List.set_cons_zero,List.set_cons_succ])
 by_cases c8:a1≥(J.size:Int)
 ·replace H:=hE H c8
  have bH:decide ((J.size:Int)≤a1)=true:=decide_eq_true c8
  clear c8
  try rw[bH]
  obtain⟨rfl,rfl,rfl⟩:=o3 H
  have hj:=ai.out
  have hl:=aj.out
  obtain⟨dj,dk,dl,dm⟩:=cz2 O
  obtain⟨dn,dp,dq,dt⟩:=cz2 U
  go_wp2
  refine bodyPost_ret (zaK rfl _ _ E 42 #[.string J,.int .i64 A] (0,0) _ rfl bk Tryz.underlying42 rfl (by kernel_rfl)) rfl ?_
  exact⟨ez,bz⟩
 replace H:=hN H c8
 have bH:decide ((J.size:Int)≤a1)=false:=decide_eq_false c8
 clear c8
 try rw[bH]
 replace H:=bs H
 obtain⟨⟨Z,aa,du⟩,fg,H⟩:=H
 dsimp only at H
 replace H:=bs H
 obtain⟨bG,fh,H⟩:=H
 have fi:=ai.out
 have fj:=aj.out
 obtain⟨bR,bS,bU,bV⟩:=cz2 O
 go_upto_if 31 with(first|((with_reducible refine zad (f:=32) rfl ?_);refine gB Tryz.func32 (za6.calls k J A a1 Z aa du _ fg.out) ?_;intro ho hb;replace O:=kN (g:=D) (cs:=#[.string J,.int .i64 A]) hb bk;replace U:=kN (g:=E) (cs:=#[.string (⟨#[]⟩:ByteArray),.int .i64 0]) hb bk;replace HB:=bN bz hb;clear hb)|((with_reducible refine zah (N:=8) rfl ?_);refine zag rfl (N:=8) rfl (cs:=#[.string (⟨#[]⟩:ByteArray),.int .i64 0]) (t:=42) gz ?_;intro M hg hp hbox hb;have fk:=gN bz hg;have aE:=lN (g:=D) (cs:=#[.string J,.int .i64 A]) hg bk;have aF:=rN (g:=D) (cs:=#[.string J,.int .i64 A]) hg bk;have aw:=lN (g:=E) (cs:=#[.string (⟨#[]⟩:ByteArray),.int .i64 0]) hg bk;have ax:=rN (g:=E) (cs:=#[.string (⟨#[]⟩:ByteArray),.int .i64 0]) hg bk;replace O:=kN (g:=D) (cs:=#[.string J,.int .i64 A]) hb bk;replace U:=kN (g:=E) (cs:=#[.string (⟨#[]⟩:ByteArray),.int .i64 0]) hb bk;have ac:=zaa.mk hbox;replace HB:=bN bz hb;clear hb hbox hg;have fl:=aF.out;have fm:=aE.out;have fo:=ax.out;have fp:=aw.out;obtain⟨bW,bX,bY,bZ⟩:=cz2 ac)|(go_at_call 56;(with_reducible refine(zav.calls k aH aI aJ aK aL Z aa bG _ fh.out).mono ?_);rintro e hq ⟨rfl,hb⟩;replace O:=kN (g:=D) (cs:=#[.string J,.int .i64 A]) hb bk;replace U:=kN (g:=E) (cs:=#[.string (⟨#[]⟩:ByteArray),.int .i64 0]) hb bk;replace ac:=kN (g:=M) (cs:=#[.string Z,.int .i64 aa]) hb bk;replace HB:=bN bz hb;clear hb))
 (try simp only[Act.put,List.setIfInBounds_toArray,List.set_cons_zero,List.set_cons_succ])
 by_cases b0:bG=true
 ·subst b0
  replace H:=hT H
  obtain⟨rfl,rfl,rfl⟩:=o3 H
  have fq:=aF.out
  have fs:=aE.out
  have ft:=ax.out
  have fu:=aw.out
  obtain⟨dv,dx,dy,dA⟩:=cz2 ac
  have fv:=aj.out
  have fw:=ai.out
  obtain⟨dB,dC,dD,dE⟩:=cz2 U
  go_wp2
  refine bodyPost_ret (zaK rfl _ _ E 42 #[.string Z,.int .i64 aa] (0,0) _ rfl bk Tryz.underlying42 rfl (by kernel_rfl)) rfl ?_
  exact⟨ez,bz⟩
 replace b0:=Bool.eq_false_iff.mpr b0
 subst b0
 replace H:=hF H
 by_cases cx:0≤a1
 case neg=>
  replace H:=hN H cx
  exact absurd H (by simp)
 obtain⟨cR,cS,H⟩:=hE3 H cx
 clear cx
 obtain⟨cT,cV,H⟩:=hG3 H
 replace H:=bs H
 obtain⟨⟨ag,ah,bi⟩,dF,H⟩:=H
 dsimp only at H
 replace H:=bs H
 obtain⟨⟨au,av,dG⟩,fx,H⟩:=H
 dsimp only at H
 have H':=zaa.mk H
 clear H
 have fy:=ai.out
 have fz:=aj.out
 have fA:=aE.out
 have fC:=aF.out
 obtain⟨b1,b2,b3,b4⟩:=cz2 O
 try go_wp2_with (first|((with_reducible refine zah (N:=10) rfl ?_);refine zag rfl (N:=10) rfl (cs:=#[.string (⟨#[]⟩:ByteArray),.int .i64 0]) (t:=42) gz ?_;intro I hg bI hbox hb;have fD:=gN bz hg;have bj:=lN (g:=D) (cs:=#[.string J,.int .i64 A]) hg bk;have bl:=rN (g:=D) (cs:=#[.string J,.int .i64 A]) hg bk;have ay:=lN (g:=E) (cs:=#[.string (⟨#[]⟩:ByteArray),.int .i64 0]) hg bk;have az:=rN (g:=E) (cs:=#[.string (⟨#[]⟩:ByteArray),.int .i64 0]) hg bk;have bm:=lN (g:=M) (cs:=#[.string Z,.int .i64 aa]) hg bk;have bn:=rN (g:=M) (cs:=#[.string Z,.int .i64 aa]) hg bk;replace O:=kN (g:=D) (cs:=#[.string J,.int .i64 A]) hb bk;replace U:=kN (g:=E) (cs:=#[.string (⟨#[]⟩:ByteArray),.int .i64 0]) hb bk;replace ac:=kN (g:=M) (cs:=#[.string Z,.int .i64 aa]) hb bk;have af:=zaa.mk hbox;replace HB:=bN bz hb;clear hb hbox hg;have fF:=bl.out;have fG:=bj.out;have fH:=az.out;have fI:=ay.out;have fJ:=bn.out;have fK:=bm.out;obtain⟨b5,b6,b7,b8⟩:=cz2 af))
 have bJ:zaa (((bI.setCell ⟨I,0,none⟩ (.string (⟨#[49]⟩:ByteArray))).setCell ⟨I,1,none⟩ (.int .i64 (wrap64 ((wrap64 (A-a1))+1)))).heap[D]? =some (.cells #[.string J,.int .i64 A] 42 (0,0))):=⟨bk⟩
 have bK:zaa (((bI.setCell ⟨I,0,none⟩ (.string (⟨#[49]⟩:ByteArray))).setCell ⟨I,1,none⟩ (.int .i64 (wrap64 ((wrap64 (A-a1))+1)))).heap[E]? =some (.cells #[.string (⟨#[]⟩:ByteArray),.int .i64 0] 42 (0,0))):=⟨bk⟩
 have bL:zaa (((bI.setCell ⟨I,0,none⟩ (.string (⟨#[49]⟩:ByteArray))).setCell ⟨I,1,none⟩ (.int .i64 (wrap64 ((wrap64 (A-a1))+1)))).heap[M]? =some (.cells #[.string Z,.int .i64 aa] 42 (0,0))):=⟨bk⟩
 have bM:zaa (((bI.setCell ⟨I,0,none⟩ (.string (⟨#[49]⟩:ByteArray))).setCell ⟨I,1,none⟩ (.int .i64 (wrap64 ((wrap64 (A-a1))+1)))).heap[I]? =some (.cells #[.string (⟨#[49]⟩:ByteArray),.int .i64 (wrap64 ((wrap64 (A-a1))+1))] 42 (0,0))):=⟨bk⟩
 have bO:zaa (Below w.heap.size w ((bI.setCell ⟨I,0,none⟩ (.string (⟨#[49]⟩:ByteArray))).setCell ⟨I,1,none⟩ (.int .i64 (wrap64 ((wrap64 (A-a1))+1))))):=⟨bz⟩
 (try clear O)
 (try clear U)
 (try clear ac)
 (try clear af)
 (try clear HB)
 generalize ((bI.setCell ⟨I,0,none⟩ (.string (⟨#[49]⟩:ByteArray))).setCell ⟨I,1,none⟩ (.int .i64 (wrap64 ((wrap64 (A-a1))+1))))=fL at bJ bK bL bM bO ⊢
 have O:=bJ
 have U:=bK
 have ac:=bL
 have af:=bM
 have HB:=bO
 clear bJ bK bL bM bO
 replace O:=zaa.mk (zao O.out)
 replace U:=zaa.mk (zao U.out)
 replace ac:=zaa.mk (zao ac.out)
 replace af:=zaa.mk (zao af.out)
 replace HB:=zaa.mk (zaH HB.out)
 refine za8 (n:=14) (S:=fun w'=>w'.cell? ⟨D,0,none⟩=some (.string J)∧w'.cell? ⟨D,1,none⟩=some (.int .i64 A)) (ds:=[]) #[false,false,false,false,false,false,false,false,false,false,false,false,false,false] (by kernel_rfl) rfl rfl ⟨(zab O.out 0).trans rfl,(zab O.out 1).trans rfl⟩ (fun hHeld=>?_);refine za0 zaM.tab7 zaM.bits7 (fun aA HW_=>?_)
 generalize fL.drew=hs at O U ac af HB hHeld ⊢
 refine pz (i:=0) (N:=40) aA ?_
 refine pz (i:=2) (N:=42) aA ?_
 refine pz (i:=4) (N:=44) aA ?_
 refine tz (i:=1) (N:=41) rfl aA HW_ hHeld (by(rintro w' ⟨s0,s1⟩;go_simp;with_reducible rfl)) ?_
 refine pz (i:=3) (N:=43) aA ?_
 refine tz (i:=5) (N:=45) rfl aA HW_ hHeld (by(rintro w' ⟨s0,s1⟩;go_simp;with_reducible rfl)) ?_
 refine pz (i:=6) (N:=46) aA ?_
 refine zju (σ:=Nat) 2 #[true,true,true,true,true,true,true,true,true,true,true,true,false,false] (fun s_=>[(47,.tuple #[.agg #[.string ag,.int .i64 ah],.int .i64 bi]),(11,.pointer (some ⟨s_,0,none⟩)),(39,.tuple #[.agg #[.string ag,.int .i64 ah],.int .i64 bi]),(48,.agg #[.string ag,.int .i64 ah]),(49,.int .i64 bi)]) (fun s_ w'=>(w'.cell? ⟨D,0,none⟩=some (.string J)∧w'.cell? ⟨D,1,none⟩=some (.int .i64 A))∧(w'.heap[D]? =some (.cells #[.string J,.int .i64 A] 42 (0,0)))∧(w'.heap[E]? =some (.cells #[.string (⟨#[]⟩:ByteArray),.int .i64 0] 42 (0,0)))∧(w'.heap[M]? =some (.cells #[.string Z,.int .i64 aa] 42 (0,0)))∧(w'.heap[I]? =some (.cells #[.string (⟨#[49]⟩:ByteArray),.int .i64 (wrap64 ((wrap64 (A-a1))+1))] 42 (0,0)))∧(w'.heap[s_]? =some (.cells #[.string (⟨#[]⟩:ByteArray),.int .i64 0] 42 (0,0)))∧(w.heap.size≤s_)∧(w.heap.size≤s_)∧(D≠s_)∧(s_≠D)∧(E≠s_)∧(s_≠E)∧(M≠s_)∧(s_≠M)∧(I≠s_)∧(s_≠I)∧(Below w.heap.size w w')) ?_ ?_
 rotate_left
 ·intro hCont
  refine two_ (i:=7) (j:=11) (Ni:=some 47) (Nj:=some 11) #[true,true,true,true,true,true,true,true,false,false,false,false,false,false] #[true,true,true,true,true,true,true,false,false,false,false,true,false,false] rfl rfl rfl rfl (zi4 aA.out (by kernel_rfl)) (by decide) (by decide) (fun K hK=>?_) (fun K hK=>?_)
  ·skip
   refine gG Tryz.func50 (zaB.calls k (J.extract 0 (a1:Int).toNat) A ag ah bi _ dF.out) ?_
   intro fN hb
   replace O:=kN (g:=D) (cs:=#[.string J,.int .i64 A]) hb bk
   replace U:=kN (g:=E) (cs:=#[.string (⟨#[]⟩:ByteArray),.int .i64 0]) hb bk
   replace ac:=kN (g:=M) (cs:=#[.string Z,.int .i64 aa]) hb bk
   replace af:=kN (g:=I) (cs:=#[.string (⟨#[49]⟩:ByteArray),.int .i64 (wrap64 ((wrap64 (A-a1))+1))]) hb bk
   replace HB:=bN bz hb
   clear hb
   refine hK.out _ _ (d2 O) (fun hHeld=>?_)
   clear hK K
   refine zaL (a':=?_) ?_ ?_
   rotate_left
   ·show Act.put _ (some 47) _=_
    simp only[Act.put,List.setIfInBounds_toArray,List.set_cons_zero,List.set_cons_succ,zar,zau]
    rfl
   refine pz (i:=8) (N:=39) aA ?_
   refine pz (i:=9) (N:=48) aA ?_
   refine pz (i:=10) (N:=49) aA ?_
   refine oz (i:=11) (N:=some 11) aA fun K hK=>?_
   refine ze9 ?hg (N:=11) ?hd (cs:=#[.string (⟨#[]⟩:ByteArray),.int .i64 0]) (t:=42) ?hr ?_;(case hd=>rfl);(case hg=>rfl);(case hr=>first|(go_simp;done)|(go_simp;rfl))
   intro B hg fO hbox hb
   have ak:=zaa.mk (hbox)
   have bg:=zaa.mk ((by rw[hg];exact(zaG bz):w.heap.size≤B))
   have bh:=zaa.mk ((by rw[hg];exact(zaG bz):w.heap.size≤B))
   have ab:=zaa.mk ((by rw[hg];exact Nat.ne_of_lt (zaW (g:=D) (o:=.cells #[.string J,.int .i64 A] 42 (0,0)) bk):D≠B))
   have al:=zaa.mk ((by rw[hg];exact Nat.ne_of_gt (zaW (g:=D) (o:=.cells #[.string J,.int .i64 A] 42 (0,0)) bk):B≠D))
   have ad:=zaa.mk ((by rw[hg];exact Nat.ne_of_lt (zaW (g:=E) (o:=.cells #[.string (⟨#[]⟩:ByteArray),.int .i64 0] 42 (0,0)) bk):E≠B))
   have ae:=zaa.mk ((by rw[hg];exact Nat.ne_of_gt (zaW (g:=E) (o:=.cells #[.string (⟨#[]⟩:ByteArray),.int .i64 0] 42 (0,0)) bk):B≠E))
   have am:=zaa.mk ((by rw[hg];exact Nat.ne_of_lt (zaW (g:=M) (o:=.cells #[.string Z,.int .i64 aa] 42 (0,0)) bk):M≠B))
   have an:=zaa.mk ((by rw[hg];exact Nat.ne_of_gt (zaW (g:=M) (o:=.cells #[.string Z,.int .i64 aa] 42 (0,0)) bk):B≠M))
   have ao:=zaa.mk ((by rw[hg];exact Nat.ne_of_lt (zaW (g:=I) (o:=.cells #[.string (⟨#[49]⟩:ByteArray),.int .i64 (wrap64 ((wrap64 (A-a1))+1))] 42 (0,0)) bk):I≠B))
   have ap:=zaa.mk ((by rw[hg];exact Nat.ne_of_gt (zaW (g:=I) (o:=.cells #[.string (⟨#[49]⟩:ByteArray),.int .i64 (wrap64 ((wrap64 (A-a1))+1))] 42 (0,0)) bk):B≠I))
   replace O:=kN (g:=D) (cs:=#[.string J,.int .i64 A]) hb bk
   replace U:=kN (g:=E) (cs:=#[.string (⟨#[]⟩:ByteArray),.int .i64 0]) hb bk
   replace ac:=kN (g:=M) (cs:=#[.string Z,.int .i64 aa]) hb bk
   replace af:=kN (g:=I) (cs:=#[.string (⟨#[49]⟩:ByteArray),.int .i64 (wrap64 ((wrap64 (A-a1))+1))]) hb bk
   replace HB:=bN bz hb
   clear hb hbox hg
   refine hK.out _ _ (d2 O) (fun hHeld=>?_)
   clear hK K
   refine zaL (a':=?_) ?_ ?_
   rotate_left
   ·show Act.put _ (some 11) _=_
    simp only[Act.put,List.setIfInBounds_toArray,List.set_cons_zero,List.set_cons_succ,zar,zau]
    rfl
   exact zaL (by simp only[putAll,Act.put,List.setIfInBounds_toArray,List.set_cons_zero,List.set_cons_succ]) (hCont (B) _ ⟨hHeld,bk,bk,bk,bk,bk,bg.out,bh.out,ab.out,al.out,ad.out,ae.out,am.out,an.out,ao.out,ap.out,bz⟩)
  skip
  refine ze9 ?hg (N:=11) ?hd (cs:=#[.string (⟨#[]⟩:ByteArray),.int .i64 0]) (t:=42) ?hr ?_;(case hd=>rfl);(case hg=>rfl);(case hr=>first|(go_simp;done)|(go_simp;rfl))
  intro B hg fN hbox hb
  have ak:=zaa.mk (hbox)
  have bg:=zaa.mk ((by rw[hg];exact(zaG bz):w.heap.size≤B))
  have bh:=zaa.mk ((by rw[hg];exact(zaG bz):w.heap.size≤B))
  have ab:=zaa.mk ((by rw[hg];exact Nat.ne_of_lt (zaW (g:=D) (o:=.cells #[.string J,.int .i64 A] 42 (0,0)) bk):D≠B))
  have al:=zaa.mk ((by rw[hg];exact Nat.ne_of_gt (zaW (g:=D) (o:=.cells #[.string J,.int .i64 A] 42 (0,0)) bk):B≠D))
  have ad:=zaa.mk ((by rw[hg];exact Nat.ne_of_lt (zaW (g:=E) (o:=.cells #[.string (⟨#[]⟩:ByteArray),.int .i64 0] 42 (0,0)) bk):E≠B))
  have ae:=zaa.mk ((by rw[hg];exact Nat.ne_of_gt (zaW (g:=E) (o:=.cells #[.string (⟨#[]⟩:ByteArray),.int .i64 0] 42 (0,0)) bk):B≠E))
  have am:=zaa.mk ((by rw[hg];exact Nat.ne_of_lt (zaW (g:=M) (o:=.cells #[.string Z,.int .i64 aa] 42 (0,0)) bk):M≠B))
  have an:=zaa.mk ((by rw[hg];exact Nat.ne_of_gt (zaW (g:=M) (o:=.cells #[.string Z,.int .i64 aa] 42 (0,0)) bk):B≠M))
  have ao:=zaa.mk ((by rw[hg];exact Nat.ne_of_lt (zaW (g:=I) (o:=.cells #[.string (⟨#[49]⟩:ByteArray),.int .i64 (wrap64 ((wrap64 (A-a1))+1))] 42 (0,0)) bk):I≠B))
  have ap:=zaa.mk ((by rw[hg];exact Nat.ne_of_gt (zaW (g:=I) (o:=.cells #[.string (⟨#[49]⟩:ByteArray),.int .i64 (wrap64 ((wrap64 (A-a1))+1))] 42 (0,0)) bk):B≠I))
  replace O:=kN (g:=D) (cs:=#[.string J,.int .i64 A]) hb bk
  replace U:=kN (g:=E) (cs:=#[.string (⟨#[]⟩:ByteArray),.int .i64 0]) hb bk
  replace ac:=kN (g:=M) (cs:=#[.string Z,.int .i64 aa]) hb bk
  replace af:=kN (g:=I) (cs:=#[.string (⟨#[49]⟩:ByteArray),.int .i64 (wrap64 ((wrap64 (A-a1))+1))]) hb bk
  replace HB:=bN bz hb
  clear hb hbox hg
  refine hK.out _ _ (d2 O) (fun hHeld=>?_)
  clear hK K
  refine zaL (a':=?_) ?_ ?_
  rotate_left
  ·show Act.put _ (some 11) _=_
   simp only[Act.put,List.setIfInBounds_toArray,List.set_cons_zero,List.set_cons_succ,zar,zau]
   rfl
  refine oz (i:=7) (N:=some 47) aA fun K hK=>?_
  refine gG Tryz.func50 (zaB.calls k (J.extract 0 (a1:Int).toNat) A ag ah bi _ dF.out) ?_
  intro fO hb
  replace O:=kN (g:=D) (cs:=#[.string J,.int .i64 A]) hb bk
  replace U:=kN (g:=E) (cs:=#[.string (⟨#[]⟩:ByteArray),.int .i64 0]) hb bk
  replace ac:=kN (g:=M) (cs:=#[.string Z,.int .i64 aa]) hb bk
  replace af:=kN (g:=I) (cs:=#[.string (⟨#[49]⟩:ByteArray),.int .i64 (wrap64 ((wrap64 (A-a1))+1))]) hb bk
  replace ak:=kN (g:=B) (cs:=#[.string (⟨#[]⟩:ByteArray),.int .i64 0]) hb bk
  replace HB:=bN bz hb
  clear hb
  refine hK.out _ _ (d2 O) (fun hHeld=>?_)
  clear hK K
  refine zaL (a':=?_) ?_ ?_
  rotate_left
  ·show Act.put _ (some 47) _=_
   simp only[Act.put,List.setIfInBounds_toArray,List.set_cons_zero,List.set_cons_succ,zar,zau]
   rfl
  refine pz (i:=8) (N:=39) aA ?_
  refine pz (i:=9) (N:=48) aA ?_
  refine pz (i:=10) (N:=49) aA ?_
  exact zaL (by simp only[putAll,Act.put,List.setIfInBounds_toArray,List.set_cons_zero,List.set_cons_succ]) (hCont (B) _ ⟨hHeld,bk,bk,bk,bk,bk,bg.out,bh.out,ab.out,al.out,ad.out,ae.out,am.out,an.out,ao.out,ap.out,bz⟩)
 rintro B bd ⟨hS_,dH,dI,dJ,dK,dL,dM,dN,dO,dP,dQ,cC,cD,cF,cG,cH,cI⟩
 have bJ:zaa (bd.heap[D]? =some (.cells #[.string J,.int .i64 A] 42 (0,0))):=⟨dH⟩
 have bK:zaa (bd.heap[E]? =some (.cells #[.string (⟨#[]⟩:ByteArray),.int .i64 0] 42 (0,0))):=⟨dI⟩
 have bL:zaa (bd.heap[M]? =some (.cells #[.string Z,.int .i64 aa] 42 (0,0))):=⟨dJ⟩
 have bM:zaa (bd.heap[I]? =some (.cells #[.string (⟨#[49]⟩:ByteArray),.int .i64 (wrap64 ((wrap64 (A-a1))+1))] 42 (0,0))):=⟨dK⟩
 have bO:zaa (bd.heap[B]? =some (.cells #[.string (⟨#[]⟩:ByteArray),.int .i64 0] 42 (0,0))):=⟨dL⟩
 have dR:zaa (w.heap.size≤B):=⟨dM⟩
 have dS:zaa (w.heap.size≤B):=⟨dN⟩
 have dT:zaa (D≠B):=⟨dO⟩
 have dU:zaa (B≠D):=⟨dP⟩
 have dV:zaa (E≠B):=⟨dQ⟩
 have cJ:zaa (B≠E):=⟨cC⟩
 have cK:zaa (M≠B):=⟨cD⟩
 have cL:zaa (B≠M):=⟨cF⟩
 have cM:zaa (I≠B):=⟨cG⟩
 have cN:zaa (B≠I):=⟨cH⟩
 have cO:zaa (Below w.heap.size w bd):=⟨cI⟩
 clear O
 clear U
 clear ac
 clear af
 clear HB
 clear dH dI dJ dK dL dM dN dO dP dQ cC cD cF cG cH cI
 have O:=bJ
 have U:=bK
 have ac:=bL
 have af:=bM
 have ak:=bO
 have bg:=dR
 have bh:=dS
 have ab:=dT
 have al:=dU
 have ad:=dV
 have ae:=cJ
 have am:=cK
 have an:=cL
 have ao:=cM
 have ap:=cN
 have HB:=cO
 clear bJ bK bL bM bO dR dS dT dU dV cJ cK cL cM cN cO
 have hHeld:bd.cell? ⟨D,0,none⟩=some (.string J)∧bd.cell? ⟨D,1,none⟩=some (.int .i64 A):=hS_
 refine zaL (a':=?_) ?_ ?_
 rotate_left
 ·simp only[putAll,Act.put,List.setIfInBounds_toArray,List.set_cons_zero,List.set_cons_succ]
  rfl
 refine oz (i:=12) (N:=none) aA fun K hK=>?_
 have hm:bd.cell? ⟨B,0,none⟩=some (.string (⟨#[]⟩:ByteArray)):=(zab ak.out 0).trans rfl
 have fP:=zaC ak.out 0
 have dW:=ab.out
 have dY:=ad.out
 have dZ:=am.out
 have d0:=ao.out
 have d5:=al.out
 have d6:=ae.out
 have d9:=an.out
 have ea:=ap.out
 have hn:bd.cell? ⟨B,1,none⟩=some (.int .i64 0):=(zab ak.out 1).trans rfl
 have fQ:=zaC ak.out 1
 have eb:=ab.out
 have ec:=ad.out
 have ed:=am.out
 have ee:=ao.out
 have ef:=al.out
 have eg:=ae.out
 have eh:=an.out
 have ei:=ap.out
 refine zd6 (w1:=?_) (by rfl) rfl ?_ ?_
 rotate_left
 ·go_simp
  rfl
 refine hK.out _ _ ⟨((cell_far (p:=⟨B,_,none⟩) ab.out _).trans (((cell_far (p:=⟨B,_,none⟩) ab.out _).trans (hHeld.1)))),((cell_far (p:=⟨B,_,none⟩) ab.out _).trans (((cell_far (p:=⟨B,_,none⟩) ab.out _).trans (hHeld.2))))⟩ (fun hHeld=>?_)
 clear hK K
 refine pz (i:=13) (N:=12) aA ?_
 refine dz aA ?_
 have fR:=al.out
 have fS:=ab.out
 have fT:=ae.out
 have fU:=ad.out
 have fV:=an.out
 have fX:=am.out
 have fY:=ap.out
 have fZ:=ao.out
 obtain⟨ca,cb,cc,cd⟩:=cz2 ak
 obtain⟨ce,cf,cg,ci⟩:=cz2 af
 try go_wp2_with (first|((with_reducible refine zad (f:=83) rfl ?_);refine gB Tryz.func83 (zan.calls k ag ah (⟨#[49]⟩:ByteArray) (wrap64 ((wrap64 (A-a1))+1)) au av dG _ fx.out) ?_;intro ht hb;replace O:=kN (g:=D) (cs:=#[.string J,.int .i64 A]) hb bk;replace U:=kN (g:=E) (cs:=#[.string (⟨#[]⟩:ByteArray),.int .i64 0]) hb bk;replace ac:=kN (g:=M) (cs:=#[.string Z,.int .i64 aa]) hb bk;replace af:=kN (g:=I) (cs:=#[.string (⟨#[49]⟩:ByteArray),.int .i64 (wrap64 ((wrap64 (A-a1))+1))]) hb bk;replace ak:=kN (g:=B) (cs:=#[.string ag,.int .i64 ah]) hb bk;replace HB:=bN bz hb;clear hb)|((with_reducible refine zah (N:=13) rfl ?_);refine zag rfl (N:=13) rfl (cs:=#[.string (⟨#[]⟩:ByteArray),.int .i64 0]) (t:=42) gz ?_;intro aB hg hu hbox hb;have f0:=gN bz hg;have bo:=lN (g:=D) (cs:=#[.string J,.int .i64 A]) hg bk;have bp:=rN (g:=D) (cs:=#[.string J,.int .i64 A]) hg bk;have aC:=lN (g:=E) (cs:=#[.string (⟨#[]⟩:ByteArray),.int .i64 0]) hg bk;have aD:=rN (g:=E) (cs:=#[.string (⟨#[]⟩:ByteArray),.int .i64 0]) hg bk;have bq:=lN (g:=M) (cs:=#[.string Z,.int .i64 aa]) hg bk;have br:=rN (g:=M) (cs:=#[.string Z,.int .i64 aa]) hg bk;have bu:=lN (g:=I) (cs:=#[.string (⟨#[49]⟩:ByteArray),.int .i64 (wrap64 ((wrap64 (A-a1))+1))]) hg bk;have bv:=rN (g:=I) (cs:=#[.string (⟨#[49]⟩:ByteArray),.int .i64 (wrap64 ((wrap64 (A-a1))+1))]) hg bk;have bw:=lN (g:=B) (cs:=#[.string ag,.int .i64 ah]) hg bk;have bA:=rN (g:=B) (cs:=#[.string ag,.int .i64 ah]) hg bk;replace O:=kN (g:=D) (cs:=#[.string J,.int .i64 A]) hb bk;replace U:=kN (g:=E) (cs:=#[.string (⟨#[]⟩:ByteArray),.int .i64 0]) hb bk;replace ac:=kN (g:=M) (cs:=#[.string Z,.int .i64 aa]) hb bk;replace af:=kN (g:=I) (cs:=#[.string (⟨#[49]⟩:ByteArray),.int .i64 (wrap64 ((wrap64 (A-a1))+1))]) hb bk;replace ak:=kN (g:=B) (cs:=#[.string ag,.int .i64 ah]) hb bk;have aG:=zaa.mk hbox;replace HB:=bN bz hb;clear hb hbox hg;have f2:=bp.out;have f3:=bo.out;have f4:=aD.out;have f5:=aC.out;have f6:=br.out;have f7:=bq.out;have f8:=bv.out;have f9:=bu.out;have ga:=bA.out;have gb:=bw.out;obtain⟨cj,ck,cm,cn⟩:=cz2 aG;obtain⟨co,cp,cq,cr⟩:=cz2 ak))
 go_loopg [59] k (fun kq ge w'=> ∃(ar:Int) (X:ByteArray) (Y:Int),ge= .int .i64 ar∧zaa (zaM.l0 kq ar aH aI aJ aK aL ag ah au av=some (r1,r2,r3))∧zaa (kq≤k)∧zaa (w'.heap[D]? =some (.cells #[.string J,.int .i64 A] 42 (0,0)))∧zaa (w'.heap[E]? =some (.cells #[.string X,.int .i64 Y] 42 (0,0)))∧zaa (w'.heap[M]? =some (.cells #[.string Z,.int .i64 aa] 42 (0,0)))∧zaa (w'.heap[I]? =some (.cells #[.string (⟨#[49]⟩:ByteArray),.int .i64 (wrap64 ((wrap64 (A-a1))+1))] 42 (0,0)))∧zaa (w'.heap[B]? =some (.cells #[.string ag,.int .i64 ah] 42 (0,0)))∧zaa (w'.heap[aB]? =some (.cells #[.string au,.int .i64 av] 42 (0,0)))∧zaa (Below w.heap.size w w'))
 case atStart=>exact⟨(0),((⟨#[]⟩:ByteArray)),(0),rz,H',⟨Nat.le_refl _⟩,⟨bk⟩,⟨bk⟩,⟨bk⟩,⟨bk⟩,⟨bk⟩,⟨bk⟩,⟨bz⟩⟩
 case round=>
  clear H'
  try clear c8
  try clear bH
  try clear b0
  try clear cx
  try clear cR
  try clear cS
  try clear cT
  try clear cV
  try clear bR bS bU bV
  try clear bW bX bY bZ
  try clear b1 b2 b3 b4
  try clear b5 b6 b7 b8
  try clear ca cb cc cd
  try clear ce cf cg ci
  try clear cj ck cm cn
  try clear co cp cq cr
  try clear ct cu cv cw
  obtain⟨ar,X,Y,rfl,HA,cy,O,U,ac,af,ak,aG,HB⟩:=hrel
  cases gk with
  |zero=>exact absurd HA.out (by simp[zaM.l0])
  |succ k1=>
   have H:=HA.out
   clear HA
   simp only[zaM.l0] at H
   by_cases bP:ar<2
   case neg=>
    replace H:=hN H bP
    have bB:=decide_eq_false bP
    clear bP
    try rw[bB]
    obtain⟨rfl,rfl,rfl⟩:=o3 H
    have e1:=aj.out
    have e2:=ai.out
    have e3:=aw.out
    have e4:=ax.out
    have e5:=ay.out
    have e6:=az.out
    have e7:=ad.out
    have e8:=ae.out
    have e9:=aC.out
    have fa:=aD.out
    obtain⟨de,df,dh,di⟩:=cz2 U
    go_wp2
    refine bodyPost_ret (zaK rfl _ _ E 42 #[.string (⟨#[]⟩:ByteArray),.int .i64 0] (0,0) _ rfl bk Tryz.underlying42 rfl (by kernel_rfl)) rfl ?_
    exact⟨ez,bz⟩
   replace H:=hE H bP
   have bB:=decide_eq_true bP
   clear bP
   try rw[bB]
   by_cases bC:ar=0
   ·replace H:=hE H bC
    have cW:(ar==0)=true:=beq_iff_eq.mpr bC
    have hix_: ∀W:World,(Instr.index 119 (.agg #[.string ag,.int .i64 ah,.string au,.int .i64 av]) (.int .i64 ar)).run Tryz.prog W= .ok (.agg #[.string ag,.int .i64 ah]) W:=by intro W;rw[bC];kernel_rfl
    have cX:(ar !=0)=false:=bne_eq_false_iff_eq.mpr bC
    clear bC
    replace H:=bs H
    obtain⟨cP,gf,H⟩:=H
    go_upto_if 64 with(first|((with_reducible refine zah (N:=16) rfl ?_);refine zag rfl (N:=16) rfl (cs:=#[.string (⟨#[]⟩:ByteArray),.int .i64 0]) (t:=42) gz ?_;intro cY hg hv hbox hb;have gg:=gN bz hg;have aM:=lN (g:=D) (cs:=#[.string J,.int .i64 A]) hg bk;have aN:=rN (g:=D) (cs:=#[.string J,.int .i64 A]) hg bk;have aO:=lN (g:=E) (cs:=#[.string X,.int .i64 Y]) hg bk;have aP:=rN (g:=E) (cs:=#[.string X,.int .i64 Y]) hg bk;have aQ:=lN (g:=M) (cs:=#[.string Z,.int .i64 aa]) hg bk;have aR:=rN (g:=M) (cs:=#[.string Z,.int .i64 aa]) hg bk;have aS:=lN (g:=I) (cs:=#[.string (⟨#[49]⟩:ByteArray),.int .i64 (wrap64 ((wrap64 (A-a1))+1))]) hg bk;have aT:=rN (g:=I) (cs:=#[.string (⟨#[49]⟩:ByteArray),.int .i64 (wrap64 ((wrap64 (A-a1))+1))]) hg bk;have aU:=lN (g:=B) (cs:=#[.string ag,.int .i64 ah]) hg bk;have aV:=rN (g:=B) (cs:=#[.string ag,.int .i64 ah]) hg bk;have aW:=lN (g:=aB) (cs:=#[.string au,.int .i64 av]) hg bk;have aX:=rN (g:=aB) (cs:=#[.string au,.int .i64 av]) hg bk;replace O:=kN (g:=D) (cs:=#[.string J,.int .i64 A]) hb bk;replace U:=kN (g:=E) (cs:=#[.string X,.int .i64 Y]) hb bk;replace ac:=kN (g:=M) (cs:=#[.string Z,.int .i64 aa]) hb bk;replace af:=kN (g:=I) (cs:=#[.string (⟨#[49]⟩:ByteArray),.int .i64 (wrap64 ((wrap64 (A-a1))+1))]) hb bk;replace ak:=kN (g:=B) (cs:=#[.string ag,.int .i64 ah]) hb bk;replace aG:=kN (g:=aB) (cs:=#[.string au,.int .i64 av]) hb bk;have bD:=zaa.mk hbox;replace HB:=bN bz hb;clear hb hbox hg;have gh:=aN.out;have gi:=aM.out;have gj:=aP.out;have gl:=aO.out;have gm:=aR.out;have gn:=aQ.out;have gp:=aT.out;have gq:=aS.out;have gr:=aV.out;have gs:=aU.out;have gt:=aX.out;have gu:=aW.out;obtain⟨ej,ek,em,en⟩:=cz2 bD)|(go_at_call 56;(with_reducible refine(zav.calls k1 aH aI aJ aK aL ag ah cP _ gf.out).mono ?_);rintro e hw ⟨rfl,hb⟩;replace O:=kN (g:=D) (cs:=#[.string J,.int .i64 A]) hb bk;replace U:=kN (g:=E) (cs:=#[.string X,.int .i64 Y]) hb bk;replace ac:=kN (g:=M) (cs:=#[.string Z,.int .i64 aa]) hb bk;replace af:=kN (g:=I) (cs:=#[.string (⟨#[49]⟩:ByteArray),.int .i64 (wrap64 ((wrap64 (A-a1))+1))]) hb bk;replace ak:=kN (g:=B) (cs:=#[.string ag,.int .i64 ah]) hb bk;replace aG:=kN (g:=aB) (cs:=#[.string au,.int .i64 av]) hb bk;replace bD:=kN (g:=cY) (cs:=#[.string ag,.int .i64 ah]) hb bk;replace HB:=bN bz hb;(try clear hb);(try clear gv);(try clear hk);(try clear hi)))
    (try simp only[Act.put,List.setIfInBounds_toArray,List.set_cons_zero,List.set_cons_succ])
    by_cases cz:cP=true
    case neg=>
     replace cz:=Bool.eq_false_iff.mpr cz
     subst cz
     replace H:=hF H
     have H':=zaa.mk H
     clear H
     go_wp2
     go_roundg k1
     case measure=>have:=cy.out;omega
     case rel=>exact⟨(wrap64 (ar+1)),(X),(Y),rz,H',⟨by have:=cy.out;omega⟩,⟨bk⟩,⟨bk⟩,⟨bk⟩,⟨bk⟩,⟨bk⟩,⟨bk⟩,⟨bz⟩⟩
    subst cz
    replace H:=hT H
    obtain⟨rfl,rfl,rfl⟩:=o3 H
    have gw:=aN.out
    have gx:=aM.out
    have gy:=aP.out
    have gA:=aO.out
    have gC:=aR.out
    have gD:=aQ.out
    have gE:=aT.out
    have gF:=aS.out
    have gH:=aV.out
    have gI:=aU.out
    have gJ:=aX.out
    have gK:=aW.out
    obtain⟨eo,ep,eq,er⟩:=cz2 bD
    have gL:=aj.out
    have gM:=ai.out
    have gO:=aw.out
    have gP:=ax.out
    have gQ:=ay.out
    have gR:=az.out
    have gS:=ad.out
    have gT:=ae.out
    have gU:=aC.out
    have gV:=aD.out
    obtain⟨et,eu,ev,ew⟩:=cz2 U
    go_wp2
    refine bodyPost_ret (zaK rfl _ _ E 42 #[.string ag,.int .i64 ah] (0,0) _ rfl bk Tryz.underlying42 rfl (by kernel_rfl)) rfl ?_
    exact⟨ez,bz⟩
   replace H:=hN H bC
   obtain⟨cW,cX⟩:=eF bC
   obtain⟨cA,H⟩:=hG H
   have gW:(ar==1)=true:=beq_iff_eq.mpr cA
   have hix_: ∀W:World,(Instr.index 119 (.agg #[.string ag,.int .i64 ah,.string au,.int .i64 av]) (.int .i64 ar)).run Tryz.prog W= .ok (.agg #[.string au,.int .i64 av]) W:=by intro W;rw[cA];kernel_rfl
   have gX:(ar !=1)=false:=bne_eq_false_iff_eq.mpr cA
   clear cA
   replace H:=bs H
   obtain⟨cQ,gY,H⟩:=H
   go_upto_if 64 with(first|((with_reducible refine zah (N:=16) rfl ?_);refine zag rfl (N:=16) rfl (cs:=#[.string (⟨#[]⟩:ByteArray),.int .i64 0]) (t:=42) gz ?_;intro cZ hg hx hbox hb;have gZ:=gN bz hg;have aY:=lN (g:=D) (cs:=#[.string J,.int .i64 A]) hg bk;have aZ:=rN (g:=D) (cs:=#[.string J,.int .i64 A]) hg bk;have a2:=lN (g:=E) (cs:=#[.string X,.int .i64 Y]) hg bk;have a3:=rN (g:=E) (cs:=#[.string X,.int .i64 Y]) hg bk;have a4:=lN (g:=M) (cs:=#[.string Z,.int .i64 aa]) hg bk;have a5:=rN (g:=M) (cs:=#[.string Z,.int .i64 aa]) hg bk;have a6:=lN (g:=I) (cs:=#[.string (⟨#[49]⟩:ByteArray),.int .i64 (wrap64 ((wrap64 (A-a1))+1))]) hg bk;have a7:=rN (g:=I) (cs:=#[.string (⟨#[49]⟩:ByteArray),.int .i64 (wrap64 ((wrap64 (A-a1))+1))]) hg bk;have a8:=lN (g:=B) (cs:=#[.string ag,.int .i64 ah]) hg bk;have a9:=rN (g:=B) (cs:=#[.string ag,.int .i64 ah]) hg bk;have ba:=lN (g:=aB) (cs:=#[.string au,.int .i64 av]) hg bk;have bb:=rN (g:=aB) (cs:=#[.string au,.int .i64 av]) hg bk;replace O:=kN (g:=D) (cs:=#[.string J,.int .i64 A]) hb bk;replace U:=kN (g:=E) (cs:=#[.string X,.int .i64 Y]) hb bk;replace ac:=kN (g:=M) (cs:=#[.string Z,.int .i64 aa]) hb bk;replace af:=kN (g:=I) (cs:=#[.string (⟨#[49]⟩:ByteArray),.int .i64 (wrap64 ((wrap64 (A-a1))+1))]) hb bk;replace ak:=kN (g:=B) (cs:=#[.string ag,.int .i64 ah]) hb bk;replace aG:=kN (g:=aB) (cs:=#[.string au,.int .i64 av]) hb bk;have bE:=zaa.mk hbox;replace HB:=bN bz hb;clear hb hbox hg;have g0:=aZ.out;have g1:=aY.out;have g2:=a3.out;have g3:=a2.out;have g4:=a5.out;have g5:=a4.out;have g6:=a7.out;have g7:=a6.out;have g8:=a9.out;have g9:=a8.out;have ha:=bb.out;have hc:=ba.out;obtain⟨ey,eA,eB,eC⟩:=cz2 bE)|(go_at_call 56;(with_reducible refine(zav.calls k1 aH aI aJ aK aL au av cQ _ gY.out).mono ?_);rintro e hy ⟨rfl,hb⟩;replace O:=kN (g:=D) (cs:=#[.string J,.int .i64 A]) hb bk;replace U:=kN (g:=E) (cs:=#[.string X,.int .i64 Y]) hb bk;replace ac:=kN (g:=M) (cs:=#[.string Z,.int .i64 aa]) hb bk;replace af:=kN (g:=I) (cs:=#[.string (⟨#[49]⟩:ByteArray),.int .i64 (wrap64 ((wrap64 (A-a1))+1))]) hb bk;replace ak:=kN (g:=B) (cs:=#[.string ag,.int .i64 ah]) hb bk;replace aG:=kN (g:=aB) (cs:=#[.string au,.int .i64 av]) hb bk;replace bE:=kN (g:=cZ) (cs:=#[.string au,.int .i64 av]) hb bk;replace HB:=bN bz hb;(try clear hb);(try clear gv);(try clear hk);(try clear hi)))
   (try simp only[Act.put,List.setIfInBounds_toArray,List.set_cons_zero,List.set_cons_succ])
   by_cases cB:cQ=true
   case neg=>
    replace cB:=Bool.eq_false_iff.mpr cB
    subst cB
    replace H:=hF H
    have H':=zaa.mk H
    clear H
    go_wp2
    go_roundg k1
    case measure=>have:=cy.out;omega
    case rel=>exact⟨(wrap64 (ar+1)),(X),(Y),rz,H',⟨by have:=cy.out;omega⟩,⟨bk⟩,⟨bk⟩,⟨bk⟩,⟨bk⟩,⟨bk⟩,⟨bk⟩,⟨bz⟩⟩
   subst cB
   replace H:=hT H
   obtain⟨rfl,rfl,rfl⟩:=o3 H
   have eD:=aZ.out
   have eE:=aY.out
   have eG:=a3.out
   have eH:=a2.out
   have eI:=a5.out
   have eJ:=a4.out
   have eK:=a7.out
   have eL:=a6.out
   have eM:=a9.out
   have eN:=a8.out
   have eO:=bb.out
   have eP:=ba.out
   obtain⟨c5,c6,c7,c9⟩:=cz2 bE
   have eQ:=aj.out
   have eR:=ai.out
   have eS:=aw.out
   have eU:=ax.out
   have eV:=ay.out
   have eW:=az.out
   have eX:=ad.out
   have eY:=ae.out
   have eZ:=aC.out
   have e0:=aD.out
   obtain⟨da,db,dc,dd⟩:=cz2 U
   go_wp2
   refine bodyPost_ret (zaK rfl _ _ E 42 #[.string au,.int .i64 av] (0,0) _ rfl bk Tryz.underlying42 rfl (by kernel_rfl)) rfl ?_
   exact⟨ez,bz⟩
mutual
def zac.j0:Nat→ByteArray→Int→Int→Int→Int→Int→Int→Int→Bool→Int→Option (ByteArray)
 |0,_,_,_,_,_,_,_,_,_,_=>none
 |k+1,x3,x4,x5,B,D,E,I,A,J,K=>if A<0 then((zaR.f x4).bind fun M=>((za4.f M (⟨#[48]⟩:ByteArray)).bind fun O=>(zac.j4 k x3 x5 O B D E I A J K))) else(if A≥16 then((zaR.f x4).bind fun U=>((zaQ.f U A).bind fun X=>(zac.j4 k x3 x5 X B D E I A J K))) else(if 0≤(IntKind.u64.wrap (64-(IntKind.u64.wrap (wrap64 (64-(wrap64 (4*A))))))) then(if(IntKind.u64.wrap (wrap64 (64-(wrap64 (4*A)))))=64 then(zac.j1 k x3 x4 x5 (⟨#[]⟩:ByteArray) (IntKind.u64.wrap (wrap64 (64-(wrap64 (4*A))))) x4 B D E I A J K) else(zac.j1 k x3 x4 x5 (⟨#[]⟩:ByteArray) (IntKind.u64.wrap (wrap64 (64-(wrap64 (4*A))))) (shl .u64 x4 (IntKind.u64.wrap (64-(IntKind.u64.wrap (wrap64 (64-(wrap64 (4*A)))))))) B D E I A J K)) else(none)))
def zac.j4:Nat→ByteArray→Int→ByteArray→Int→Int→Int→Int→Int→Bool→Int→Option (ByteArray)
 |0,_,_,_,_,_,_,_,_,_,_=>none
 |k+1,x3,x5,x7,B,D,E,I,J,K,A=>(zay.f B D E I J K A x3 x7).bind fun O=>((za7.f (⟨#[112]⟩:ByteArray) x5 2).bind fun U=>((zas.f (([(⟨#[48,120]⟩:ByteArray),O,U]:List ByteArray))).bind fun M=>(if A=88 then((zbf.f M).bind fun X=>(some X)) else(some M))))
def zac.j1:Nat→ByteArray→Int→Int→ByteArray→Int→Int→Int→Int→Int→Int→Int→Bool→Int→Option (ByteArray)
 |0,_,_,_,_,_,_,_,_,_,_,_,_,_=>none
 |k+1,x3,x4,x5,x7,x8,x9,B,D,E,I,A,J,K=>if 0≤x8 then(if(Int.tmod (shr .u64 x4 x8) 2)=1 then(zac.j2 k x3 x5 x7 x8 x9 (shr .u64 x4 x8) true B D E I A J K) else(if A=0 then(zac.j2 k x3 x5 x7 x8 x9 (shr .u64 x4 x8) (x3.toList==([49]:List UInt8)) B D E I A J K) else(zac.j2 k x3 x5 x7 x8 x9 (shr .u64 x4 x8) false B D E I A J K))) else(none)
def zac.j2:Nat→ByteArray→Int→ByteArray→Int→Int→Int→Bool→Int→Int→Int→Int→Int→Bool→Int→Option (ByteArray)
 |0,_,_,_,_,_,_,_,_,_,_,_,_,_,_=>none
 |k+1,x3,x5,x7,x8,x9,M,O,A,B,D,E,I,J,K=>if x9>9223372036854775808 then(zac.j3 k x3 x5 x7 x8 M true A B D E I J K) else(if x9=9223372036854775808 then(zac.j3 k x3 x5 x7 x8 M O A B D E I J K) else(zac.j3 k x3 x5 x7 x8 M false A B D E I J K))
def zac.j3:Nat→ByteArray→Int→ByteArray→Int→Int→Bool→Int→Int→Int→Int→Int→Bool→Int→Option (ByteArray)
 |0,_,_,_,_,_,_,_,_,_,_,_,_,_=>none
 |k+1,x3,x5,x7,x8,X,Y,B,D,E,I,A,J,K=>if Y=true then(if 0≤(IntKind.u64.wrap (64-x8)) then(if(shr .u64 (IntKind.u64.wrap (X+1)) (IntKind.u64.wrap (64-x8)))>0 then(if A>0 then(if 0≤x8 then((zaR.f (shl .u64 0 x8)).bind fun M=>(if 0≤A then(if A≤(M.size:Int) then(zac.j4 k x3 (wrap64 (x5+1)) (M.extract 0 (A:Int).toNat) B D E I A J K) else(none)) else(none))) else(none)) else(zac.j4 k x3 (wrap64 (x5+1)) x7 B D E I A J K)) else(if A>0 then(if 0≤x8 then((zaR.f (shl .u64 (IntKind.u64.wrap (X+1)) x8)).bind fun O=>(if 0≤A then(if A≤(O.size:Int) then(zac.j4 k x3 x5 (O.extract 0 (A:Int).toNat) B D E I A J K) else(none)) else(none))) else(none)) else(zac.j4 k x3 x5 x7 B D E I A J K))) else(none)) else(if A>0 then(if 0≤x8 then((zaR.f (shl .u64 X x8)).bind fun U=>(if 0≤A then(if A≤(U.size:Int) then(zac.j4 k x3 x5 (U.extract 0 (A:Int).toNat) B D E I A J K) else(none)) else(none))) else(none)) else(zac.j4 k x3 x5 x7 B D E I A J K))
end
def zac.f(k:Nat)(E:Int)(I:Int)(A:Int)(B:Int)(J:Int)(K:Bool)(M:Int):Option (ByteArray):=if A>0 then((bits_Len64.f A).bind fun D=>(if 0≤(wrap64 (64-D)) then(zac.j0 k (⟨#[49]⟩:ByteArray) (IntKind.u64.wrap ((shl .u64 A (wrap64 (64-D)))*2)) (wrap64 ((wrap64 (B+D))-1)) E I A B J K M) else(none))) else(zac.j0 k (⟨#[48]⟩:ByteArray) 0 0 E I A B J K M)
def zac.T23:Bool×List (List Nat×List Nat):=(true,[([],[]),([],[]),([0,1],[0,1]),([2],[2]),([],[]),([4],[4]),([3,5],[3,5]),([6,3,0,1,2,3,4,5,6],[6])])
def zac.B23:List Nat:=[0,0,3,7,0,16,63,127]
theorem zac.tab23:rtab .any (opsOf Tryz.f70 23)=zac.T23:=by kernel_rfl
theorem zac.bits23:waitsOk zac.T23.2 zac.B23=true:=by kernel_rfl
theorem zac.calls(k:Nat)(O:Int)(U:Int)(E:Int)(I:Int)(D:Int)(X:Bool)(J:Int)(r:ByteArray)(w:World)(h:zac.f k O U E I D X J=some r):
  Calls Tryz.prog 70 #[.agg #[.int .u64 O,.int .i64 U,.int .u64 E,.int .i64 I,.int .i64 D,.bool X,.int .i32 J]] w fun e w'=>e= .returned (.string r)∧Below w.heap.size w w':=by
 have he:=Tryz.underlying74
 have HB:=zaa.mk (Below.refl w.heap.size w)
 have H:(if E>0 then((bits_Len64.f E).bind fun aE=>(if 0≤(wrap64 (64-aE)) then(zac.j0 k (⟨#[49]⟩:ByteArray) (IntKind.u64.wrap ((shl .u64 E (wrap64 (64-aE)))*2)) (wrap64 ((wrap64 (I+aE))-1)) O U E I D X J) else(none))) else(zac.j0 k (⟨#[48]⟩:ByteArray) 0 0 O U E I D X J))=some r:=h
 clear h
 have ct:=zaa.mk H
 clear H
 go_enter Tryz.func70,Tryz.ntmps70
 go_upto_if 15 with(first|((with_reducible refine zah (N:=1) rfl ?_);refine zag rfl (N:=1) rfl (cs:=#[.int .u64 O,.int .i64 U,.int .u64 E,.int .i64 I,.int .i64 D,.bool X,.int .i32 J]) (t:=74) gz ?_;intro B hg w3 hbox hb;have gw:=gN bz hg;have A:=zaa.mk hbox;replace HB:=bN bz hb;clear hb hbox hg;obtain⟨aF,aG,aH,aI,aJ,ah,ai,aj,ak,al,am,an,ao,ap⟩:=cz7 A))
 (try simp only[Act.put,List.setIfInBounds_toArray,List.set_cons_zero,List.set_cons_succ])
 go_cut [3,4,5] (fun v3 v4 v5 wc=> ∃(kq:Nat) (ar:ByteArray) (ac:Int) (aa:Int),v3= .string ar∧v4= .int .u64 ac∧v5= .int .i64 aa∧zaa (zac.j0 kq ar ac aa O U E I D X J=some r)∧zaa (kq≤k)∧zaa (wc.heap[B]? =some (.cells #[.int .u64 O,.int .i64 U,.int .u64 E,.int .i64 I,.int .i64 D,.bool X,.int .i32 J] 74 (0,0)))∧zaa (Below w.heap.size w wc))
 case first=>
  have H:=ct.out
  clear ct
  by_cases c5:E>0
  case neg=>
   replace H:=hN H c5
   have bW:decide (0<E)=false:=decide_eq_false c5
   clear c5
   try rw[bW]
   have H':=zaa.mk H
   clear H
   go_wp2
   go_meet
   case rel=>exact⟨_,((⟨#[48]⟩:ByteArray)),(0),(0),rz,rz,rz,H',⟨by first|omega|exact Nat.le_refl _⟩,⟨bk⟩,⟨bz⟩⟩
  replace H:=hE H c5
  have bW:decide (0<E)=true:=decide_eq_true c5
  clear c5
  try rw[bW]
  replace H:=bs H
  obtain⟨aE,A6,H⟩:=H
  obtain⟨bX,bK⟩:=ex (wrap64 (64-aE))
  (first|rw[bK] at H|simp only[bK] at H)
  (try rw[bK] at A6)
  have gx:(IntKind.i64.wrap (64-aE))=bX:=(zar _).trans bK
  obtain⟨hf,hh,H⟩:=hG3 H
  obtain⟨cu,be⟩:=ex (shl .u64 E (bX))
  (first|rw[be] at H|simp only[be] at H)
  (try rw[be] at A6)
  have gy:(IntKind.u64.wrap (E*2^min (bX).toNat 64))=cu:=be
  have gA:(bX)≤64→(IntKind.u64.wrap (E*2^(bX).toNat))=cu:=zbx be
  have H':=zaa.mk H
  clear H
  obtain⟨cF,cG,cH,cI,cJ,cK,cL,cM,cN,cO,cP,cQ,cR,cS⟩:=cz7 A
  try go_wp2_with (first|((with_reducible refine zad (f:=112) rfl ?_);refine gB Tryz.func112 (bits_Len64.calls E aE _ A6.out) ?_;intro gC hb;replace A:=kN (g:=B) (cs:=#[.int .u64 O,.int .i64 U,.int .u64 E,.int .i64 I,.int .i64 D,.bool X,.int .i32 J]) hb bk;replace HB:=bN bz hb;clear hb))
  replace A:=zaa.mk (zao A.out)
  replace HB:=zaa.mk (zaH HB.out)
  refine za8 (n:=7) (S:=fun w'=>w'.cell? ⟨B,0,none⟩=some (.int .u64 O)∧w'.cell? ⟨B,1,none⟩=some (.int .i64 U)∧w'.cell? ⟨B,2,none⟩=some (.int .u64 E)∧w'.cell? ⟨B,3,none⟩=some (.int .i64 I)∧w'.cell? ⟨B,4,none⟩=some (.int .i64 D)∧w'.cell? ⟨B,5,none⟩=some (.bool X)∧w'.cell? ⟨B,6,none⟩=some (.int .i32 J)) (ds:=[]) #[false,false,false,false,false,false,false] (by kernel_rfl) rfl rfl ⟨(zab A.out 0).trans rfl,(zab A.out 1).trans rfl,(zab A.out 2).trans rfl,(zab A.out 3).trans rfl,(zab A.out 4).trans rfl,(zab A.out 5).trans rfl,(zab A.out 6).trans rfl⟩ (fun hHeld=>?_)
  generalize gC.drew=ho at A HB hHeld ⊢
  refine zbr (i:=0) (N:=some 19) (v:=?_) (a':=?_) #[true,false,false,false,false,false,false] rfl rfl (by kernel_rfl) (fun _ _ _ h=>h) (Or.inl ⟨by rfl,?_⟩) ?_ ?_
  rotate_left
  ·intro w'
   go_simp
   with_reducible rfl
  rotate_left
  ·simp only[Act.put,List.setIfInBounds_toArray,List.set_cons_zero,List.set_cons_succ,zar,zau]
   rfl
  refine zbr (i:=2) (N:=some 21) (v:=?_) (a':=?_) #[true,false,true,false,false,false,false] rfl rfl (by kernel_rfl) (fun _ _ _ h=>h) (Or.inl ⟨by rfl,?_⟩) ?_ ?_
  rotate_left
  ·intro w'
   go_simp
   with_reducible rfl
  rotate_left
  ·simp only[Act.put,List.setIfInBounds_toArray,List.set_cons_zero,List.set_cons_succ,zar,zau]
   rfl
  refine zbr (i:=5) (N:=some 3) (v:=?_) (a':=?_) #[true,false,true,false,false,true,false] rfl rfl (by kernel_rfl) (fun _ _ _ h=>h) (Or.inl ⟨by rfl,?_⟩) ?_ ?_
  rotate_left
  ·intro w'
   go_simp
   with_reducible rfl
  rotate_left
  ·simp only[Act.put,List.setIfInBounds_toArray,List.set_cons_zero,List.set_cons_succ,zar,zau]
   rfl
  refine zcg (i:=1) (N:=some 20) (v:=?_) (a':=?_) #[true,true,true,false,false,true,false] rfl rfl (by kernel_rfl) (fun _ _ _ h=>h) (Or.inl ⟨by rfl,?_⟩) hHeld ?_ ?_
  rotate_left
  ·rintro w' ⟨s0,s1,s2,s3,s4,s5,s6⟩
   go_simp
   with_reducible rfl
  rotate_left
  ·simp only[Act.put,List.setIfInBounds_toArray,List.set_cons_zero,List.set_cons_succ,zar,zau]
   rfl
  refine zbr (i:=3) (N:=some 22) (v:=?_) (a':=?_) #[true,true,true,true,false,true,false] rfl rfl (by kernel_rfl) (fun _ _ _ h=>h) (Or.inl ⟨by rfl,?_⟩) ?_ ?_
  rotate_left
  ·intro w'
   go_simp
   with_reducible rfl
  rotate_left
  ·simp only[Act.put,List.setIfInBounds_toArray,List.set_cons_zero,List.set_cons_succ,zar,zau]
   rfl
  refine zbr (i:=4) (N:=some 23) (v:=?_) (a':=?_) #[true,true,true,true,true,true,false] rfl rfl (by kernel_rfl) (fun _ _ _ h=>h) (Or.inl ⟨by rfl,?_⟩) ?_ ?_
  rotate_left
  ·intro w'
   go_simp
   with_reducible rfl
  rotate_left
  ·simp only[Act.put,List.setIfInBounds_toArray,List.set_cons_zero,List.set_cons_succ,zar,zau]
   rfl
  refine zbr (i:=6) (N:=some 5) (v:=?_) (a':=?_) #[true,true,true,true,true,true,true] rfl rfl (by kernel_rfl) (fun _ _ _ h=>h) (Or.inl ⟨by rfl,?_⟩) ?_ ?_
  rotate_left
  ·intro w'
   go_simp
   with_reducible rfl
  rotate_left
  ·simp only[Act.put,List.setIfInBounds_toArray,List.set_cons_zero,List.set_cons_succ,zar,zau]
   rfl
  refine zc5 (by kernel_rfl) ?_
  obtain⟨cT,cV,cW,cX,cY,cZ,c6,c7,c8,c9,da,db,dc,dd⟩:=cz7 A
  try go_wp2
  go_meet
  case rel=>exact⟨_,((⟨#[49]⟩:ByteArray)),(IntKind.u64.wrap ((cu)*2)),(wrap64 ((wrap64 (I+aE))-1)),rz,(by first|rfl|(simp;done)|(simp only[←be]<;>(first|rfl|simp))|(simp[*];done)),rz,H',⟨by first|omega|exact Nat.le_refl _⟩,⟨bk⟩,⟨bz⟩⟩
 case rest=>
  clear ct
  try clear aF aG aH aI aJ ah ai aj ak al am an ao ap
  obtain⟨kq,ar,ac,aa,rfl,rfl,rfl,HA,ag,A,HB⟩:=hcut
  cases kq with
  |zero=>exact absurd HA.out (by simp[zac.j0])
  |succ de=>
   have H:=HA.out
   clear HA
   simp only[zac.j0] at H
   have bY:=zaa.mk H
   clear H
   obtain⟨aM,aN,aO,aP,aQ,aR,aS,au,av,aw,ax,ay,az,aA⟩:=cz7 A
   go_upto_if 32 with(fail)
   go_cut [5,7] (fun v5 v7 wc=> ∃(kq:Nat) (bi:Int) (bj:ByteArray),v5= .int .i64 bi∧v7= .string bj∧zaa (zac.j4 kq ar bi bj O U E I D X J=some r)∧zaa (kq≤de)∧zaa (wc.heap[B]? =some (.cells #[.int .u64 O,.int .i64 U,.int .u64 E,.int .i64 I,.int .i64 D,.bool X,.int .i32 J] 74 (0,0)))∧zaa (Below w.heap.size w wc))
   case first=>
    have H:=bY.out
    clear bY
    by_cases bl:D<0
    ·replace H:=hE H bl
     have aC:=decide_eq_true bl
     clear bl
     try rw[aC]
     replace H:=bs H
     obtain⟨ck,gD,H⟩:=H
     replace H:=bs H
     obtain⟨cm,gE,H⟩:=H
     have H':=zaa.mk H
     clear H
     go_wp2_with (first|((with_reducible refine zad (f:=113) rfl ?_);refine gB Tryz.func113 (zaR.calls ac ck _ gD.out) ?_;intro hq hb;replace A:=kN (g:=B) (cs:=#[.int .u64 O,.int .i64 U,.int .u64 E,.int .i64 I,.int .i64 D,.bool X,.int .i32 J]) hb bk;replace HB:=bN bz hb;clear hb)|((with_reducible refine zad (f:=80) rfl ?_);refine gB Tryz.func80 (za4.calls ck (⟨#[48]⟩:ByteArray) cm _ gE.out) ?_;intro hs hb;replace A:=kN (g:=B) (cs:=#[.int .u64 O,.int .i64 U,.int .u64 E,.int .i64 I,.int .i64 D,.bool X,.int .i32 J]) hb bk;replace HB:=bN bz hb;clear hb))
     go_meet
     case rel=>exact⟨_,(aa),(cm),rz,rz,H',⟨by have:=ag.out;first|omega|exact Nat.le_refl _⟩,⟨bk⟩,⟨bz⟩⟩
    replace H:=hN H bl
    have aC:=decide_eq_false bl
    clear bl
    try rw[aC]
    by_cases bm:D≥16
    ·replace H:=hE H bm
     have bn:decide (16≤D)=true:=decide_eq_true bm
     clear bm
     replace H:=bs H
     obtain⟨cn,gF,H⟩:=H
     replace H:=bs H
     obtain⟨co,gH,H⟩:=H
     have H':=zaa.mk H
     clear H
     obtain⟨df,dh,di,dj,dk,dl,dm,dn,dp,dq,dt,du,dv,dx⟩:=cz7 A
     try go_wp2
     replace A:=zaa.mk (zao A.out)
     replace HB:=zaa.mk (zaH HB.out)
     refine za8 (n:=6) (S:=fun w'=>w'.cell? ⟨B,0,none⟩=some (.int .u64 O)∧w'.cell? ⟨B,1,none⟩=some (.int .i64 U)∧w'.cell? ⟨B,2,none⟩=some (.int .u64 E)∧w'.cell? ⟨B,3,none⟩=some (.int .i64 I)∧w'.cell? ⟨B,4,none⟩=some (.int .i64 D)∧w'.cell? ⟨B,5,none⟩=some (.bool X)∧w'.cell? ⟨B,6,none⟩=some (.int .i32 J)) (ds:=[]) #[false,false,false,false,false,false] (by kernel_rfl) rfl rfl ⟨(zab A.out 0).trans rfl,(zab A.out 1).trans rfl,(zab A.out 2).trans rfl,(zab A.out 3).trans rfl,(zab A.out 4).trans rfl,(zab A.out 5).trans rfl,(zab A.out 6).trans rfl⟩ (fun hHeld=>?_)
     generalize wc.drew=ht at A HB hHeld ⊢
     refine zbr (i:=0) (N:=some 39) (v:=?_) (a':=?_) #[true,false,false,false,false,false] rfl rfl (by kernel_rfl) (fun _ _ _ h=>h) (Or.inl ⟨by rfl,?_⟩) ?_ ?_
     rotate_left
     ·intro w'
      go_simp
      with_reducible rfl
     rotate_left
     ·simp only[Act.put,List.setIfInBounds_toArray,List.set_cons_zero,List.set_cons_succ,zar,zau]
      rfl
     refine zbr (i:=2) (N:=some 41) (v:=?_) (a':=?_) #[true,false,true,false,false,false] rfl rfl (by kernel_rfl) (fun _ _ _ h=>h) (Or.inl ⟨by rfl,?_⟩) ?_ ?_
     rotate_left
     ·intro w'
      go_simp
      with_reducible rfl
     rotate_left
     ·simp only[Act.put,List.setIfInBounds_toArray,List.set_cons_zero,List.set_cons_succ,zar,zau]
      rfl
     refine zcg (i:=3) (N:=some 42) (v:=?_) (a':=?_) #[true,false,true,true,false,false] rfl rfl (by kernel_rfl) (fun _ _ _ h=>h) (Or.inl ⟨by rfl,?_⟩) hHeld ?_ ?_
     rotate_left
     ·rintro w' ⟨s0,s1,s2,s3,s4,s5,s6⟩
      go_simp
      with_reducible rfl
     rotate_left
     ·simp only[Act.put,List.setIfInBounds_toArray,List.set_cons_zero,List.set_cons_succ,zar,zau]
      rfl
     refine one_ (i:=1) (N:=some 40) #[true,true,true,true,false,false] rfl rfl (by kernel_rfl) (by decide) (fun K hK=>?_)
     refine gG Tryz.func113 (zaR.calls ac cn _ gF.out) ?_
     intro hu hb
     replace A:=kN (g:=B) (cs:=#[.int .u64 O,.int .i64 U,.int .u64 E,.int .i64 I,.int .i64 D,.bool X,.int .i32 J]) hb bk
     replace HB:=bN bz hb
     clear hb
     refine hK.out _ _ (d7 A) (fun hHeld=>?_)
     clear hK K
     refine zaL (a':=?_) ?_ ?_
     rotate_left
     ·show Act.put _ (some 40) _=_
      simp only[Act.put,List.setIfInBounds_toArray,List.set_cons_zero,List.set_cons_succ,zar,zau]
      rfl
     refine one_ (i:=4) (N:=some 43) #[true,true,true,true,true,false] rfl rfl (by kernel_rfl) (by decide) (fun K hK=>?_)
     refine gG Tryz.func105 (zaQ.calls cn D co _ gH.out) ?_
     intro hv hb
     replace A:=kN (g:=B) (cs:=#[.int .u64 O,.int .i64 U,.int .u64 E,.int .i64 I,.int .i64 D,.bool X,.int .i32 J]) hb bk
     replace HB:=bN bz hb
     clear hb
     refine hK.out _ _ (d7 A) (fun hHeld=>?_)
     clear hK K
     refine zaL (a':=?_) ?_ ?_
     rotate_left
     ·show Act.put _ (some 43) _=_
      simp only[Act.put,List.setIfInBounds_toArray,List.set_cons_zero,List.set_cons_succ,zar,zau]
      rfl
     refine zbr (i:=5) (N:=some 7) (v:=?_) (a':=?_) #[true,true,true,true,true,true] rfl rfl (by kernel_rfl) (fun _ _ _ h=>h) (Or.inl ⟨by rfl,?_⟩) ?_ ?_
     rotate_left
     ·intro w'
      go_simp
      with_reducible rfl
     rotate_left
     ·simp only[Act.put,List.setIfInBounds_toArray,List.set_cons_zero,List.set_cons_succ,zar,zau]
      rfl
     refine zc5 (by kernel_rfl) ?_
     try go_wp2
     go_meet
     case rel=>exact⟨_,(aa),(co),rz,rz,H',⟨by have:=ag.out;first|omega|exact Nat.le_refl _⟩,⟨bk⟩,⟨bz⟩⟩
    replace H:=hN H bm
    have bn:decide (16≤D)=false:=decide_eq_false bm
    clear bm
    obtain⟨bL,bZ⟩:=ex (IntKind.u64.wrap (64-(IntKind.u64.wrap (wrap64 (64-(wrap64 (4*D)))))))
    (first|rw[bZ] at H|simp only[bZ] at H)
    obtain⟨bB,bC,H⟩:=hG3 H
    obtain⟨b0,aT⟩:=ex (shl .u64 ac (bL))
    (first|rw[aT] at H|simp only[aT] at H)
    have gj:(IntKind.u64.wrap (ac*2^min (bL).toNat 64))=b0:=aT
    have gk:(bL)≤64→(IntKind.u64.wrap (ac*2^(bL).toNat))=b0:=zbx aT
    have b1:=zaa.mk H
    clear H
    obtain⟨aU,aV,aW,aX,aY,aZ,a1,a2,a3,a4,a5,a6,a7,a8⟩:=cz7 A
    go_upto_if 54 with(fail)
    go_cut [9] (fun v9 wc=> ∃(kq:Nat) (af:Int),v9= .int .u64 af∧zaa (zac.j1 kq ar ac aa (⟨#[]⟩:ByteArray) (IntKind.u64.wrap (wrap64 (64-(wrap64 (4*D))))) af O U E I D X J=some r)∧zaa (kq≤de)∧zaa (wc.heap[B]? =some (.cells #[.int .u64 O,.int .i64 U,.int .u64 E,.int .i64 I,.int .i64 D,.bool X,.int .i32 J] 74 (0,0)))∧zaa (Below w.heap.size w wc))
    case first=>
     have H:=b1.out
     clear b1
     by_cases b2:(IntKind.u64.wrap (wrap64 (64-(wrap64 (4*D)))))=64
     ·replace H:=hE H b2
      obtain⟨a9,bD⟩:=eT b2
      clear b2
      (first|rw[a9]|rw[bD]|(simp only[zar,zau];rw[a9])|skip)
      have H':=zaa.mk H
      clear H
      go_wp2
      go_meet
      case rel=>exact⟨_,(ac),rz,H',⟨by have:=ag.out;first|omega|exact Nat.le_refl _⟩,⟨bk⟩,⟨bz⟩⟩
     replace H:=hN H b2
     obtain⟨a9,bD⟩:=eF b2
     (first|rw[a9]|rw[bD]|(simp only[zar,zau];rw[a9])|skip)
     have H':=zaa.mk H
     clear H
     go_wp2
     go_meet
     case rel=>exact⟨_,(b0),(by first|rfl|(simp;done)|(simp only[←aT]<;>(first|rfl|simp))|(simp[*];done)),H',⟨by have:=ag.out;first|omega|exact Nat.le_refl _⟩,⟨bk⟩,⟨bz⟩⟩
    case rest=>
     clear b1
     try clear bl
     try clear aC
     try clear bm
     try clear bn
     try clear bB
     try clear bC
     try clear aM aN aO aP aQ aR aS au av aw ax ay az aA
     try clear aU aV aW aX aY aZ a1 a2 a3 a4 a5 a6 a7 a8
     try clear aF aG aH aI aJ ah ai aj ak al am an ao ap
     obtain⟨kq,af,rfl,HA,ae,A,HB⟩:=hcut
     cases kq with
     |zero=>exact absurd HA.out (by simp[zac.j1])
     |succ dy=>
      have H:=HA.out
      clear HA
      simp only[zac.j1] at H
      obtain⟨Y,b3⟩:=ex (IntKind.u64.wrap (wrap64 (64-(wrap64 (4*D)))))
      (first|rw[b3] at H|simp only[b3] at H)
      obtain⟨b4,b5,H⟩:=hG3 H
      obtain⟨ab,bo⟩:=ex (shr .u64 ac (Y))
      (first|rw[bo] at H|simp only[bo] at H)
      have gl:(ac / 2^min (Y).toNat 64)=ab:=bo
      have gm:(Y)≤64→(ac / 2^(Y).toNat)=ab:=zcH bo
      have b6:=zaa.mk H
      clear H
      go_upto_region 16 with(fail)
      go_cut [11] (fun gI wc=> ∃(kq:Nat) (aK:Bool),gI= .bool aK∧zaa (zac.j2 kq ar aa (⟨#[]⟩:ByteArray) (Y) af ab aK O U E I D X J=some r)∧zaa (kq≤dy)∧zaa (wc.heap[B]? =some (.cells #[.int .u64 O,.int .i64 U,.int .u64 E,.int .i64 I,.int .i64 D,.bool X,.int .i32 J] 74 (0,0)))∧zaa (Below w.heap.size w wc))
      case first=>
       have H:=b6.out
       clear b6
       by_cases b7:(Int.tmod (ab) 2)=1
       ·replace H:=hE H b7
        obtain⟨bE,bG⟩:=eT b7
        clear b7
        try first|rw[bE]|rw[bG]
        have H':=zaa.mk H
        clear H
        go_wp2
        go_meet
        case rel=>exact⟨_,(true),rz,H',⟨by have:=ag.out;have:=ae.out;first|omega|exact Nat.le_refl _⟩,⟨bk⟩,⟨bz⟩⟩
       replace H:=hN H b7
       obtain⟨bE,bG⟩:=eF b7
       try first|rw[bE]|rw[bG]
       by_cases b8:D=0
       ·replace H:=hE H b8
        obtain⟨cv,cw⟩:=eT b8
        clear b8
        have H':=zaa.mk H
        clear H
        obtain⟨dA,dB,dC,dD,dE,dF,dG,dH,dI,dJ,dK,dL,dM,dN⟩:=cz7 A
        go_wp2
        go_meet
        case rel=>exact⟨_,((ar.toList==([49]:List UInt8))),rz,H',⟨by have:=ag.out;have:=ae.out;first|omega|exact Nat.le_refl _⟩,⟨bk⟩,⟨bz⟩⟩
       replace H:=hN H b8
       obtain⟨cv,cw⟩:=eF b8
       have H':=zaa.mk H
       clear H
       obtain⟨dO,dP,dQ,dR,dS,dT,dU,dV,dW,dY,dZ,d0,d5,d6⟩:=cz7 A
       go_wp2
       go_meet
       case rel=>exact⟨_,(false),rz,H',⟨by have:=ag.out;have:=ae.out;first|omega|exact Nat.le_refl _⟩,⟨bk⟩,⟨bz⟩⟩
      case rest=>
       clear b6
       try clear bl
       try clear aC
       try clear bm
       try clear bn
       try clear bB
       try clear bC
       try clear b4
       try clear b5
       try clear aM aN aO aP aQ aR aS au av aw ax ay az aA
       try clear aU aV aW aX aY aZ a1 a2 a3 a4 a5 a6 a7 a8
       try clear aF aG aH aI aJ ah ai aj ak al am an ao ap
       obtain⟨kq,aK,rfl,HA,aB,A,HB⟩:=hcut
       cases kq with
       |zero=>exact absurd HA.out (by simp[zac.j2])
       |succ d9=>
        have H:=HA.out
        clear HA
        simp only[zac.j2] at H
        have ca:=zaa.mk H
        clear H
        go_upto_region 17 with(fail)
        go_cut [79] (fun gJ wc=> ∃(kq:Nat) (aL:Bool),gJ= .bool aL∧zaa (zac.j3 kq ar aa (⟨#[]⟩:ByteArray) (Y) ab aL O U E I D X J=some r)∧zaa (kq≤d9)∧zaa (wc.heap[B]? =some (.cells #[.int .u64 O,.int .i64 U,.int .u64 E,.int .i64 I,.int .i64 D,.bool X,.int .i32 J] 74 (0,0)))∧zaa (Below w.heap.size w wc))
        case first=>
         have H:=ca.out
         clear ca
         by_cases bQ:af>9223372036854775808
         ·replace H:=hE H bQ
          have bH:decide (9223372036854775808<af)=true:=decide_eq_true bQ
          clear bQ
          try rw[bH]
          have H':=zaa.mk H
          clear H
          go_wp2
          go_meet
          case rel=>exact⟨_,(true),rz,H',⟨by have:=ag.out;have:=ae.out;have:=aB.out;first|omega|exact Nat.le_refl _⟩,⟨bk⟩,⟨bz⟩⟩
         replace H:=hN H bQ
         have bH:decide (9223372036854775808<af)=false:=decide_eq_false bQ
         clear bQ
         try rw[bH]
         by_cases cb:af=9223372036854775808
         ·replace H:=hE H cb
          obtain⟨cx,cy⟩:=eT cb
          clear cb
          have H':=zaa.mk H
          clear H
          go_wp2
          go_meet
          case rel=>exact⟨_,(aK),rz,H',⟨by have:=ag.out;have:=ae.out;have:=aB.out;first|omega|exact Nat.le_refl _⟩,⟨bk⟩,⟨bz⟩⟩
         replace H:=hN H cb
         obtain⟨cx,cy⟩:=eF cb
         have H':=zaa.mk H
         clear H
         go_wp2
         go_meet
         case rel=>exact⟨_,(false),rz,H',⟨by have:=ag.out;have:=ae.out;have:=aB.out;first|omega|exact Nat.le_refl _⟩,⟨bk⟩,⟨bz⟩⟩
        case rest=>
         clear ca
         try clear bl
         try clear aC
         try clear bm
         try clear bn
         try clear bB
         try clear bC
         try clear b4
         try clear b5
         try clear aM aN aO aP aQ aR aS au av aw ax ay az aA
         try clear aU aV aW aX aY aZ a1 a2 a3 a4 a5 a6 a7 a8
         try clear aF aG aH aI aJ ah ai aj ak al am an ao ap
         obtain⟨kq,aL,rfl,HA,bf,A,HB⟩:=hcut
         cases kq with
         |zero=>exact absurd HA.out (by simp[zac.j3])
         |succ hj=>
          have H:=HA.out
          clear HA
          simp only[zac.j3] at H
          by_cases cj:aL=true
          case neg=>
           replace cj:=Bool.eq_false_iff.mpr cj
           subst cj
           replace H:=hF H
           by_cases bV:D>0
           case neg=>
            replace H:=hN H bV
            have cC:decide (0<D)=false:=decide_eq_false bV
            clear bV
            have H':=zaa.mk H
            clear H
            obtain⟨ft,fu,fv,fw,fx,fy,fz,fA,fC,fD,fF,fG,fH,fI⟩:=cz7 A
            go_wp2
            go_meet
            case rel=>exact⟨_,(aa),((⟨#[]⟩:ByteArray)),rz,rz,H',⟨by have:=ag.out;have:=ae.out;have:=aB.out;have:=bf.out;first|omega|exact Nat.le_refl _⟩,⟨bk⟩,⟨bz⟩⟩
           replace H:=hE H bV
           have cC:decide (0<D)=true:=decide_eq_true bV
           clear bV
           obtain⟨g1,g2,H⟩:=hG3 H
           obtain⟨bP,bb⟩:=ex (shl .u64 ab (Y))
           (first|rw[bb] at H|simp only[bb] at H)
           have gu:(IntKind.u64.wrap (ab*2^min (Y).toNat 64))=bP:=bb
           have gv:(Y)≤64→(IntKind.u64.wrap (ab*2^(Y).toNat))=bP:=zbx bb
           replace H:=bs H
           obtain⟨cr,g3,H⟩:=H
           obtain⟨g4,g5,H⟩:=hG3 H
           obtain⟨g6,g7,H⟩:=hG3 H
           have H':=zaa.mk H
           clear H
           obtain⟨fb,fc,fe,fg,fh,fi,fj,fk,fl,fm,fo,fp,fq,fs⟩:=cz7 A
           try go_wp2
           replace A:=zaa.mk (zao A.out)
           replace HB:=zaa.mk (zaH HB.out)
           refine za8 (n:=8) (S:=fun w'=>w'.cell? ⟨B,0,none⟩=some (.int .u64 O)∧w'.cell? ⟨B,1,none⟩=some (.int .i64 U)∧w'.cell? ⟨B,2,none⟩=some (.int .u64 E)∧w'.cell? ⟨B,3,none⟩=some (.int .i64 I)∧w'.cell? ⟨B,4,none⟩=some (.int .i64 D)∧w'.cell? ⟨B,5,none⟩=some (.bool X)∧w'.cell? ⟨B,6,none⟩=some (.int .i32 J)) (ds:=[]) #[false,false,false,false,false,false,false,false] (by kernel_rfl) rfl rfl ⟨(zab A.out 0).trans rfl,(zab A.out 1).trans rfl,(zab A.out 2).trans rfl,(zab A.out 3).trans rfl,(zab A.out 4).trans rfl,(zab A.out 5).trans rfl,(zab A.out 6).trans rfl⟩ (fun hHeld=>?_);refine za0 zac.tab23 zac.bits23 (fun Z HW_=>?_)
           generalize wc.drew=hA at A HB hHeld ⊢
           refine pz (i:=0) (N:=92) Z ?_
           refine pz (i:=1) (N:=93) Z ?_
           refine pz (i:=2) (N:=94) Z ?_
           refine pz (i:=4) (N:=96) Z ?_
           refine tz (i:=5) (N:=97) rfl Z HW_ hHeld (by(rintro w' ⟨s0,s1,s2,s3,s4,s5,s6⟩;go_simp;with_reducible rfl)) ?_
           refine oz (i:=3) (N:=some 95) Z fun K hK=>?_
           refine zc6 Tryz.func113 (by kernel_rfl) rfl #[.int .u64 bP] (by rfl) rfl rfl (by(try simp only[List.map_toArray,List.map_cons,List.map_nil]);first|done|(simp only[bb];rfl)|rfl|(simp only[List.length_drop,List.length_take];rfl)) ?_
           with_reducible refine(zaR.calls bP cr _ g3.out).mono ?_
           rintro e hB ⟨rfl,hb⟩
           refine⟨_,rfl,?_⟩
           replace A:=kN (g:=B) (cs:=#[.int .u64 O,.int .i64 U,.int .u64 E,.int .i64 I,.int .i64 D,.bool X,.int .i32 J]) hb bk
           replace HB:=bN bz hb
           (try clear hb)
           (try clear ep)
           (try clear hk)
           (try clear hi)
           refine hK.out _ _ (d7 A) (fun hHeld=>?_)
           clear hK K
           refine zaL (a':=?_) ?_ ?_
           rotate_left
           ·show Act.put _ (some 95) _=_
            simp only[Act.put,List.setIfInBounds_toArray,List.set_cons_zero,List.set_cons_succ,zar,zau]
            rfl
           refine pz (i:=6) (N:=98) Z ?_
           refine pz (i:=7) (N:=7) Z ?_
           refine dz Z ?_
           try go_wp2
           go_meet
           case rel=>exact⟨_,(aa),(cr.extract 0 (D:Int).toNat),rz,rz,H',⟨by have:=ag.out;have:=ae.out;have:=aB.out;have:=bf.out;first|omega|exact Nat.le_refl _⟩,⟨bk⟩,⟨bz⟩⟩
          subst cj
          replace H:=hT H
          obtain⟨bM,cc⟩:=ex (IntKind.u64.wrap (64-(Y)))
          (first|rw[cc] at H|simp only[cc] at H)
          obtain⟨gK,gL,H⟩:=hG3 H
          obtain⟨bq,bp⟩:=ex (shr .u64 (IntKind.u64.wrap (ab+1)) (bM))
          (first|rw[bp] at H|simp only[bp] at H)
          have gn:((IntKind.u64.wrap (ab+1)) / 2^min (bM).toNat 64)=bq:=bp
          have gp:(bM)≤64→((IntKind.u64.wrap (ab+1)) / 2^(bM).toNat)=bq:=zcH bp
          by_cases bR:(bq)>0
          ·replace H:=hE H bR
           have cz:decide (0<(bq))=true:=decide_eq_true bR
           clear bR
           by_cases bS:D>0
           case neg=>
            replace H:=hN H bS
            have cA:decide (0<D)=false:=decide_eq_false bS
            clear bS
            have H':=zaa.mk H
            clear H
            obtain⟨eq,er,et,eu,ev,ew,ey,eA,eB,eC,eD,eE,eG,eH⟩:=cz7 A
            go_wp2
            go_meet
            case rel=>exact⟨_,(wrap64 (aa+1)),((⟨#[]⟩:ByteArray)),rz,rz,H',⟨by have:=ag.out;have:=ae.out;have:=aB.out;have:=bf.out;first|omega|exact Nat.le_refl _⟩,⟨bk⟩,⟨bz⟩⟩
           replace H:=hE H bS
           have cA:decide (0<D)=true:=decide_eq_true bS
           clear bS
           obtain⟨gM,gO,H⟩:=hG3 H
           obtain⟨cd,aD⟩:=ex (shl .u64 0 (Y))
           (first|rw[aD] at H|simp only[aD] at H)
           have gq:(IntKind.u64.wrap (0*2^min (Y).toNat 64))=cd:=aD
           have gr:(Y)≤64→(IntKind.u64.wrap (0*2^(Y).toNat))=cd:=zbx aD
           have hz_:cd=0:=by rw[←aD];unfold shl;rw[Int.zero_mul];rfl
           subst hz_
           replace H:=bs H
           obtain⟨cp,gP,H⟩:=H
           obtain⟨gQ,gR,H⟩:=hG3 H
           obtain⟨gS,gT,H⟩:=hG3 H
           have H':=zaa.mk H
           clear H
           obtain⟨ea,eb,ec,ed,ee,ef,eg,eh,ei,ej,ek,em,en,eo⟩:=cz7 A
           try go_wp2
           replace A:=zaa.mk (zao A.out)
           replace HB:=zaa.mk (zaH HB.out)
           refine za8 (n:=8) (S:=fun w'=>w'.cell? ⟨B,0,none⟩=some (.int .u64 O)∧w'.cell? ⟨B,1,none⟩=some (.int .i64 U)∧w'.cell? ⟨B,2,none⟩=some (.int .u64 E)∧w'.cell? ⟨B,3,none⟩=some (.int .i64 I)∧w'.cell? ⟨B,4,none⟩=some (.int .i64 D)∧w'.cell? ⟨B,5,none⟩=some (.bool X)∧w'.cell? ⟨B,6,none⟩=some (.int .i32 J)) (ds:=[]) #[false,false,false,false,false,false,false,false] (by kernel_rfl) rfl rfl ⟨(zab A.out 0).trans rfl,(zab A.out 1).trans rfl,(zab A.out 2).trans rfl,(zab A.out 3).trans rfl,(zab A.out 4).trans rfl,(zab A.out 5).trans rfl,(zab A.out 6).trans rfl⟩ (fun hHeld=>?_);refine za0 zac.tab23 zac.bits23 (fun Z HW_=>?_)
           generalize wc.drew=hw at A HB hHeld ⊢
           refine pz (i:=0) (N:=92) Z ?_
           refine pz (i:=1) (N:=93) Z ?_
           refine pz (i:=2) (N:=94) Z ?_
           refine pz (i:=4) (N:=96) Z ?_
           refine tz (i:=5) (N:=97) rfl Z HW_ hHeld (by(rintro w' ⟨s0,s1,s2,s3,s4,s5,s6⟩;go_simp;with_reducible rfl)) ?_
           refine oz (i:=3) (N:=some 95) Z fun K hK=>?_
           refine zc6 Tryz.func113 (by kernel_rfl) rfl #[.int .u64 0] (by rfl) rfl rfl (by(try simp only[List.map_toArray,List.map_cons,List.map_nil]);first|done|(simp only[aD];rfl)|rfl|(simp only[List.length_drop,List.length_take];rfl)) ?_
           with_reducible refine(zaR.calls 0 cp _ gP.out).mono ?_
           rintro e hx ⟨rfl,hb⟩
           refine⟨_,rfl,?_⟩
           replace A:=kN (g:=B) (cs:=#[.int .u64 O,.int .i64 U,.int .u64 E,.int .i64 I,.int .i64 D,.bool X,.int .i32 J]) hb bk
           replace HB:=bN bz hb
           (try clear hb)
           (try clear ep)
           (try clear hk)
           (try clear hi)
           refine hK.out _ _ (d7 A) (fun hHeld=>?_)
           clear hK K
           refine zaL (a':=?_) ?_ ?_
           rotate_left
           ·show Act.put _ (some 95) _=_
            simp only[Act.put,List.setIfInBounds_toArray,List.set_cons_zero,List.set_cons_succ,zar,zau]
            rfl
           refine pz (i:=6) (N:=98) Z ?_
           refine pz (i:=7) (N:=7) Z ?_
           refine dz Z ?_
           try go_wp2
           go_meet
           case rel=>exact⟨_,(wrap64 (aa+1)),(cp.extract 0 (D:Int).toNat),rz,rz,H',⟨by have:=ag.out;have:=ae.out;have:=aB.out;have:=bf.out;first|omega|exact Nat.le_refl _⟩,⟨bk⟩,⟨bz⟩⟩
          replace H:=hN H bR
          have cz:decide (0<(bq))=false:=decide_eq_false bR
          clear bR
          by_cases bU:D>0
          case neg=>
           replace H:=hN H bU
           have cB:decide (0<D)=false:=decide_eq_false bU
           clear bU
           have H':=zaa.mk H
           clear H
           obtain⟨eX,eY,eZ,e0,e1,e2,e3,e4,e5,e6,e7,e8,e9,fa⟩:=cz7 A
           go_wp2
           go_meet
           case rel=>exact⟨_,(aa),((⟨#[]⟩:ByteArray)),rz,rz,H',⟨by have:=ag.out;have:=ae.out;have:=aB.out;have:=bf.out;first|omega|exact Nat.le_refl _⟩,⟨bk⟩,⟨bz⟩⟩
          replace H:=hE H bU
          have cB:decide (0<D)=true:=decide_eq_true bU
          clear bU
          obtain⟨gU,gV,H⟩:=hG3 H
          obtain⟨bO,ba⟩:=ex (shl .u64 (IntKind.u64.wrap (ab+1)) (Y))
          (first|rw[ba] at H|simp only[ba] at H)
          have gs:(IntKind.u64.wrap ((IntKind.u64.wrap (ab+1))*2^min (Y).toNat 64))=bO:=ba
          have gt:(Y)≤64→(IntKind.u64.wrap ((IntKind.u64.wrap (ab+1))*2^(Y).toNat))=bO:=zbx ba
          replace H:=bs H
          obtain⟨cq,gW,H⟩:=H
          obtain⟨gX,gY,H⟩:=hG3 H
          obtain⟨gZ,g0,H⟩:=hG3 H
          have H':=zaa.mk H
          clear H
          obtain⟨eI,eJ,eK,eL,eM,eN,eO,eP,eQ,eR,eS,eU,eV,eW⟩:=cz7 A
          try go_wp2
          replace A:=zaa.mk (zao A.out)
          replace HB:=zaa.mk (zaH HB.out)
          refine za8 (n:=8) (S:=fun w'=>w'.cell? ⟨B,0,none⟩=some (.int .u64 O)∧w'.cell? ⟨B,1,none⟩=some (.int .i64 U)∧w'.cell? ⟨B,2,none⟩=some (.int .u64 E)∧w'.cell? ⟨B,3,none⟩=some (.int .i64 I)∧w'.cell? ⟨B,4,none⟩=some (.int .i64 D)∧w'.cell? ⟨B,5,none⟩=some (.bool X)∧w'.cell? ⟨B,6,none⟩=some (.int .i32 J)) (ds:=[]) #[false,false,false,false,false,false,false,false] (by kernel_rfl) rfl rfl ⟨(zab A.out 0).trans rfl,(zab A.out 1).trans rfl,(zab A.out 2).trans rfl,(zab A.out 3).trans rfl,(zab A.out 4).trans rfl,(zab A.out 5).trans rfl,(zab A.out 6).trans rfl⟩ (fun hHeld=>?_);refine za0 zac.tab23 zac.bits23 (fun Z HW_=>?_)
          generalize wc.drew=hy at A HB hHeld ⊢
          refine pz (i:=0) (N:=92) Z ?_
          refine pz (i:=1) (N:=93) Z ?_
          refine pz (i:=2) (N:=94) Z ?_
          refine pz (i:=4) (N:=96) Z ?_
          refine tz (i:=5) (N:=97) rfl Z HW_ hHeld (by(rintro w' ⟨s0,s1,s2,s3,s4,s5,s6⟩;go_simp;with_reducible rfl)) ?_
          refine oz (i:=3) (N:=some 95) Z fun K hK=>?_
          refine zc6 Tryz.func113 (by kernel_rfl) rfl #[.int .u64 bO] (by rfl) rfl rfl (by(try simp only[List.map_toArray,List.map_cons,List.map_nil]);first|done|(simp only[ba];rfl)|rfl|(simp only[List.length_drop,List.length_take];rfl)) ?_
          with_reducible refine(zaR.calls bO cq _ gW.out).mono ?_
          rintro e hz ⟨rfl,hb⟩
          refine⟨_,rfl,?_⟩
          replace A:=kN (g:=B) (cs:=#[.int .u64 O,.int .i64 U,.int .u64 E,.int .i64 I,.int .i64 D,.bool X,.int .i32 J]) hb bk
          replace HB:=bN bz hb
          (try clear hb)
          (try clear ep)
          (try clear hk)
          (try clear hi)
          refine hK.out _ _ (d7 A) (fun hHeld=>?_)
          clear hK K
          refine zaL (a':=?_) ?_ ?_
          rotate_left
          ·show Act.put _ (some 95) _=_
           simp only[Act.put,List.setIfInBounds_toArray,List.set_cons_zero,List.set_cons_succ,zar,zau]
           rfl
          refine pz (i:=6) (N:=98) Z ?_
          refine pz (i:=7) (N:=7) Z ?_
          refine dz Z ?_
          try go_wp2
          go_meet
          case rel=>exact⟨_,(aa),(cq.extract 0 (D:Int).toNat),rz,rz,H',⟨by have:=ag.out;have:=ae.out;have:=aB.out;have:=bf.out;first|omega|exact Nat.le_refl _⟩,⟨bk⟩,⟨bz⟩⟩
   case rest=>
    clear bY
    try clear ah ai aj ak al am an ao ap
    try clear au av aw ax ay az aA
    obtain⟨kq,bi,bj,rfl,rfl,HA,hl,A,HB⟩:=hcut
    cases kq with
    |zero=>exact absurd HA.out (by simp[zac.j4])
    |succ hm=>
     have H:=HA.out
     clear HA
     simp only[zac.j4] at H
     replace H:=bs H
     obtain⟨bg,g8,H⟩:=H
     replace H:=bs H
     obtain⟨bh,g9,H⟩:=H
     obtain⟨ce,bd⟩: ∃y_:List ByteArray,y_=(([(⟨#[48,120]⟩:ByteArray),bg,bh]:List ByteArray)):=⟨_,rfl⟩
     replace H:((zas.f ce).bind fun br=>(if J=88 then((zbf.f br).bind fun cf=>(some cf)) else(some br)))=some r:=by first|(rw[bd];with_reducible exact H)|(have cD:=(Option.bind_some _ _).symm.trans H;rw[bd];with_reducible exact cD)|(have cD:=(Option.bind_some _ _).symm.trans H;with_reducible exact cD)|with_reducible exact H|(rw[bd];exact H)|exact H
     have cg:=zaa.mk bd
     clear bd
     replace H:=bs H
     obtain⟨br,ha,H⟩:=H
     obtain⟨fJ,fK,fL,fN,fO,fP,fQ,fR,fS,fT,fU,fV,fX,fY⟩:=cz7 A
     go_upto_if 109 with(first|((with_reducible refine zad (f:=107) rfl ?_);refine gB Tryz.func107 (zay.calls O U E I D X J ar bj bg _ g8.out) ?_;intro hC hb;replace A:=kN (g:=B) (cs:=#[.int .u64 O,.int .i64 U,.int .u64 E,.int .i64 I,.int .i64 D,.bool X,.int .i32 J]) hb bk;replace HB:=bN bz hb;clear hb)|((with_reducible refine zad (f:=111) rfl ?_);refine gB Tryz.func111 (za7.calls (⟨#[112]⟩:ByteArray) bi 2 bh _ g9.out) ?_;intro hD hb;replace A:=kN (g:=B) (cs:=#[.int .u64 O,.int .i64 U,.int .u64 E,.int .i64 I,.int .i64 D,.bool X,.int .i32 J]) hb bk;replace HB:=bN bz hb;clear hb)|((with_reducible refine zah (N:=105) rfl ?_);refine Kd.R_lit Kd.string _ 9 ?hg (N:=105) ?hd (xs:=([(⟨#[48,120]⟩:ByteArray),bg,bh]:List ByteArray)) (inner:=[.string (⟨#[48,120]⟩:ByteArray),.string bg,.string bh]) (ok:=fun _=>True) (okp:=fun _=>True) ?hr ?hp (fun _ hk=>hk) trivial (Below.refl _ _) (Nat.le_refl _) (by simp) ?_;(case hd=>rfl);(case hg=>rfl);(case hr=>first|(go_simp;done)|(go_simp;rfl));(case hp=>exact(Reps.one (show Kd.M Kd.string _ _ _ (⟨#[48,120]⟩:ByteArray) [.string (⟨#[48,120]⟩:ByteArray)] from rfl) (Reps.one (show Kd.M Kd.string _ _ _ bg [.string bg] from rfl) (Reps.one (show Kd.M Kd.string _ _ _ bh [.string bh] from rfl) (Reps.none _ _)))));intro hn hH bu hb hg_ hnew_;clear hg_ hnew_;(first|rw[←cg.out] at bu|(simp only[Int.reduceToNat] at bu;rw[←cg.out] at bu));have bv:=zaa.mk (Kd.R_lower bu (zaG bz));have bw:=kN (g:=B) (cs:=#[.int .u64 O,.int .i64 U,.int .u64 E,.int .i64 I,.int .i64 D,.bool X,.int .i32 J]) hb bk;have bA:=bN bz hb;clear A;clear HB;have ad:=bv;have A:=bw;have HB:=bA;clear bv bw bA;clear hb bu;obtain⟨fZ,f0,f2⟩:=Kd.R_slice ad.out;subst f2)|((with_reducible refine zad (f:=109) rfl ?_);refine za3 (some 106) rfl rfl Tryz.func109 (by kernel_rfl) rfl #[.slice fZ ce.length f0] rfl lz ?_;(with_reducible refine(zas.calls _ _ ce br _ ?side1 ?side2 ha.out).mono ?_);(case side1=>repeat(first|exact(Kd.R_reads' ad.out).2.2|(with_reducible refine Kd.C_alloc ?_ _)|(with_reducible refine Kd.C_drewN ?_ _)|(with_reducible refine Kd.C_drew ?_)));(case side2=>exact(Kd.R_reads' ad.out).2.1);rintro e hI ⟨rfl,hb⟩;refine⟨_,rfl,?_⟩;have bv:=zaa.mk (Kd.R_below (by(with_reducible repeat(first|apply Kd.R_alloc|apply Kd.R_drewN|apply Kd.R_drew));exact ad.out) hb);have bw:=kN (g:=B) (cs:=#[.int .u64 O,.int .i64 U,.int .u64 E,.int .i64 I,.int .i64 D,.bool X,.int .i32 J]) hb bk;have bA:=bN bz hb;clear ad;clear A;clear HB;have ad:=bv;have A:=bw;have HB:=bA;clear bv bw bA;clear hb;obtain⟨f3,f4,f5,f6,f7,f8,f9,ga,gb,ge,gf,gg,gh,gi⟩:=cz7 A))
     (try simp only[Act.put,List.setIfInBounds_toArray,List.set_cons_zero,List.set_cons_succ])
     by_cases ci:J=88
     ·replace H:=hE H ci
      obtain⟨bI,bJ⟩:=eT ci
      clear ci
      try first|rw[bI]|rw[bJ]
      replace H:=bs H
      obtain⟨cf,hc,H⟩:=H
      obtain rfl:=Option.some.inj H
      go_wp2_with (first|((with_reducible refine zad (f:=114) rfl ?_);refine gB Tryz.func114 (zbf.calls br cf _ hc.out) ?_;intro hJ hb;have bv:=zaa.mk (Kd.R_below (by(with_reducible repeat(first|apply Kd.R_alloc|apply Kd.R_drewN|apply Kd.R_drew));exact ad.out) hb);have bw:=kN (g:=B) (cs:=#[.int .u64 O,.int .i64 U,.int .u64 E,.int .i64 I,.int .i64 D,.bool X,.int .i32 J]) hb bk;have bA:=bN bz hb;clear ad;clear A;clear HB;have ad:=bv;have A:=bw;have HB:=bA;clear bv bw bA;clear hb))
      go_ret
      exact⟨ez,bz⟩
     replace H:=hN H ci
     obtain⟨bI,bJ⟩:=eF ci
     try first|rw[bI]|rw[bJ]
     obtain rfl:=Option.some.inj H
     go_wp2
     go_ret
     exact⟨ez,bz⟩
mutual
def zax.j0:Nat→Int→Bool→Option (Int)
 |0,_,_=>none
 |k+1,x3,x4=>if x4=true then(some 1) else(if x3=102 then(zax.j1 k x3 (x3==102)) else(zax.j1 k x3 (x3==70)))
def zax.j1:Nat→Int→Bool→Option (Int)
 |0,_,_=>none
 |k+1,x3,x7=>if x7=true then(some 2) else(if x3=103 then(zax.j2 k x3 (x3==103)) else(if x3=71 then(zax.j2 k x3 (x3==71)) else(zax.j2 k x3 (x3==118))))
def zax.j2:Nat→Int→Bool→Option (Int)
 |0,_,_=>none
 |k+1,x3,A=>if A=true then(some 3) else(if x3=98 then(some 4) else(if x3=120 then(some 5) else(if x3=88 then(some 5) else(some 0))))
end
def zax.f(k:Nat)(a0:Int):Option (Int):=if a0=101 then(zax.j0 k a0 (a0==101)) else(zax.j0 k a0 (a0==69))
theorem zax.calls(k:Nat)(a0:Int)(r:Int)(w:World)(h:zax.f k a0=some r):
  Calls Tryz.prog 44 #[.int .i32 a0] w fun e w'=>e= .returned (fnW r)∧zba w w':=by
 have H:(if a0=101 then(zax.j0 k a0 (a0==101)) else(zax.j0 k a0 (a0==69)))=some r:=h
 clear h
 have ac:=zaa.mk H
 clear H
 go_enter Tryz.func44,Tryz.ntmps44
 go_upto_if 4 with(fail)
 go_cut [4] (fun v4 wc=> ∃(kq:Nat) (B:Bool),v4= .bool B∧zaa (zax.j0 kq a0 B=some r)∧zaa (kq≤k)∧zba w wc)
 case first=>
  have H:=ac.out
  clear ac
  by_cases c3:a0=101
  ·replace H:=hE H c3
   obtain⟨E,I⟩:=eT c3
   clear c3
   try first|rw[E]|rw[I]
   have H':=zaa.mk H
   clear H
   go_wp2
   go_meet
   case rel=>exact⟨_,((a0==101)),rz,H',⟨by first|omega|exact Nat.le_refl _⟩,dr⟩
  replace H:=hN H c3
  obtain⟨E,I⟩:=eF c3
  try first|rw[E]|rw[I]
  have H':=zaa.mk H
  clear H
  go_wp2
  go_meet
  case rel=>exact⟨_,((a0==69)),rz,H',⟨by first|omega|exact Nat.le_refl _⟩,dr⟩
 case rest=>
  clear ac
  obtain⟨kq,B,rfl,HA,J,⟨au,rfl⟩⟩:=hcut
  cases kq with
  |zero=>exact absurd HA.out (by simp[zax.j0])
  |succ ao=>
   have H:=HA.out
   clear HA
   simp only[zax.j0] at H
   by_cases c4:B=true
   ·subst c4
    replace H:=hT H
    obtain rfl:=Option.some.inj H
    go_wp2
    go_ret
    exact⟨rd2,dr⟩
   replace c4:=Bool.eq_false_iff.mpr c4
   subst c4
   replace H:=hF H
   have ad:=zaa.mk H
   clear H
   go_upto_if 7 with(fail)
   go_cut [7] (fun v7 wc=> ∃(kq:Nat) (D:Bool),v7= .bool D∧zaa (zax.j1 kq a0 D=some r)∧zaa (kq≤ao)∧zba w wc)
   case first=>
    have H:=ad.out
    clear ad
    by_cases c6:a0=102
    ·replace H:=hE H c6
     obtain⟨K,M⟩:=eT c6
     clear c6
     try first|rw[K]|rw[M]
     have H':=zaa.mk H
     clear H
     go_wp2
     go_meet
     case rel=>exact⟨_,((a0==102)),rz,H',⟨by have:=J.out;first|omega|exact Nat.le_refl _⟩,dr⟩
    replace H:=hN H c6
    obtain⟨K,M⟩:=eF c6
    try first|rw[K]|rw[M]
    have H':=zaa.mk H
    clear H
    go_wp2
    go_meet
    case rel=>exact⟨_,((a0==70)),rz,H',⟨by have:=J.out;first|omega|exact Nat.le_refl _⟩,dr⟩
   case rest=>
    clear ad
    try clear c4
    obtain⟨kq,D,rfl,HA,ae,⟨av,rfl⟩⟩:=hcut
    cases kq with
    |zero=>exact absurd HA.out (by simp[zax.j1])
    |succ ap=>
     have H:=HA.out
     clear HA
     simp only[zax.j1] at H
     by_cases c7:D=true
     ·subst c7
      replace H:=hT H
      obtain rfl:=Option.some.inj H
      go_wp2
      go_ret
      exact⟨rd2,dr⟩
     replace c7:=Bool.eq_false_iff.mpr c7
     subst c7
     replace H:=hF H
     have af:=zaa.mk H
     clear H
     go_upto_if 10 with(fail)
     go_cut [10] (fun ar wc=> ∃(kq:Nat) (A:Bool),ar= .bool A∧zaa (zax.j2 kq a0 A=some r)∧zaa (kq≤ap)∧zba w wc)
     case first=>
      have H:=af.out
      clear af
      by_cases c9:a0=103
      ·replace H:=hE H c9
       obtain⟨O,U⟩:=eT c9
       clear c9
       try first|rw[O]|rw[U]
       have H':=zaa.mk H
       clear H
       go_wp2
       go_meet
       case rel=>exact⟨_,((a0==103)),rz,H',⟨by have:=J.out;have:=ae.out;first|omega|exact Nat.le_refl _⟩,dr⟩
      replace H:=hN H c9
      obtain⟨O,U⟩:=eF c9
      try first|rw[O]|rw[U]
      by_cases X:a0=71
      ·replace H:=hE H X
       obtain⟨ag,ah⟩:=eT X
       clear X
       have H':=zaa.mk H
       clear H
       go_wp2
       go_meet
       case rel=>exact⟨_,((a0==71)),rz,H',⟨by have:=J.out;have:=ae.out;first|omega|exact Nat.le_refl _⟩,dr⟩
      replace H:=hN H X
      obtain⟨ag,ah⟩:=eF X
      have H':=zaa.mk H
      clear H
      go_wp2
      go_meet
      case rel=>exact⟨_,((a0==118)),rz,H',⟨by have:=J.out;have:=ae.out;first|omega|exact Nat.le_refl _⟩,dr⟩
     case rest=>
      clear af
      try clear c4
      try clear c7
      obtain⟨kq,A,rfl,HA,aw,⟨ax,rfl⟩⟩:=hcut
      cases kq with
      |zero=>exact absurd HA.out (by simp[zax.j2])
      |succ ay=>
       have H:=HA.out
       clear HA
       simp only[zax.j2] at H
       by_cases ab:A=true
       ·subst ab
        replace H:=hT H
        obtain rfl:=Option.some.inj H
        go_wp2
        go_ret
        exact⟨rd2,dr⟩
       replace ab:=Bool.eq_false_iff.mpr ab
       subst ab
       replace H:=hF H
       by_cases Y:a0=98
       ·replace H:=hE H Y
        obtain⟨ai,aj⟩:=eT Y
        clear Y
        obtain rfl:=Option.some.inj H
        go_wp2
        go_ret
        exact⟨rd2,dr⟩
       replace H:=hN H Y
       obtain⟨ai,aj⟩:=eF Y
       by_cases Z:a0=120
       ·replace H:=hE H Z
        obtain⟨ak,al⟩:=eT Z
        clear Z
        obtain rfl:=Option.some.inj H
        go_wp2
        go_ret
        exact⟨rd2,dr⟩
       replace H:=hN H Z
       obtain⟨ak,al⟩:=eF Z
       by_cases aa:a0=88
       ·replace H:=hE H aa
        obtain⟨am,an⟩:=eT aa
        clear aa
        obtain rfl:=Option.some.inj H
        go_wp2
        go_ret
        exact⟨rd2,dr⟩
       replace H:=hN H aa
       obtain⟨am,an⟩:=eF aa
       obtain rfl:=Option.some.inj H
       go_wp2
       go_ret
       exact⟨rd2,dr⟩
end
end Go.Proofs.YtecpgdfnamkfdaaGreatDoor.Fn
end
section
namespace Go.Proofs.YtecpgdfnamkfdaaGreatDoor.Fn
open Go.RowKit Go.Proofs.YtecpgdfnamkfdaaGreatDoorW.PrintWords
set_option linter.unusedVariables false
theorem strings_CutPrefix.quiet(a0 a1:ByteArray)(r1:ByteArray)(r2:Bool)(w:World)(h:strings_CutPrefix.f a0 a1=some (r1,r2)):
    Calls Tryz.prog 58 #[.string a0,.string a1] w fun e w'=>e= .returned (.tuple #[.string r1,.bool r2])∧zba w w':=by
  unfold strings_CutPrefix.f at h
  simp only[Option.some.injEq,Prod.mk.injEq] at h
  obtain⟨rfl,rfl⟩:=h
  refine(Tryz.strings_CutPrefix a0 a1 w).mono ?_
  rintro e w' ⟨rfl,rfl⟩
  exact⟨rfl,zba.refl _⟩
theorem strings_CutSuffix.quiet(a0 a1:ByteArray)(r1:ByteArray)(r2:Bool)(w:World)(h:strings_CutSuffix.f a0 a1=some (r1,r2)):
    Calls Tryz.prog 59 #[.string a0,.string a1] w fun e w'=>e= .returned (.tuple #[.string r1,.bool r2])∧zba w w':=by
  unfold strings_CutSuffix.f at h
  split at h
  · rename_i hc
    simp only[Option.some.injEq,Prod.mk.injEq] at h
    obtain⟨rfl,rfl⟩:=h
    refine(Tryz.strings_CutSuffix a0 a1 w hc).mono ?_
    rintro e w' ⟨rfl,rfl⟩
    exact⟨rfl,zba.refl _⟩
  · cases h
theorem strings_IndexByte.quiet(a0:ByteArray)(a1:Int)(r:Int)(w:World)(h:strings_IndexByte.f a0 a1=some r):
    Calls Tryz.prog 60 #[.string a0,.int .u8 a1] w fun e w'=>e= .returned (.int .i64 r)∧zba w w':=by
  obtain rfl:=Option.some.inj h
  refine(Tryz.strings_IndexByte a0 a1 w).mono ?_
  rintro e w' ⟨rfl,rfl⟩
  exact⟨rfl,zba.refl _⟩
end Go.Proofs.YtecpgdfnamkfdaaGreatDoor.Fn
end
section
namespace Go.Proofs.YtecpgdfnamkfdaaGreatDoor.Fn
open Go.RowKit Go.Proofs.YtecpgdfnamkfdaaGreatDoorW.PrintWords Go.Proofs.YtecpgdfnamkfdaaGreatDoorW.PrintLast Go.Proofs.YtecpgdfnamkfdaaGreatDoorW.PrintMore
set_option linter.unusedVariables false
set_option linter.unusedSimpArgs false
set_option maxHeartbeats 8000000
set_option maxRecDepth 100000
section
attribute [local go_sem] fnW_0 fnW_1 fnW_2 fnW_3 fnW_4 fnW_5 fnW_guard fnW_eql zaD zaE zaI zaJ
mutual
def zal.j0:Nat→ByteArray→Bool→Option (ByteArray×ByteArray×Bool)
 |0,_,_=>none
 |k+1,x0,A=>if A=true then(some ((⟨#[]⟩:ByteArray),(⟨#[]⟩:ByteArray),false)) else(zal.l0 k x0 0 (wrap64 ((x0.size:Int)-1)))
def zal.l0:Nat→ByteArray→Int→Int→Option (ByteArray×ByteArray×Bool)
 |0,_,_,_=>none
 |k+1,x0,x7,x8=>if x8>0 then(if 0≤x8 then(if x8<(x0.size:Int) then(if(bt x0 x8)=43 then(zal.j2 k x0 x7 x8 ((bt x0 x8)==43)) else(zal.j2 k x0 x7 x8 ((bt x0 x8)==45))) else(none)) else(none)) else(if x7=0 then(some ((⟨#[]⟩:ByteArray),(⟨#[]⟩:ByteArray),false)) else(if 0≤x7 then(if x7≤(x0.size:Int) then(some (x0.extract 0 (x7:Int).toNat,x0.extract (x7:Int).toNat x0.size,true)) else(none)) else(none)))
def zal.j2:Nat→ByteArray→Int→Int→Bool→Option (ByteArray×ByteArray×Bool)
 |0,_,_,_,_=>none
 |k+1,x0,x7,x8,B=>if B=true then(if 0≤(wrap64 (x8-1)) then(if(wrap64 (x8-1))<(x0.size:Int) then((strings_IndexByte.f (⟨#[101,69,112,80]⟩:ByteArray) (bt x0 (wrap64 (x8-1)))).bind fun A=>(if A<0 then(if x8=0 then(some ((⟨#[]⟩:ByteArray),(⟨#[]⟩:ByteArray),false)) else(if 0≤x8 then(if x8≤(x0.size:Int) then(some (x0.extract 0 (x8:Int).toNat,x0.extract (x8:Int).toNat x0.size,true)) else(none)) else(none))) else(zal.l0 k x0 x7 (wrap64 (x8-1))))) else(none)) else(none)) else(zal.l0 k x0 x7 (wrap64 (x8-1)))
end
def zal.f(k:Nat)(a0:ByteArray):Option (ByteArray×ByteArray×Bool):=(strings_CutPrefix.f a0 (⟨#[40]⟩:ByteArray)).bind fun B=>((strings_CutSuffix.f B.1 (⟨#[105,41]⟩:ByteArray)).bind fun A=>(if B.2=true then(zal.j0 k A.1 (!A.2)) else(zal.j0 k A.1 true)))
theorem zal.calls(k:Nat)(a0:ByteArray)(r1:ByteArray)(r2:ByteArray)(r3:Bool)(w:World)(h:zal.f k a0=some (r1,r2,r3)):
  Calls Tryz.prog 39 #[.string a0] w fun e w'=>e= .returned (.tuple #[.string r1,.string r2,.bool r3])∧zba w w':=by
 have H:((strings_CutPrefix.f a0 (⟨#[40]⟩:ByteArray)).bind fun ac=>((strings_CutSuffix.f ac.1 (⟨#[105,41]⟩:ByteArray)).bind fun M=>(if ac.2=true then(zal.j0 k M.1 (!M.2)) else(zal.j0 k M.1 true))))=some (r1,r2,r3):=h
 clear h
 replace H:=bs H
 obtain⟨⟨E,O⟩,A2,H⟩:=H
 dsimp only at H
 replace H:=bs H
 obtain⟨⟨A,U⟩,A3,H⟩:=H
 dsimp only at H
 have ar:=zaa.mk H
 clear H
 go_enter Tryz.func39,Tryz.ntmps39
 go_wp2
 go_step3
 go_upto_region 3 with(first|(go_at_call 58;(with_reducible refine(strings_CutPrefix.quiet a0 (⟨#[40]⟩:ByteArray) E O _ A2.out).mono ?_);rintro e w' ⟨rfl,⟨nd,rfl⟩⟩;(try exact dw))|(go_at_call 59;(with_reducible refine(strings_CutSuffix.quiet E (⟨#[105,41]⟩:ByteArray) A U _ A3.out).mono ?_);rintro e w' ⟨rfl,⟨nd,rfl⟩⟩;(try exact dw)))
 repeat(go_quiet (first|(go_at_call 58;(with_reducible refine(strings_CutPrefix.quiet a0 (⟨#[40]⟩:ByteArray) E O _ A2.out).mono ?_);rintro e w' ⟨rfl,⟨nd,rfl⟩⟩;(try exact dw))|(go_at_call 59;(with_reducible refine(strings_CutSuffix.quiet E (⟨#[105,41]⟩:ByteArray) A U _ A3.out).mono ?_);rintro e w' ⟨rfl,⟨nd,rfl⟩⟩;(try exact dw)));go_upto_region 3 with(first|(go_at_call 58;(with_reducible refine(strings_CutPrefix.quiet a0 (⟨#[40]⟩:ByteArray) E O _ A2.out).mono ?_);rintro e w' ⟨rfl,⟨nd,rfl⟩⟩;(try exact dw))|(go_at_call 59;(with_reducible refine(strings_CutSuffix.quiet E (⟨#[105,41]⟩:ByteArray) A U _ A3.out).mono ?_);rintro e w' ⟨rfl,⟨nd,rfl⟩⟩;(try exact dw))))
 (try simp only[Act.put,List.setIfInBounds_toArray,List.set_cons_zero,List.set_cons_succ])
 go_cut [24] (fun aJ wc=> ∃(kq:Nat) (X:Bool),aJ= .bool X∧zaa (zal.j0 kq A X=some (r1,r2,r3))∧zaa (kq≤k)∧zba w wc)
 case first=>
  have H:=ar.out
  clear ar
  by_cases c5:O=true
  ·subst c5
   replace H:=hT H
   have H':=zaa.mk H
   clear H
   go_wp2
   repeat(go_quiet (fail);try go_wp2)
   go_meet
   case rel=>exact⟨_,(!U),rz,H',⟨by first|omega|exact Nat.le_refl _⟩,dr⟩
  replace c5:=Bool.eq_false_iff.mpr c5
  subst c5
  replace H:=hF H
  have H':=zaa.mk H
  clear H
  go_wp2
  repeat(go_quiet (fail);try go_wp2)
  go_meet
  case rel=>exact⟨_,(true),rz,H',⟨by first|omega|exact Nat.le_refl _⟩,dr⟩
 case rest=>
  clear ar
  obtain⟨kq,X,rfl,HA,ae,⟨a2,rfl⟩⟩:=hcut
  cases kq with
  |zero=>exact absurd HA.out (by simp[zal.j0])
  |succ aA=>
   have H:=HA.out
   clear HA
   simp only[zal.j0] at H
   by_cases c6:X=true
   ·subst c6
    replace H:=hT H
    obtain⟨rfl,rfl,rfl⟩:=o3 H
    go_wp2
    repeat(go_quiet (fail);try go_wp2)
    (try rw[Exit.noGoto_ret])
    go_ret3
    exact⟨rd2,dr⟩
   replace c6:=Bool.eq_false_iff.mpr c6
   subst c6
   replace H:=hF H
   have H':=zaa.mk H
   clear H
   go_wp2
   go_step3
   go_wp2
   repeat(go_quiet (fail);try go_wp2)
   go_loopg [7,8] aA (fun kq v7 v8 w'=> ∃(D:Int) (B:Int),v7= .int .i64 D∧v8= .int .i64 B∧zaa (zal.l0 kq A D B=some (r1,r2,r3))∧zaa (kq≤aA)∧zba w w')
   case atStart=>exact⟨(0),(wrap64 ((A.size:Int)-1)),rz,rz,H',⟨Nat.le_refl _⟩,dr⟩
   case round=>
    clear H'
    try clear c6
    obtain⟨D,B,rfl,rfl,HA,af,⟨m2,rfl⟩⟩:=hrel
    cases gk with
    |zero=>exact absurd HA.out (by simp[zal.l0])
    |succ k2=>
     have H:=HA.out
     clear HA
     simp only[zal.l0] at H
     by_cases c7:B>0
     case neg=>
      replace H:=hN H c7
      have ao:decide (0<B)=false:=decide_eq_false c7
      clear c7
      by_cases ak:D=0
      ·replace H:=hE H ak
       obtain⟨ax,ay⟩:=eT ak
       clear ak
       obtain⟨rfl,rfl,rfl⟩:=o3 H
       go_wp2
       repeat(go_quiet (fail);try go_wp2)
       (try rw[Exit.noGoto_ret])
       go_ret3
       exact⟨rd2,dr⟩
      replace H:=hN H ak
      obtain⟨ax,ay⟩:=eF ak
      by_cases az:0≤D
      ·obtain⟨aT,aU,H⟩:=hE3 H az
       clear az
       obtain⟨aV,aW,H⟩:=hG3 H
       have aX:=eq_true (od:0≤D)
       have aY:=eq_true (od:D≤(A.size:Int))
       obtain⟨rfl,rfl,rfl⟩:=o3 H
       go_wp2
       repeat(go_quiet (fail);try go_wp2)
       (try rw[Exit.noGoto_ret])
       go_ret3
       exact⟨rd2,dr⟩
      replace H:=hN H az
      exact absurd H (by simp)
     replace H:=hE H c7
     have ao:decide (0<B)=true:=decide_eq_true c7
     clear c7
     obtain⟨c8,H⟩:=hG H
     have aB:=decide_eq_true c8
     clear c8
     obtain⟨c9,H⟩:=hG H
     have aC:=decide_eq_true c9
     clear c9
     have ah:=zaa.mk H
     clear H
     have al:0≤(B:Int):=od
     have am:B<(A.size:Int):=od
     have aD:=zd2 A B
     replace al:=eq_true al
     replace am:=eq_true am
     go_upto_if 35 with(fail)
     repeat(go_quiet (fail);go_upto_if 35 with(fail))
     go_cut [35] (fun aK wc=> ∃(kq:Nat) (K:Bool),aK= .bool K∧zaa (zal.j2 kq A D B K=some (r1,r2,r3))∧zaa (kq≤k2)∧zba w wc)
     case first=>
      have H:=ah.out
      clear ah
      by_cases ai:(bt A B)=43
      ·replace H:=hE H ai
       obtain⟨Z,aa⟩:=eT ai
       clear ai
       try first|rw[Z]|rw[aa]
       have H':=zaa.mk H
       clear H
       go_wp2
       repeat(go_quiet (fail);try go_wp2)
       go_meet
       case rel=>exact⟨_,(((bt A B)==43)),rz,H',⟨by have:=ae.out;have:=af.out;first|omega|exact Nat.le_refl _⟩,dr⟩
      replace H:=hN H ai
      obtain⟨Z,aa⟩:=eF ai
      try first|rw[Z]|rw[aa]
      have H':=zaa.mk H
      clear H
      go_wp2
      repeat(go_quiet (fail);try go_wp2)
      go_meet
      case rel=>exact⟨_,(((bt A B)==45)),rz,H',⟨by have:=ae.out;have:=af.out;first|omega|exact Nat.le_refl _⟩,dr⟩
     case rest=>
      clear ah
      try clear c6
      try clear c7
      try clear ao
      try clear c8
      try clear aB
      try clear c9
      try clear aC
      try clear al
      try clear am
      try clear aD
      try clear al
      try clear am
      obtain⟨kq,K,rfl,HA,ad,⟨aZ,rfl⟩⟩:=hcut
      cases kq with
      |zero=>exact absurd HA.out (by simp[zal.j2])
      |succ ap=>
       have H:=HA.out
       clear HA
       simp only[zal.j2] at H
       by_cases an:K=true
       case neg=>
        replace an:=Bool.eq_false_iff.mpr an
        subst an
        replace H:=hF H
        have H':=zaa.mk H
        clear H
        go_wp2
        repeat(go_quiet (fail);try go_wp2)
        go_roundg ap
        case measure=>have:=ae.out;have:=af.out;have:=ad.out;omega
        case rel=>exact⟨(D),(wrap64 (B-1)),rz,rz,H',⟨by have:=ae.out;have:=af.out;have:=ad.out;omega⟩,dr⟩
       subst an
       replace H:=hT H
       obtain⟨J,I⟩:=ex (wrap64 (B-1))
       (first|rw[I] at H|simp only[I] at H)
       have aI:(IntKind.i64.wrap (B-1))=J:=(zar _).trans I
       obtain⟨aE,H⟩:=hG H
       have aL:=decide_eq_true aE
       clear aE
       obtain⟨aF,H⟩:=hG H
       have aM:=decide_eq_true aF
       clear aF
       replace H:=bs H
       obtain⟨Y,au,H⟩:=H
       have aG:0≤((J):Int):=od
       have aH:(J)<(A.size:Int):=od
       have a1:=zd2 A (J)
       replace aG:=eq_true aG
       replace aH:=eq_true aH
       go_upto_if 43 with(first|(go_at_call 60;(with_reducible refine(strings_IndexByte.quiet (⟨#[101,69,112,80]⟩:ByteArray) (bt A (J)) Y _ au.out).mono ?_);rintro e w' ⟨rfl,⟨nd,rfl⟩⟩;(try exact dw)))
       repeat(go_quiet (first|(go_at_call 60;(with_reducible refine(strings_IndexByte.quiet (⟨#[101,69,112,80]⟩:ByteArray) (bt A (J)) Y _ au.out).mono ?_);rintro e w' ⟨rfl,⟨nd,rfl⟩⟩;(try exact dw)));go_upto_if 43 with(first|(go_at_call 60;(with_reducible refine(strings_IndexByte.quiet (⟨#[101,69,112,80]⟩:ByteArray) (bt A (J)) Y _ au.out).mono ?_);rintro e w' ⟨rfl,⟨nd,rfl⟩⟩;(try exact dw))))
       (try simp only[Act.put,List.setIfInBounds_toArray,List.set_cons_zero,List.set_cons_succ])
       by_cases ag:Y<0
       case neg=>
        replace H:=hN H ag
        have ab:=decide_eq_false ag
        clear ag
        try rw[ab]
        have H':=zaa.mk H
        clear H
        go_wp2
        repeat(go_quiet (fail);try go_wp2)
        go_roundg ap
        case measure=>have:=ae.out;have:=af.out;have:=ad.out;omega
        case rel=>exact⟨(D),(J),rz,(by first|rfl|(simp;done)|(simp only[←I]<;>(first|rfl|simp))|(simp[*];done)),H',⟨by have:=ae.out;have:=af.out;have:=ad.out;omega⟩,dr⟩
       replace H:=hE H ag
       have ab:=decide_eq_true ag
       clear ag
       try rw[ab]
       by_cases aj:B=0
       ·replace H:=hE H aj
        obtain⟨av,aw⟩:=eT aj
        clear aj
        obtain⟨rfl,rfl,rfl⟩:=o3 H
        go_wp2
        repeat(go_quiet (fail);try go_wp2)
        (try rw[Exit.noGoto_ret])
        go_ret3
        exact⟨by first|rfl|(simp;done)|(simp only[←I]<;>(first|rfl|simp))|(simp[*];done),dr⟩
       replace H:=hN H aj
       obtain⟨av,aw⟩:=eF aj
       obtain⟨aN,aO,H⟩:=hG3 H
       obtain⟨aP,aQ,H⟩:=hG3 H
       have aR:=eq_true (od:0≤B)
       have aS:=eq_true (od:B≤(A.size:Int))
       obtain⟨rfl,rfl,rfl⟩:=o3 H
       go_wp2
       repeat(go_quiet (fail);try go_wp2)
       (try rw[Exit.noGoto_ret])
       go_ret3
       exact⟨by first|rfl|(simp;done)|(simp only[←I]<;>(first|rfl|simp))|(simp[*];done),dr⟩
end
end Go.Proofs.YtecpgdfnamkfdaaGreatDoor.Fn
end
