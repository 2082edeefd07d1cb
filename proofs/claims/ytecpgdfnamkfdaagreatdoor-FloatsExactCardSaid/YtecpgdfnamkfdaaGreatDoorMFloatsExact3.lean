/- The law FloatsExact: the walks through its functions and its plain law (part 3). Own texts and the kit's printed words for this seat, without what the law does not use: put together by merge.py (of this work). -/
import Derived.Test.YtecpgdfnamkfdaaGreatDoorMFloatsExact2
section
namespace Go.Proofs.YtecpgdfnamkfdaaGreatDoor.Fn
open Go.RowKit Go.Proofs.YtecpgdfnamkfdaaGreatDoorW.PrintWords Go.Proofs.YtecpgdfnamkfdaaGreatDoorW.PrintLast Go.Proofs.YtecpgdfnamkfdaaGreatDoorW.PrintMore
set_option linter.unusedVariables false
set_option linter.unusedSimpArgs false
set_option maxHeartbeats 8000000
set_option maxRecDepth 100000
section
attribute [local go_sem] fnW_0 fnW_1 fnW_2 fnW_3 fnW_4 fnW_5 fnW_guard fnW_eql zaF zaG zaK zaL
def za8.f(a0:Int)(a1:Int):Option (Int):=if 0≤(wrap64 (a1-1)) then(if a1=32 then(if(Go.bits .and .u64 a0 (IntKind.u64.wrap ((shl .u64 1 (wrap64 (a1-1)))-1)))≥2139095040 then(some (IntKind.u64.wrap ((Go.bits .and .u64 a0 (IntKind.u64.wrap ((shl .u64 1 (wrap64 (a1-1)))-1)))-2139095040))) else(some (Go.bits .and .u64 a0 (IntKind.u64.wrap ((shl .u64 1 (wrap64 (a1-1)))-1))))) else(if(Go.bits .and .u64 a0 (IntKind.u64.wrap ((shl .u64 1 (wrap64 (a1-1)))-1)))≥9218868437227405312 then(some (IntKind.u64.wrap ((Go.bits .and .u64 a0 (IntKind.u64.wrap ((shl .u64 1 (wrap64 (a1-1)))-1)))-9218868437227405312))) else(some (Go.bits .and .u64 a0 (IntKind.u64.wrap ((shl .u64 1 (wrap64 (a1-1)))-1)))))) else(none)
theorem za8.calls(a0:Int)(a1:Int)(r:Int)(w:World)(h:za8.f a0 a1=some r):
  Calls Tryz.prog 28 #[.int .u64 a0,.int .i64 a1] w fun e w'=>e= .returned (.int .u64 r)∧zbE w w':=by
 have H:(if 0≤(wrap64 (a1-1)) then(if a1=32 then(if(Go.bits .and .u64 a0 (IntKind.u64.wrap ((shl .u64 1 (wrap64 (a1-1)))-1)))≥2139095040 then(some (IntKind.u64.wrap ((Go.bits .and .u64 a0 (IntKind.u64.wrap ((shl .u64 1 (wrap64 (a1-1)))-1)))-2139095040))) else(some (Go.bits .and .u64 a0 (IntKind.u64.wrap ((shl .u64 1 (wrap64 (a1-1)))-1))))) else(if(Go.bits .and .u64 a0 (IntKind.u64.wrap ((shl .u64 1 (wrap64 (a1-1)))-1)))≥9218868437227405312 then(some (IntKind.u64.wrap ((Go.bits .and .u64 a0 (IntKind.u64.wrap ((shl .u64 1 (wrap64 (a1-1)))-1)))-9218868437227405312))) else(some (Go.bits .and .u64 a0 (IntKind.u64.wrap ((shl .u64 1 (wrap64 (a1-1)))-1)))))) else(none))=some r:=h
 clear h
 obtain⟨E,B⟩:=ex (wrap64 (a1-1))
 (first|rw[B] at H|simp only[B] at H)
 have X:(IntKind.i64.wrap (a1-1))=E:=(zap _).trans B
 by_cases c4:0≤(E)
 case neg=>
  replace H:=hN H c4
  exact absurd H (by simp)
 obtain⟨aa,ab,H⟩:=hE3 H c4
 clear c4
 obtain⟨D,A⟩:=ex (shl .u64 1 (E))
 (first|rw[A] at H|simp only[A] at H)
 have I:(IntKind.u64.wrap (1*2^min (E).toNat 64))=D:=A
 have J:(E)≤64→(IntKind.u64.wrap (1*2^(E).toNat))=D:=zbA A
 have Y:(IntKind.u64.wrap (2^min (E).toNat 64))=D:=by have h_:=I;rw[Int.one_mul] at h_;exact h_
 have Z:(E)≤64→(IntKind.u64.wrap (2^(E).toNat))=D:=fun hle_=>by have h_:=J hle_;rw[Int.one_mul] at h_;exact h_
 by_cases c6:a1=32
 ·replace H:=hE H c6
  obtain⟨K,M⟩:=eT c6
  clear c6
  by_cases c7:(Go.bits .and .u64 a0 (IntKind.u64.wrap ((D)-1)))≥2139095040
  ·replace H:=hE H c7
   have O:decide (2139095040≤(Go.bits .and .u64 a0 (IntKind.u64.wrap ((D)-1))))=true:=decide_eq_true c7
   clear c7
   obtain rfl:=Option.some.inj H
   go_enter Tryz.func28,Tryz.ntmps28
   go_wp2
   go_ret
   exact⟨by first|rfl|(simp;done)|(simp only[←B,←A]<;>(first|rfl|simp))|(simp[*];done),dr⟩
  replace H:=hN H c7
  have O:decide (2139095040≤(Go.bits .and .u64 a0 (IntKind.u64.wrap ((D)-1))))=false:=decide_eq_false c7
  clear c7
  obtain rfl:=Option.some.inj H
  go_enter Tryz.func28,Tryz.ntmps28
  go_wp2
  go_ret
  exact⟨by first|rfl|(simp;done)|(simp only[←B,←A]<;>(first|rfl|simp))|(simp[*];done),dr⟩
 replace H:=hN H c6
 obtain⟨K,M⟩:=eF c6
 by_cases c8:(Go.bits .and .u64 a0 (IntKind.u64.wrap ((D)-1)))≥9218868437227405312
 ·replace H:=hE H c8
  have U:decide (9218868437227405312≤(Go.bits .and .u64 a0 (IntKind.u64.wrap ((D)-1))))=true:=decide_eq_true c8
  clear c8
  obtain rfl:=Option.some.inj H
  go_enter Tryz.func28,Tryz.ntmps28
  go_wp2
  go_ret
  exact⟨by first|rfl|(simp;done)|(simp only[←B,←A]<;>(first|rfl|simp))|(simp[*];done),dr⟩
 replace H:=hN H c8
 have U:decide (9218868437227405312≤(Go.bits .and .u64 a0 (IntKind.u64.wrap ((D)-1))))=false:=decide_eq_false c8
 clear c8
 obtain rfl:=Option.some.inj H
 go_enter Tryz.func28,Tryz.ntmps28
 go_wp2
 go_ret
 exact⟨by first|rfl|(simp;done)|(simp only[←B,←A]<;>(first|rfl|simp))|(simp[*];done),dr⟩
def zbd.f(A:Bool)(B:Bool)(D:Bool)(E:Bool)(I:Bool)(J:Int)(K:Int)(M:Int)(a1:Int)(a2:ByteArray):Option (Bool×Bool×Bool×Bool×Bool×Int×Int×Int):=if(IntKind.u64.wrap ((a2.size:Int)))=0 then(none) else(if 0≤(wrap64 (Int.tmod a1 (IntKind.u64.wrap ((a2.size:Int))))) then(if(wrap64 (Int.tmod a1 (IntKind.u64.wrap ((a2.size:Int)))))<(a2.size:Int) then(some (A,B,D,E,I,J,K,wrap32 (bt a2 (wrap64 (Int.tmod a1 (IntKind.u64.wrap ((a2.size:Int)))))))) else(none)) else(none))
theorem zbd.calls(A:Bool)(B:Bool)(D:Bool)(E:Bool)(I:Bool)(J:Int)(K:Int)(Z:Int)(a1:Int)(a2:ByteArray)(r1:Bool)(r2:Bool)(r3:Bool)(r4:Bool)(r5:Bool)(r6:Int)(r7:Int)(r8:Int)(w:World)(h:zbd.f A B D E I J K Z a1 a2=some (r1,r2,r3,r4,r5,r6,r7,r8)):
  Calls Tryz.prog 22 #[.agg #[.bool A,.bool B,.bool D,.bool E,.bool I,.int .i64 J,.int .i64 K,.int .i32 Z],.int .u64 a1,.string a2] w fun e w'=>e= .returned (.agg #[.bool r1,.bool r2,.bool r3,.bool r4,.bool r5,.int .i64 r6,.int .i64 r7,.int .i32 r8])∧Below w.heap.size w w':=by
 have aS:=Tryz.underlying26
 have HB:=zaa.mk (Below.refl w.heap.size w)
 have H:(if(IntKind.u64.wrap ((a2.size:Int)))=0 then(none) else(if 0≤(wrap64 (Int.tmod a1 (IntKind.u64.wrap ((a2.size:Int))))) then(if(wrap64 (Int.tmod a1 (IntKind.u64.wrap ((a2.size:Int)))))<(a2.size:Int) then(some (A,B,D,E,I,J,K,wrap32 (bt a2 (wrap64 (Int.tmod a1 (IntKind.u64.wrap ((a2.size:Int)))))))) else(none)) else(none)))=some (r1,r2,r3,r4,r5,r6,r7,r8):=h
 clear h
 by_cases c4:(IntKind.u64.wrap ((a2.size:Int)))=0
 ·replace H:=hE H c4
  exact absurd H (by simp)
 replace H:=hN H c4
 obtain⟨aT,aU⟩:=eF c4
 obtain⟨Y,X⟩:=ex (wrap64 (Int.tmod a1 (IntKind.u64.wrap ((a2.size:Int)))))
 (first|rw[X] at H|simp only[X] at H)
 have aN:(IntKind.i64.wrap (Int.tmod a1 (IntKind.u64.wrap ((a2.size:Int)))))=Y:=(zap _).trans X
 by_cases c6:0≤(Y)
 ·replace H:=hE H c6
  have aV:=decide_eq_true c6
  clear c6
  obtain⟨c7,H⟩:=hG H
  have aW:=decide_eq_true c7
  clear c7
  simp only[Option.some.injEq,Prod.mk.injEq] at H
  obtain⟨rfl,rfl,rfl,rfl,rfl,rfl,rfl,rfl⟩:=H
  go_enter Tryz.func22,Tryz.ntmps22
  go_wp2_with (first|((with_reducible refine zah (N:=3) rfl ?_);refine zag rfl (N:=3) rfl (cs:=#[.bool A,.bool B,.bool D,.bool E,.bool I,.int .i64 J,.int .i64 K,.int .i32 Z]) (t:=26) gz ?_;intro M hg w9 hbox hb;have aO:=gN bz hg;have aa:=zaa.mk hbox;replace HB:=bN bz hb;clear hb hbox hg)|((with_reducible refine zah (N:=6) rfl ?_);refine zag rfl (N:=6) rfl (cs:=#[.bool false,.bool false,.bool false,.bool false,.bool false,.int .i64 0,.int .i64 0,.int .i32 0]) (t:=26) gz ?_;intro ab hg ad hbox hb;have aP:=gN bz hg;have O:=lN (g:=M) hg bk;have U:=rN (g:=M) hg bk;replace aa:=kN (g:=M) hb bk;have ac:=zaa.mk hbox;replace HB:=bN bz hb;clear hb hbox hg;have p8:0≤((Y):Int):=of_decide_eq_true (by first|(with_reducible assumption)|assumption);have q8:(Y)<(a2.size:Int):=of_decide_eq_true (by first|(with_reducible assumption)|assumption);have aX:=za5 a2 (Y);replace p8:=eq_true p8;replace q8:=eq_true q8;have aQ:=O.out;have aR:=U.out;obtain⟨ae,af,ag,ah,ai,aj,ak,al,am,an,ao,ap,ar,au,av,aw⟩:=cz8 (W:=ad) aa;obtain⟨ax,ay,az,aA,aB,aC,aD,aE,aF,aG,aH,aI,aJ,aK,aL,aM⟩:=cz8 (W:=ad) ac))
  refine bodyPost_ret (results_cell_row rfl _ _ ab 26 #[.bool A,.bool B,.bool D,.bool E,.bool I,.int .i64 J,.int .i64 K,.int .i32 (wrap32 (bt a2 (Y)))] (0,0) _ rfl bk Tryz.underlying26 rfl (by kernel_rfl)) rfl ?_
  exact⟨by first|exact ez|(simp only[←X];exact ez),bz⟩
 replace H:=hN H c6
 exact absurd H (by simp)
end
end Go.Proofs.YtecpgdfnamkfdaaGreatDoor.Fn
end
