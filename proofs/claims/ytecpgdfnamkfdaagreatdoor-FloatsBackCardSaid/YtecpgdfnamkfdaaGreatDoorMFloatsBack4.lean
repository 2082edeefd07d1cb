/- The law FloatsBack: the walks through its functions and its plain law (part 4). Own texts and the kit's printed words for this seat, without what the law does not use: put together by merge.py (of this work). -/
import Derived.Test.YtecpgdfnamkfdaaGreatDoorMFloatsBack3
import Derived.Handy
section
namespace Go.Proofs.YtecpgdfnamkfdaaGreatDoor.Fn
open Go.RowKit Go.Proofs.YtecpgdfnamkfdaaGreatDoorW.PrintWords Go.Proofs.YtecpgdfnamkfdaaGreatDoorW.PrintLast Go.Proofs.YtecpgdfnamkfdaaGreatDoorW.PrintMore
set_option linter.unusedVariables false
set_option linter.unusedSimpArgs false
def zcR(x:Int):List Int:=
  [48+x / 10 / 10 / 10 / 10 / 10 / 10 / 10 / 10%10,48+x / 10 / 10 / 10 / 10 / 10 / 10 / 10%10,48+x / 10 / 10 / 10 / 10 / 10 / 10%10,48+x / 10 / 10 / 10 / 10 / 10%10,
   48+x / 10 / 10 / 10 / 10%10,48+x / 10 / 10 / 10%10,48+x / 10 / 10%10,48+x / 10%10,48+x%10]
def limbsText(l:List Int):List Int:=(l.reverse.map zcR).flatten
def zbN.f(k:Nat)(l0:List Int):Option ByteArray:=
  if l0.length≤100000∧ ∀x∈l0,0≤x∧x≤999999999 then(zaD.f k l0).bind fun l=>if l.length≤l0.length∧ ∀x∈l,0≤x∧x≤999999999 then zbh.f (strOfNums (limbsText l)) ⟨#[48]⟩ else none else none
theorem zjl:(Tryz.prog.info? 5).map (fun i=>(i.zero,i.size,i.bytes))=some (some (.int .u8 0),1,1):=by kernel_rfl
theorem zeb(l:List Int):(limbsText l).length=9*l.length:=by
  unfold limbsText
  rw[List.length_flatten,List.map_map]
  have:(List.length∘zcR)=fun _=>9:=by funext x;rfl
  rw[this,List.map_const',List.sum_replicate_nat,List.length_reverse]
  omega
theorem zgM{l:List Int}(h: ∀x∈l,0≤x∧x≤999999999)(i:Int):0≤rd l i∧rd l i≤999999999:=by
  unfold rd
  rw[List.getD_eq_getElem?_getD]
  cases hg:l[i.toNat]? with
  |none=>simp
  |some x=>exact h x (List.mem_of_getElem? hg)
theorem zgj(W:World)(x:Int)(t:TypeId):(Kd.int .u8).C (W.alloc (.cells #[.int .u8 (48+x / 10 / 10 / 10 / 10 / 10 / 10 / 10 / 10%10),.int .u8 (48+x / 10 / 10 / 10 / 10 / 10 / 10 / 10%10),.int .u8 (48+x / 10 / 10 / 10 / 10 / 10 / 10%10),.int .u8 (48+x / 10 / 10 / 10 / 10 / 10%10),.int .u8 (48+x / 10 / 10 / 10 / 10%10),.int .u8 (48+x / 10 / 10 / 10%10),.int .u8 (48+x / 10 / 10%10),.int .u8 (48+x / 10%10),.int .u8 (48+x%10)] t)) (some ⟨W.heap.size,0,none⟩) 9 (zcR x):=by
  refine Kd.C_of_reads (d:=(0:Int)) (h1:=fun _=>rfl) (⟨rfl,by decide,fun _=>⟨_,rfl,fun j hj=>?_⟩⟩:ReadsInt _ .u8 _ 9 (zcR x))
  rw[add_plain,zab (heap_alloc_new W _) j]
  rcases j with _|_|_|_|_|_|_|_|_|j
  all_goals first|rfl|omega
theorem zeK(l:List Int)(m:Nat)(h:m<l.length):limbsText (l.drop m)=limbsText (l.drop (m+1))++zcR (rd l m):=by
  unfold limbsText
  rw[List.drop_eq_getElem_cons h]
  have:rd l m=l[m]:=by simp[rd,List.getD_eq_getElem?_getD,List.getElem?_eq_getElem h]
  rw[this,List.reverse_cons,List.map_append,List.flatten_append]
  simp only[List.map_cons,List.map_nil,List.flatten_cons,List.flatten_nil,List.append_nil]
set_option maxHeartbeats 4000000 in
set_option maxRecDepth 100000 in
theorem zbN.calls(k:Nat)(A0:Option Addr)(c0:Nat)(l0:List Int)(r:ByteArray)(w:World)(A:Kd.C (Kd.int .u64) w A0 l0.length l0)(J:l0.length≤c0)(h:zbN.f k l0=some r):
    Calls Tryz.prog 48 #[.slice A0 l0.length c0] w fun e w'=>e= .returned (.string r)∧Below w.heap.size w w':=by
  unfold zbN.f at h
  split at h
  case isFalse=>cases h
  rename_i hl
  obtain⟨hlen,hpos⟩:=hl
  obtain⟨l,B,h⟩:=Option.bind_eq_some_iff.1 h
  split at h
  case isFalse=>cases h
  rename_i K
  obtain⟨hll,hlp⟩:=K
  have H1:=zaa.mk B
  have H2:=zaa.mk h
  have HR:=zaa.mk A
  have HP:=zaa.mk hlp
  clear B h A hpos hlp
  go_enter Tryz.func48,Tryz.ntmps48
  go_wp2_with (go_at_call 78;refine(zaD.calls k (fun _=>True) A0 c0 l0 l _ ⟨A0,c0,rfl,J,fun W' hW=>(Kd.heap_int .u64).C (fun k hk=>hW k trivial hk) HR.out⟩ H1.out).mono ?_;rintro e w1 ⟨v0,rfl,hV,hb⟩;obtain⟨A1,c1,rfl⟩:=Kd.V_slice hV;have HV:=zaa.mk hV;have HB:=zaa.mk hb;clear hV hb)
  have M:=zaa.mk (Kd.V_reads' HV.out).2.2
  go_loopw [3,4] (fun v i wr=> ∃j:Nat,j≤l.length∧i= .int .i64 ((j:Int)-1)∧zaa (Kd.R (Kd.int .u8) 5 wr w1.heap.size (fun _=>True) v (limbsText (l.drop j)))∧zaa (Below w1.heap.size w1 wr)) (fun _ i _=>(intOf i+1).toNat)
  case atStart=>exact⟨l.length,Nat.le_refl _,rfl,⟨by rw[List.drop_length];exact Kd.R_nil _ _ _ _ _⟩,⟨Below.refl _ _⟩⟩
  case round=>
    obtain⟨j,hj,rfl,HO,HBR⟩:=hrel
    cases j with
    |zero=>
      have hcv:=zdn (P:=Tryz.prog) (dst:=9) Tryz.underlying51 Tryz.underlying5 Tryz.underlying9 (Kd.own_of_R HO.out)
      rw[List.drop_zero] at hcv
      go_wp2_with (go_at_call 79;refine(zbh.calls (strOfNums (limbsText l)) ⟨#[48]⟩ r _ H2.out).mono ?_;rintro e w2 ⟨rfl,O⟩)
      go_ret
      exact⟨rfl,zdm (zdm HB.out HB.out.size HBR.out) (Nat.le_trans HB.out.size HBR.out.size) O⟩
    |succ m=>
      have hm:m<l.length:=hj
      obtain⟨hx,U⟩:=zgM HP.out (m:Int)
      obtain⟨ad,rfl,hcell⟩:=Kd.at_int M.out (m:Int) (by omega) (by omega)
      have hcw:wr.cell? (ad.add m)=some (.int .u64 (rd l m)):=zb3 HBR.out hcell
      have hdr:=zaa.mk (zeK l m hm)
      generalize rd l m=x at hcw hx U hdr
      rw[show(((m+1:Nat):Int)-1)=(m:Int) by omega]
      have aa:=fun o=>zb3 (zbw (Below.refl wr.heap.size wr) o) hcw
      clear hcw hcell
      have ab:Below w1.heap.size w1 wr:=HBR.out
      go_wp2
      refine wp_loop_rounds 10 ?_
      repeat any_goals(rw[rounds_succ];go_wp2_with ((with_reducible refine zdI (b:=.append) (xs:=#[.tmp 33,.tmp 34]) rfl ?_);at_builtin;refine Kd.R_append_rows (Kd.int .u8) (w0:=w1) w1.heap.size rfl (.tmp 33) (.tmp 34) 51 5 (.int .u8 0) 1 rfl Tryz.underlying51 zjl rfl (by decide) (by omega) u3 (limbsText (l.drop (m+1))) (zcR x) _ _ _ (fun _=>True) (fun _=>False) rfl rfl ?aO ?aR (fun _ _ h=>h) (fun _ h=>h.elim) (fun _ _=>trivial) ?aB ?aS ?aL ?_;(case aO=>exact Kd.R_alloc HO.out _);(case aR=>exact zgj wr x 113);(case aB=>exact HBR.out.alloc HBR.out.size _);(case aS=>have:=HBR.out.size;simp;omega);(case aL=>rw[zeb,List.length_drop];omega);intro v1 w3 D E X I;have Y:=zaa.mk D;have Z:=zaa.mk E;clear D E X I))
      go_roundw
      case rel=>exact⟨m,by omega,by go_num,⟨by rw[hdr.out];exact Y.out⟩,Z⟩
      case measure=>simp[intOf]
end Go.Proofs.YtecpgdfnamkfdaaGreatDoor.Fn
end
section
namespace Go.Proofs.YtecpgdfnamkfdaaGreatDoor.Fn
open Go.RowKit Go.Proofs.YtecpgdfnamkfdaaGreatDoorW.PrintWords Go.Proofs.YtecpgdfnamkfdaaGreatDoorW.PrintLast Go.Proofs.YtecpgdfnamkfdaaGreatDoorW.PrintMore
attribute [local go_sem] fnW_0 fnW_1 fnW_2 fnW_3 fnW_4 fnW_5 fnW_guard fnW_eql zaK zaL zaQ zaR
set_option linter.unusedVariables false
set_option linter.unusedSimpArgs false
mutual
def zaq.j0:Nat→Int→Int→Bool→Option (ByteArray×Int×Int)
 |0,_,_,_=>none
 |k+1,x0,x1,B=>if B=true then(some ((⟨#[]⟩:ByteArray),0,1)) else((some (([Int.tmod x0 1000000000,Int.tmod (IntKind.u64.wrap (Int.tdiv x0 1000000000)) 1000000000,IntKind.u64.wrap (Int.tdiv (IntKind.u64.wrap (Int.tdiv x0 1000000000)) 1000000000)]:List Int):List Int)).bind fun A=>(if x1<0 then(zaq.j1 k (wrap64 (-x1)) A 5 x1) else(zaq.j1 k x1 A 2 0)))
def zaq.j1:Nat→Int→List Int→Int→Int→Option (ByteArray×Int×Int)
 |0,_,_,_,_=>none
 |k+1,x1,x6,x7,x8=>zaq.l0 k x1 x6 x7 x8
def zaq.l0:Nat→Int→List Int→Int→Int→Option (ByteArray×Int×Int)
 |0,_,_,_,_=>none
 |k+1,x1,x6,x7,x8=>if x1≥8 then((zaN.f k x6 (IntKind.u64.wrap ((IntKind.u64.wrap ((IntKind.u64.wrap ((IntKind.u64.wrap ((IntKind.u64.wrap ((IntKind.u64.wrap ((IntKind.u64.wrap (x7*x7))*x7))*x7))*x7))*x7))*x7))*x7))).bind fun A=>(zaq.l0 k (wrap64 (x1-8)) A x7 x8)) else(zaq.l1 k x1 x6 x7 x8)
def zaq.l1:Nat→Int→List Int→Int→Int→Option (ByteArray×Int×Int)
 |0,_,_,_,_=>none
 |k+1,x1,x6,x7,x8=>if x1>0 then((zaN.f k x6 x7).bind fun D=>(zaq.l1 k (wrap64 (x1-1)) D x7 x8)) else((zbN.f k x6).bind fun B=>((zbb.f B (wrap64 ((B.size:Int)+x8))).bind fun A=>(some (A.1,A.2,0))))
end
def zaq.f(k:Nat)(a0:Int)(a1:Int):Option (ByteArray×Int×Int):=if a1<(-1200) then(zaq.j0 k a0 a1 true) else(zaq.j0 k a0 a1 (decide (a1>1200)))
set_option maxHeartbeats 8000000 in
set_option maxRecDepth 100000 in
theorem zaq.calls(k:Nat)(a0:Int)(a1:Int)(r1:ByteArray)(r2:Int)(r3:Int)(w:World)(h:zaq.f k a0 a1=some (r1,r2,r3)):
  Calls Tryz.prog 29 #[.int .u64 a0,.int .i64 a1] w fun e w'=>e= .returned (.tuple #[.agg #[.string r1,.int .i64 r2],.int .i64 r3])∧Below w.heap.size w w':=by
 have ba:=Tryz.underlying42
 have HB:=zaa.mk (Below.refl w.heap.size w)
 have H:(if a1<(-1200) then(zaq.j0 k a0 a1 true) else(zaq.j0 k a0 a1 (decide (a1>1200))))=some (r1,r2,r3):=h
 clear h
 have aI:=zaa.mk H
 clear H
 go_enter Tryz.func29,Tryz.ntmps29
 go_upto_region 1 with(first|((with_reducible refine zak (N:=4) rfl ?_);refine zaj rfl (N:=4) rfl (cs:=#[.string (⟨#[]⟩:ByteArray),.int .i64 0]) (t:=42) gz ?_;intro E hg w4 hbox hb;have ar:=gN bz hg;have A:=zaa.mk hbox;replace HB:=bN bz hb;clear hb hbox hg))
 (try simp only[Act.put,List.setIfInBounds_toArray,List.set_cons_zero,List.set_cons_succ])
 go_cut [15] (fun a3 wc=> ∃(kq:Nat) (ad:Bool),a3= .bool ad∧zaa (zaq.j0 kq a0 a1 ad=some (r1,r2,r3))∧zaa (kq≤k)∧zaa (wc.heap[E]? =some (.cells #[.string (⟨#[]⟩:ByteArray),.int .i64 0] 42 (0,0)))∧zaa (Below w.heap.size w wc))
 case first=>
  have H:=aI.out
  clear aI
  by_cases c5:a1<(-1200)
  ·replace H:=hE H c5
   have Z:=decide_eq_true c5
   clear c5
   try rw[Z]
   have H':=zaa.mk H
   clear H
   go_wp2
   go_meet
   case rel=>exact⟨_,(true),rz,H',⟨by first|omega|exact Nat.le_refl _⟩,⟨bk⟩,⟨bz⟩⟩
  replace H:=hN H c5
  have Z:=decide_eq_false c5
  clear c5
  try rw[Z]
  have H':=zaa.mk H
  clear H
  go_wp2
  go_meet
  case rel=>exact⟨_,(decide (a1>1200)),rz,H',⟨by first|omega|exact Nat.le_refl _⟩,⟨bk⟩,⟨bz⟩⟩
 case rest=>
  clear aI
  try clear c5
  try clear Z
  obtain⟨kq,ad,rfl,HA,ao,A,HB⟩:=hcut
  cases kq with
  |zero=>exact absurd HA.out (by simp[zaq.j0])
  |succ aJ=>
   have H:=HA.out
   clear HA
   simp only[zaq.j0] at H
   by_cases c6:ad=true
   ·subst c6
    replace H:=hT H
    simp only[Option.some.injEq,Prod.mk.injEq] at H
    obtain⟨rfl,rfl,rfl⟩:=H
    obtain⟨ae,af,ag,ah⟩:=cz2 (W:=wc) A
    go_wp2
    refine bodyPost_ret (zaM rfl _ _ E 42 #[.string (⟨#[]⟩:ByteArray),.int .i64 0] (0,0) _ rfl bk Tryz.underlying42 rfl (by kernel_rfl)) rfl ?_
    exact⟨ez,bz⟩
   replace c6:=Bool.eq_false_iff.mpr c6
   subst c6
   replace H:=hF H
   obtain⟨aj,aa⟩: ∃y_:List Int,y_=(([Int.tmod a0 1000000000,Int.tmod (IntKind.u64.wrap (Int.tdiv a0 1000000000)) 1000000000,IntKind.u64.wrap (Int.tdiv (IntKind.u64.wrap (Int.tdiv a0 1000000000)) 1000000000)]:List Int)):=⟨_,rfl⟩
   replace H:(if a1<0 then(zaq.j1 aJ (wrap64 (-a1)) aj 5 a1) else(zaq.j1 aJ a1 aj 2 0))=some (r1,r2,r3):=by first|(rw[aa];with_reducible exact H)|(have aK:=(Option.bind_some _ _).symm.trans H;rw[aa];with_reducible exact aK)|(have aK:=(Option.bind_some _ _).symm.trans H;with_reducible exact aK)|with_reducible exact H|(rw[aa];exact H)|exact H
   have au:=zaa.mk aa
   clear aa
   have aL:=zaa.mk H
   clear H
   go_upto_if 27 with(first|((with_reducible refine zak (N:=25) rfl ?_);refine Kd.R_lit (Kd.int .u64) _ 22 ?hg (N:=25) ?hd (xs:=([Int.tmod a0 1000000000,Int.tmod (IntKind.u64.wrap (Int.tdiv a0 1000000000)) 1000000000,IntKind.u64.wrap (Int.tdiv (IntKind.u64.wrap (Int.tdiv a0 1000000000)) 1000000000)]:List Int)) (inner:=[.int .u64 (Int.tmod a0 1000000000),.int .u64 (Int.tmod (IntKind.u64.wrap (Int.tdiv a0 1000000000)) 1000000000),.int .u64 (IntKind.u64.wrap (Int.tdiv (IntKind.u64.wrap (Int.tdiv a0 1000000000)) 1000000000))]) (ok:=fun _=>True) (okp:=fun _=>True) ?hr ?hp (fun _ hk=>hk) trivial (Below.refl _ _) (Nat.le_refl _) (by simp) ?_;(case hd=>rfl);(case hg=>rfl);(case hr=>first|(go_simp;done)|(go_simp;rfl));(case hp=>exact(Reps.one (show Kd.M (Kd.int .u64) _ _ _ (Int.tmod a0 1000000000) [.int .u64 (Int.tmod a0 1000000000)] from rfl) (Reps.one (show Kd.M (Kd.int .u64) _ _ _ (Int.tmod (IntKind.u64.wrap (Int.tdiv a0 1000000000)) 1000000000) [.int .u64 (Int.tmod (IntKind.u64.wrap (Int.tdiv a0 1000000000)) 1000000000)] from rfl) (Reps.one (show Kd.M (Kd.int .u64) _ _ _ (IntKind.u64.wrap (Int.tdiv (IntKind.u64.wrap (Int.tdiv a0 1000000000)) 1000000000)) [.int .u64 (IntKind.u64.wrap (Int.tdiv (IntKind.u64.wrap (Int.tdiv a0 1000000000)) 1000000000))] from rfl) (Reps.none _ _)))));intro aP w9 ak hb hg_ hnew_;clear hg_ hnew_;(first|rw[←au.out] at ak|(simp only[Int.reduceToNat] at ak;rw[←au.out] at ak));have I:=zaa.mk (Kd.R_lower ak (zaI bz));have J:=zaa.mk (zag (g:=E) (o:=.cells #[.string (⟨#[]⟩:ByteArray),.int .i64 0] 42 (0,0)) bk hb);have K:=zaa.mk (zam bz hb);clear A;clear HB;have av:=I;have A:=J;have HB:=K;clear I J K;clear hb ak))
   (try simp only[Act.put,List.setIfInBounds_toArray,List.set_cons_zero,List.set_cons_succ])
   go_cut [1,7,8] (fun v1 v7 v8 wc=> ∃(kq:Nat) (an:Int) (B:Int) (ab:Int),v1= .int .i64 an∧v7= .int .u64 B∧v8= .int .i64 ab∧zaa (zaq.j1 kq an aj B ab=some (r1,r2,r3))∧zaa (kq≤aJ)∧zaa (Kd.R (Kd.int .u64) 22 wc w.heap.size (fun _=>True) aP aj)∧zaa (wc.heap[E]? =some (.cells #[.string (⟨#[]⟩:ByteArray),.int .i64 0] 42 (0,0)))∧zaa (Below w.heap.size w wc))
   case first=>
    have H:=aL.out
    clear aL
    by_cases ai:a1<0
    ·replace H:=hE H ai
     have U:=decide_eq_true ai
     clear ai
     try rw[U]
     have H':=zaa.mk H
     clear H
     go_wp2
     go_meet
     case rel=>exact⟨_,(wrap64 (-a1)),(5),(a1),rz,rz,rz,H',⟨by have:=ao.out;first|omega|exact Nat.le_refl _⟩,⟨by(with_reducible repeat(first|apply Kd.R_alloc|apply Kd.R_drewN|apply Kd.R_drew));exact av.out⟩,⟨bk⟩,⟨bz⟩⟩
    replace H:=hN H ai
    have U:=decide_eq_false ai
    clear ai
    try rw[U]
    have H':=zaa.mk H
    clear H
    go_wp2
    go_meet
    case rel=>exact⟨_,(a1),(2),(0),rz,rz,rz,H',⟨by have:=ao.out;first|omega|exact Nat.le_refl _⟩,⟨by(with_reducible repeat(first|apply Kd.R_alloc|apply Kd.R_drewN|apply Kd.R_drew));exact av.out⟩,⟨bk⟩,⟨bz⟩⟩
   case rest=>
    clear aL
    try clear c5
    try clear Z
    try clear c6
    try clear ai
    try clear U
    try clear ae af ag ah
    obtain⟨kq,an,B,ab,rfl,rfl,rfl,HA,aC,D,A,HB⟩:=hcut
    cases kq with
    |zero=>exact absurd HA.out (by simp[zaq.j1])
    |succ aQ=>
     have H:=HA.out
     clear HA
     simp only[zaq.j1] at H
     have H':=zaa.mk H
     clear H
     go_wp2
     go_loopg [1,6] aQ (fun kq v1 v6 w'=> ∃(X:Int) (Y:List Int),v1= .int .i64 X∧zaa (zaq.l0 kq X Y B ab=some (r1,r2,r3))∧zaa (kq≤aQ)∧zaa (Kd.R (Kd.int .u64) 22 w' w.heap.size (fun _=>True) v6 Y)∧zaa (w'.heap[E]? =some (.cells #[.string (⟨#[]⟩:ByteArray),.int .i64 0] 42 (0,0)))∧zaa (Below w.heap.size w w'))
     case atStart=>exact⟨(an),(aj),rz,H',⟨Nat.le_refl _⟩,⟨by(with_reducible repeat(first|apply Kd.R_alloc|apply Kd.R_drewN|apply Kd.R_drew));exact D.out⟩,⟨bk⟩,⟨bz⟩⟩
     case round=>
      clear H'
      try clear c5
      try clear Z
      try clear c6
      try clear ai
      try clear U
      try clear ae af ag ah
      obtain⟨X,Y,rfl,HA,aD,D,A,HB⟩:=hrel
      cases gk with
      |zero=>exact absurd HA.out (by simp[zaq.l0])
      |succ k3=>
       have H:=HA.out
       clear HA
       simp only[zaq.l0] at H
       by_cases am:X≥8
       ·replace H:=hE H am
        have aw:decide (8≤X)=true:=decide_eq_true am
        clear am
        replace H:=bs H
        obtain⟨aE,a4,H⟩:=H
        have H':=zaa.mk H
        clear H
        obtain⟨ax,ay,aR⟩:=Kd.R_slice D.out
        subst aR
        go_wp2_with (first|((with_reducible refine zac (f:=47) rfl ?_);refine zal (some 51) rfl rfl Tryz.func47 (by kernel_rfl) rfl #[.slice ax Y.length ay,.int .u64 (IntKind.u64.wrap ((IntKind.u64.wrap ((IntKind.u64.wrap ((IntKind.u64.wrap ((IntKind.u64.wrap ((IntKind.u64.wrap ((IntKind.u64.wrap (B*B))*B))*B))*B))*B))*B))*B))] rfl lz ?_;(with_reducible refine(zaN.calls k3 (fun k_=>some k_=(.slice ax Y.length ay:Value).ownBlock) (.slice ax Y.length ay) Y (IntKind.u64.wrap ((IntKind.u64.wrap ((IntKind.u64.wrap ((IntKind.u64.wrap ((IntKind.u64.wrap ((IntKind.u64.wrap ((IntKind.u64.wrap (B*B))*B))*B))*B))*B))*B))*B)) aE w _ ?side1 ?side2 a4.out).mono ?_);(case side1=>repeat(first|(with_reducible first|exact HB.out|apply zbw|apply zbE|apply zaT|refine zbL ?_ ar.out)|exact HB.out));(case side2=>exact Kd.R_tight rfl D.out);rintro e bd ⟨bb,rfl,az,hb,hkp⟩;refine⟨_,rfl,?_⟩;have I:=zaa.mk (zfs bk hkp (fun hs_=>(fun e_=>(Kd.R_ne D.out A.out (by decide)) e_) hs_));have J:=zaa.mk (Kd.R_mono (ok':=fun k_=>True) az (fun k_ hk_=>trivial));have K:=zaa.mk (hb);clear A;clear HB;clear D;have A:=I;have aM:=J;have HB:=K;clear I J K;(try clear hb);(try clear hkp);(try clear az)))
        go_roundg k3
        case measure=>have:=ao.out;have:=aC.out;have:=aD.out;omega
        case rel=>exact⟨(wrap64 (X-8)),(aE),rz,H',⟨by have:=ao.out;have:=aC.out;have:=aD.out;omega⟩,⟨by(with_reducible repeat(first|apply Kd.R_alloc|apply Kd.R_drewN|apply Kd.R_drew));exact aM.out⟩,⟨bk⟩,⟨bz⟩⟩
       replace H:=hN H am
       have aw:decide (8≤X)=false:=decide_eq_false am
       clear am
       have H':=zaa.mk H
       clear H
       go_wp2
       go_loopg [1,6] k3 (fun kq v1 v6 w'=> ∃(ac:Int) (O:List Int),v1= .int .i64 ac∧zaa (zaq.l1 kq ac O B ab=some (r1,r2,r3))∧zaa (kq≤k3)∧zaa (Kd.R (Kd.int .u64) 22 w' w.heap.size (fun _=>True) v6 O)∧zaa (w'.heap[E]? =some (.cells #[.string (⟨#[]⟩:ByteArray),.int .i64 0] 42 (0,0)))∧zaa (Below w.heap.size w w'))
       case atStart=>exact⟨(X),(Y),rz,H',⟨Nat.le_refl _⟩,⟨by(with_reducible repeat(first|apply Kd.R_alloc|apply Kd.R_drewN|apply Kd.R_drew));exact D.out⟩,⟨bk⟩,⟨bz⟩⟩
       case round=>
        clear H'
        try clear c5
        try clear Z
        try clear c6
        try clear ai
        try clear U
        try clear am
        try clear aw
        try clear ae af ag ah
        obtain⟨ac,O,rfl,HA,aS,D,A,HB⟩:=hrel
        cases gk with
        |zero=>exact absurd HA.out (by simp[zaq.l1])
        |succ k4=>
         have H:=HA.out
         clear HA
         simp only[zaq.l1] at H
         by_cases ap:ac>0
         ·replace H:=hE H ap
          have aN:decide (0<ac)=true:=decide_eq_true ap
          clear ap
          replace H:=bs H
          obtain⟨aF,a5,H⟩:=H
          have H':=zaa.mk H
          clear H
          obtain⟨aA,aB,aT⟩:=Kd.R_slice D.out
          subst aT
          go_wp2_with (first|((with_reducible refine zac (f:=47) rfl ?_);refine zal (some 58) rfl rfl Tryz.func47 (by kernel_rfl) rfl #[.slice aA O.length aB,.int .u64 B] rfl lz ?_;(with_reducible refine(zaN.calls k4 (fun k_=>some k_=(.slice aA O.length aB:Value).ownBlock) (.slice aA O.length aB) O B aF w _ ?side1 ?side2 a5.out).mono ?_);(case side1=>repeat(first|(with_reducible first|exact HB.out|apply zbw|apply zbE|apply zaT|refine zbL ?_ ar.out)|exact HB.out));(case side2=>exact Kd.R_tight rfl D.out);rintro e be ⟨bc,rfl,az,hb,hkp⟩;refine⟨_,rfl,?_⟩;have I:=zaa.mk (zfs bk hkp (fun hs_=>(fun e_=>(Kd.R_ne D.out A.out (by decide)) e_) hs_));have J:=zaa.mk (Kd.R_mono (ok':=fun k_=>True) az (fun k_ hk_=>trivial));have K:=zaa.mk (hb);clear A;clear HB;clear D;have A:=I;have aO:=J;have HB:=K;clear I J K;(try clear hb);(try clear hkp);(try clear az)))
          go_roundg k4
          case measure=>have:=ao.out;have:=aC.out;have:=aD.out;have:=aS.out;omega
          case rel=>exact⟨(wrap64 (ac-1)),(aF),rz,H',⟨by have:=ao.out;have:=aC.out;have:=aD.out;have:=aS.out;omega⟩,⟨by(with_reducible repeat(first|apply Kd.R_alloc|apply Kd.R_drewN|apply Kd.R_drew));exact aO.out⟩,⟨bk⟩,⟨bz⟩⟩
         replace H:=hN H ap
         have aN:decide (0<ac)=false:=decide_eq_false ap
         clear ap
         replace H:=bs H
         obtain⟨al,a6,H⟩:=H
         replace H:=bs H
         obtain⟨⟨aG,aH⟩,a7,H⟩:=H
         dsimp only at H
         simp only[Option.some.injEq,Prod.mk.injEq] at H
         obtain⟨rfl,rfl,rfl⟩:=H
         obtain⟨aU,aV,aW⟩:=Kd.R_slice D.out
         subst aW
         go_wp2_with (first|((with_reducible refine zac (f:=48) rfl ?_);refine zal (some 60) rfl rfl Tryz.func48 (by kernel_rfl) rfl #[.slice aU O.length aV] rfl lz ?_;(with_reducible refine(zbN.calls k4 _ _ O al _ ?side1 ?side2 a6.out).mono ?_);(case side1=>repeat(first|exact(Kd.R_reads' D.out).2.2|(with_reducible refine Kd.C_alloc ?_ _)|(with_reducible refine Kd.C_drewN ?_ _)|(with_reducible refine Kd.C_drew ?_)));(case side2=>exact(Kd.R_reads' D.out).2.1);rintro e bf ⟨rfl,hb⟩;refine⟨_,rfl,?_⟩;have I:=zaa.mk (Kd.R_below (by(with_reducible repeat(first|apply Kd.R_alloc|apply Kd.R_drewN|apply Kd.R_drew));exact D.out) hb);have J:=zaa.mk (zag (g:=E) (o:=.cells #[.string (⟨#[]⟩:ByteArray),.int .i64 0] 42 (0,0)) bk hb);have K:=zaa.mk (zam bz hb);clear D;clear A;clear HB;have D:=I;have A:=J;have HB:=K;clear I J K;(try clear hb);(try clear a8);(try clear hk);(try clear hi))|((with_reducible refine zac (f:=49) rfl ?_);refine zal (some 67) rfl rfl Tryz.func49 (by kernel_rfl) rfl #[.agg #[.string al,.int .i64 (wrap64 ((al.size:Int)+ab))]] rfl lz ?_;(with_reducible refine(zbb.calls al (wrap64 ((al.size:Int)+ab)) aG aH _ a7.out).mono ?_);rintro e a9 ⟨rfl,hb⟩;refine⟨_,rfl,?_⟩;have I:=zaa.mk (Kd.R_below (by(with_reducible repeat(first|apply Kd.R_alloc|apply Kd.R_drewN|apply Kd.R_drew));exact D.out) hb);have J:=zaa.mk (zag (g:=E) (o:=.cells #[.string (⟨#[]⟩:ByteArray),.int .i64 0] 42 (0,0)) bk hb);have K:=zaa.mk (zam bz hb);clear D;clear A;clear HB;have D:=I;have A:=J;have HB:=K;clear I J K;(try clear hb);(try clear a8);(try clear hk);(try clear hi);obtain⟨aX,aY,aZ,a2⟩:=cz2 (W:=a9) A))
         refine bodyPost_ret (zaM rfl _ _ E 42 #[.string aG,.int .i64 aH] (0,0) _ rfl bk Tryz.underlying42 rfl (by kernel_rfl)) rfl ?_
         exact⟨ez,bz⟩
end Go.Proofs.YtecpgdfnamkfdaaGreatDoor.Fn
end
section
namespace Go.Proofs.YtecpgdfnamkfdaaGreatDoor.Pure
open Go.RowKit Go.Proofs.YtecpgdfnamkfdaaGreatDoorW.PrintWords Go.Proofs.YtecpgdfnamkfdaaGreatDoor.Fn
set_option linter.unusedVariables false
set_option linter.unusedSimpArgs false
theorem zhB(xs:List Int)(c:Nat)(hc:c<1000000000)(hl:xs.length≤100000):Ev (fun k=>zaN.l1 k xs (c:Int)) (xs++if c=0 then [] else [(c:Int)]):=by
  have base: ∀ys:List Int,Ev (fun k=>zaN.l1 k ys ((0:Nat):Int)) ys:=fun ys=>Ev.step (f:=fun _=>some ys) (fun k=>by simp only[zaN.l1];rw[if_neg (by omega)]) (Ev.now _)
  by_cases h:c=0
  · rw[if_pos h,h,List.append_nil];exact base xs
  · rw[if_neg h]
    refine Ev.step (f:=fun k=>zaN.l1 k (xs++[(c:Int)]) ((0:Nat):Int)) (fun k=>?_) (base _)
    simp only[zaN.l1]
    rw[if_pos (by omega),if_pos (by omega),zdg (by omega),zdh (by omega)]
    have e1:(c:Int)%1000000000=c:=by omega
    have e2:(c:Int) / 1000000000=((0:Nat):Int):=by omega
    rw[e1,e2]
    rfl
theorem zhC(by_:Nat)(hby:by_≤400000): ∀(rest:List Int) (done:List Int) (c n:Nat),n=done.length+rest.length→n≤50000→InB 1000000000 rest→c≤by_→
    Ev (fun k=>zaN.l0 k (done++rest) (by_:Int) (c:Int) (n:Int) (done.length:Int)) (done++mulGo 1000000000 by_ rest c):=by
  intro rest
  induction rest with
  |nil=>
    intro done c n hn hs _ hc
    refine Ev.step (f:=fun k=>zaN.l1 k done (c:Int)) (fun k=>?_) (zhB done c (by omega) (by simp at hn;omega))
    simp only[zaN.l0]
    simp only[List.length_nil] at hn
    rw[if_neg (by omega),List.append_nil]
  |cons x rest ih=>
    intro done c n hn hs hin hc
    have hx:=hin.cons.1
    simp only[List.length_cons] at hn
    have hcar:=zfv (B:=1000000000) (x:=x.toNat) (by omega) hc (by omega)
    have hxm:x.toNat*by_≤1000000000*400000:=Nat.mul_le_mul (by omega) hby
    have hxe:x=(x.toNat:Int):=by omega
    have:=ih (done++[(((x.toNat*by_+c)%1000000000:Nat):Int)]) ((x.toNat*by_+c) / 1000000000) n (by simp;omega) hs hin.cons.2 hcar
    unfold mulGo
    rw[List.append_assoc,List.append_assoc] at this
    simp only[List.singleton_append] at this
    refine Ev.step (f:=fun k=>zaN.l0 k (done++(((x.toNat*by_+c)%1000000000:Nat):Int)::rest) (by_:Int) (((x.toNat*by_+c) / 1000000000:Nat):Int) (n:Int) ((done++[(((x.toNat*by_+c)%1000000000:Nat):Int)]).length:Int)) (fun k=>?_) this
    simp only[zaN.l0]
    have em:(IntKind.u64.wrap ((IntKind.u64.wrap ((rd (done++x::rest) (done.length:Int))*(by_:Int)))+(c:Int)))=((x.toNat*by_+c:Nat):Int):=by
      rw[zet,hxe]
      have h1:(x.toNat:Int)*(by_:Int)=((x.toNat*by_:Nat):Int):=by omega
      rw[Int.toNat_natCast,h1,zcJ (x:=((x.toNat*by_:Nat):Int)) (by omega) (by omega),zcJ (by omega) (by omega)]
      omega
    rw[if_pos (by omega),if_pos (by omega),if_pos (by rw[List.length_append,List.length_cons];omega),em,zdg (by omega),zdh (by omega),Int.toNat_natCast,set_mid]
    have e1:(((x.toNat*by_+c:Nat):Int)%1000000000)=(((x.toNat*by_+c)%1000000000:Nat):Int):=by omega
    have e2:(((x.toNat*by_+c:Nat):Int) / 1000000000)=(((x.toNat*by_+c) / 1000000000:Nat):Int):=by omega
    rw[e1,e2,zcJ (by omega) (by omega),zaX (by omega) (by omega)]
    congr 1
    simp
theorem zfz(xs:List Int)(by_:Nat)(hby:by_≤400000)(hin:InB 1000000000 xs)(hl:xs.length≤50000):Ev (fun k=>zaN.f k xs (by_:Int)) (mulGo 1000000000 by_ xs 0):=by
  have:=zhC by_ hby xs [] 0 xs.length (by simp) hl hin (by omega)
  simpa [zaN.f] using this
theorem zgk: ∀(n:Nat) (l:List Int),l.length=n→n≤100000→ ∃l',Ev (fun k=>zaD.f k l) l'∧lv 1000000000 l'=lv 1000000000 l∧l'.length≤l.length∧ ∀x∈l',x∈l:=by
  intro n
  induction n with
  |zero=>
    intro l hl _
    refine⟨l,Ev.step (f:=fun _=>some l) (fun k=>?_) (Ev.now _),rfl,Nat.le_refl _,fun x h=>h⟩
    simp only[zaD.f,zaD.l0]
    rw[if_neg (by omega)]
  |succ n ih=>
    intro l hl hn
    obtain⟨t,c,rfl⟩: ∃t c,l=t++[c]:=by
      rcases List.eq_nil_or_concat l with h|⟨t,c,h⟩
      · rw[h] at hl;cases hl
      · exact⟨t,c,by rw[h,List.concat_eq_append]⟩
    have htl:t.length=n:=by simpa using hl
    have hw:wrap64 (((t++[c]).length:Int)-1)=(t.length:Int):=by rw[zaX (by omega) (by omega)];omega
    have hrd:rd (t++[c]) (t.length:Int)=c:=zet t c []
    by_cases h:c=0
    · obtain⟨l',h1,h2,h3,h4⟩:=ih t htl (by omega)
      refine⟨l',Ev.step (f:=fun k=>zaD.f k t) (fun k=>?_) h1,by rw[h2,zgI,h];simp[lv],by simp;omega,fun x hx=>List.mem_append_left _ (h4 x hx)⟩
      simp only[zaD.f,zaD.l0]
      rw[if_pos (by omega),hw,if_pos (by omega),if_pos (by omega),hrd,if_pos h,if_pos (by omega)]
      simp
    · refine⟨t++[c],Ev.step (f:=fun _=>some (t++[c])) (fun k=>?_) (Ev.now _),rfl,Nat.le_refl _,fun x hx=>hx⟩
      simp only[zaD.f,zaD.l0]
      rw[if_pos (by omega),hw,if_pos (by omega),if_pos (by omega),hrd,if_neg h]
def b9(x:Nat):List UInt8:=
  [ch (x / 10 / 10 / 10 / 10 / 10 / 10 / 10 / 10%10),ch (x / 10 / 10 / 10 / 10 / 10 / 10 / 10%10),ch (x / 10 / 10 / 10 / 10 / 10 / 10%10),ch (x / 10 / 10 / 10 / 10 / 10%10),
   ch (x / 10 / 10 / 10 / 10%10),ch (x / 10 / 10 / 10%10),ch (x / 10 / 10%10),ch (x / 10%10),ch (x%10)]
theorem zjm{x:Nat}(h:x<1000000000):val (b9 x)=x:=by
  unfold b9 val
  simp only[List.foldl_cons,List.foldl_nil]
  rw[zb4 (by omega),zb4 (by omega),zb4 (by omega),zb4 (by omega),zb4 (by omega),zb4 (by omega),zb4 (by omega),zb4 (by omega),zb4 (by omega)]
  omega
theorem zjn(x:Nat):AllD (b9 x):=by
  intro c hc
  unfold b9 at hc
  simp only[List.mem_cons,List.not_mem_nil,or_false] at hc
  rcases hc with rfl|rfl|rfl|rfl|rfl|rfl|rfl|rfl|rfl<;>(rw[zbZ (by omega)];omega)
theorem zhD{x:Int}(h0:0≤x):(zcR x).map (fun n=>UInt8.ofNat n.toNat)=b9 x.toNat:=by
  obtain⟨n,rfl⟩:=Int.eq_ofNat_of_zero_le h0
  unfold zcR b9 ch
  simp only[List.map_cons,List.map_nil,Int.toNat_natCast]
  congr 2<;>omega
theorem zgl{l:List Int}(h:InB 1000000000 l):val (L (strOfNums (limbsText l)))=lv 1000000000 l∧AllD (L (strOfNums (limbsText l))):=by
  rw[zd2]
  induction l with
  |nil=>exact⟨rfl,AllD.nil⟩
  |cons x l ih=>
    have hx:=h.cons.1
    obtain⟨h1,h2⟩:=ih h.cons.2
    have e:limbsText (x::l)=limbsText l++zcR x:=by
      unfold limbsText
      rw[List.reverse_cons,List.map_append,List.flatten_append]
      simp
    rw[e,List.map_append,zhD hx.1]
    refine⟨?_,h2.append (zjn _)⟩
    rw[val_append,h1,zjm (by omega),lv]
    have:(b9 x.toNat).length=9:=rfl
    rw[this]
    omega
theorem ziA(l:List Int)(h:InB 1000000000 l)(hl:l.length≤100000):Ev (fun k=>zbN.f k l) (S (digs (lv 1000000000 l))):=by
  obtain⟨l',h1,h2,h3,h4⟩:=zgk l.length l rfl hl
  have h5:InB 1000000000 l':=fun x hx=>h x (h4 x hx)
  obtain⟨h6,h7⟩:=zgl h5
  unfold zbN.f
  refine Ev.congr (f:=fun k=>(zaD.f k l).bind ((fun(_:Nat) (lx:List Int)=>if lx.length≤l.length∧ ∀x∈lx,0≤x∧x≤999999999 then zbh.f (strOfNums (limbsText lx)) ⟨#[48]⟩ else none) k)) (fun k=>?_) (Ev.bind h1 ?_)
  · rw[if_pos ⟨hl,fun x hx=>by have:=h x hx;omega⟩]
  · refine Ev.congr (fun k=>?_) (Ev.now _)
    show(if l'.length≤l.length∧ ∀x∈l',0≤x∧x≤999999999 then zbh.f (strOfNums (limbsText l')) ⟨#[48]⟩ else none)=some (S (digs (lv 1000000000 l)))
    rw[if_pos ⟨h3,fun x hx=>by have:=h5 x hx;omega⟩,trimL,zh7 h7,h6,h2]
def eLim(e:Int):Int:=if e<0 then e else 0
def eBase(e:Int):Nat:=if e<0 then 5 else 2
def exactS(m:Nat)(e:Int):ByteArray×Int×Int:=
  if e< -1200∨1200<e then(⟨#[]⟩,0,1) else((decS (decOf (m*eBase e^e.natAbs) (eLim e))).1,(decS (decOf (m*eBase e^e.natAbs) (eLim e))).2,0)
theorem zgN(l:List Int)(pt:Int)(h:InB 1000000000 l)(hl:l.length≤20000)(hp: -5000≤pt∧pt≤5000):
    Ev (fun k=>(zbN.f k l).bind fun t=>(zbb.f t (wrap64 ((t.size:Int)+pt))).bind fun bt=>some (bt.1,bt.2,(0:Int))) ((decS (decOf (lv 1000000000 l) pt)).1,(decS (decOf (lv 1000000000 l) pt)).2,0):=by
  refine Ev.bind (ziA l h (by omega)) (Ev.congr (fun k=>?_) (Ev.now _))
  have hlt:=zjM h
  have hd:(digs (lv 1000000000 l)).length≤9*l.length:=zd9 _ _ (by rw[Nat.pow_mul];exact hlt)
  generalize lv 1000000000 l=n at hd ⊢
  rw[zaE,zaX (by omega) (by omega),zdf _ _ (by rw[zaE];omega) (by omega) (by omega),L_S,zci (zeY n),zdo,Option.bind_some]
  have:((digs n).length:Int)+pt-((digs n).length:Int)=pt:=by omega
  rw[this]
theorem zhE(b:Nat)(hb:b=2∨b=5)(pt:Int)(hp: -5000≤pt∧pt≤5000): ∀(e:Nat) (l:List Int),InB 1000000000 l→l.length+e≤20000→
    Ev (fun k=>zaq.l1 k (e:Int) l (b:Int) pt) ((decS (decOf (lv 1000000000 l*b^e) pt)).1,(decS (decOf (lv 1000000000 l*b^e) pt)).2,0):=by
  intro e
  induction e with
  |zero=>
    intro l h hl
    rw[Nat.pow_zero,Nat.mul_one]
    refine Ev.step (fun k=>?_) (zgN l pt h (by omega) hp)
    simp only[zaq.l1]
    rw[if_neg (by omega)]
  |succ e ih=>
    intro l h hl
    have A:b≤5:=by omega
    have h1:=zfz l b (by omega) h (by omega)
    have h2:=ih (mulGo 1000000000 b l 0) (zd8 (by omega) l 0 h (by omega)) (by have:=zdL (B:=1000000000) (by_:=b) l 0;omega)
    rw[zes (by omega),Nat.mul_assoc,←Nat.pow_succ'] at h2
    refine Ev.step (fun k=>?_) (Ev.bind (f:=fun k t=>zaq.l1 k (e:Int) t (b:Int) pt) h1 h2)
    simp only[zaq.l1]
    rw[if_pos (by omega)]
    have:wrap64 (((e+1:Nat):Int)-1)=(e:Int):=by rw[zaX (by omega) (by omega)];omega
    rw[this]
theorem pow8(b:Nat)(hb:b=2∨b=5):(IntKind.u64.wrap ((IntKind.u64.wrap ((IntKind.u64.wrap ((IntKind.u64.wrap ((IntKind.u64.wrap ((IntKind.u64.wrap ((IntKind.u64.wrap ((b:Int)*b))*b))*b))*b))*b))*b))*b))=((b^8:Nat):Int):=by
  rcases hb with rfl|rfl<;>rfl
theorem zhF(b:Nat)(hb:b=2∨b=5)(pt:Int)(hp: -5000≤pt∧pt≤5000): ∀(e:Nat) (l:List Int),InB 1000000000 l→l.length+e≤20000→
    Ev (fun k=>zaq.l0 k (e:Int) l (b:Int) pt) ((decS (decOf (lv 1000000000 l*b^e) pt)).1,(decS (decOf (lv 1000000000 l*b^e) pt)).2,0):=by
  intro e
  induction e using Nat.strongRecOn with
  |_ e ih=>
    intro l h hl
    have A:b^8≤390625:=by rcases hb with rfl|rfl<;>decide
    by_cases he:e≥8
    · have h1:=zfz l (b^8) (by omega) h (by omega)
      have h2:=ih (e-8) (by omega) (mulGo 1000000000 (b^8) l 0) (zd8 (by omega) l 0 h (by omega)) (by have:=zdL (B:=1000000000) (by_:=b^8) l 0;omega)
      rw[zes (by omega),Nat.mul_assoc,←Nat.pow_add,show 8+(e-8)=e by omega] at h2
      refine Ev.step (fun k=>?_) (Ev.bind (f:=fun k t=>zaq.l0 k ((e-8:Nat):Int) t (b:Int) pt) h1 h2)
      simp only[zaq.l0]
      rw[if_pos (by omega),pow8 b hb]
      have:wrap64 ((e:Int)-8)=((e-8:Nat):Int):=by rw[zaX (by omega) (by omega)];omega
      rw[this]
    · refine Ev.step (fun k=>?_) (zhE b hb pt hp e l h hl)
      simp only[zaq.l0]
      rw[if_neg (by omega)]
theorem zcx(m:Nat)(e:Int)(hm:m<18446744073709551616):Ev (fun k=>zaq.f k (m:Int) e) (exactS m e):=by
  unfold exactS
  by_cases h1:e< -1200
  · rw[if_pos (.inl h1)]
    refine Ev.congr (f:=fun k=>zaq.j0 k (m:Int) e true) (fun k=>?_) (Ev.step (f:=fun _=>some ((⟨#[]⟩:ByteArray),(0:Int),(1:Int))) (fun k=>rfl) (Ev.now _))
    unfold zaq.f
    rw[if_pos h1]
  · by_cases h2:1200<e
    · rw[if_pos (.inr h2)]
      refine Ev.congr (f:=fun k=>zaq.j0 k (m:Int) e true) (fun k=>?_) (Ev.step (f:=fun _=>some ((⟨#[]⟩:ByteArray),(0:Int),(1:Int))) (fun k=>rfl) (Ev.now _))
      unfold zaq.f
      rw[if_neg h1,decide_eq_true (by omega)]
    · rw[if_neg (by omega)]
      have hin:InB 1000000000 [((m%1000000000:Nat):Int),((m / 1000000000%1000000000:Nat):Int),((m / 1000000000 / 1000000000:Nat):Int)]:=
        InB.mk ⟨by omega,by omega⟩ (InB.mk ⟨by omega,by omega⟩ (InB.mk ⟨by omega,by omega⟩ (InB.nil _)))
      have hv:lv 1000000000 [((m%1000000000:Nat):Int),((m / 1000000000%1000000000:Nat):Int),((m / 1000000000 / 1000000000:Nat):Int)]=m:=by
        simp only[lv,Int.toNat_natCast]
        omega
      have key:=zhF (eBase e) (by unfold eBase;split<;>omega) (eLim e) (by unfold eLim;split<;>omega) e.natAbs _ hin (by simp;omega)
      rw[hv] at key
      have hl:([Int.tmod (m:Int) 1000000000,Int.tmod (IntKind.u64.wrap (Int.tdiv (m:Int) 1000000000)) 1000000000,IntKind.u64.wrap (Int.tdiv (IntKind.u64.wrap (Int.tdiv (m:Int) 1000000000)) 1000000000)]:List Int)=[((m%1000000000:Nat):Int),((m / 1000000000%1000000000:Nat):Int),((m / 1000000000 / 1000000000:Nat):Int)]:=by
        rw[zdg (by omega),zdh (by omega),zcJ (by omega) (by omega),zdg (by omega),zdh (by omega),zcJ (by omega) (by omega)]
        congr 2
      refine Ev.congr (f:=fun k=>zaq.j0 k (m:Int) e false) (fun k=>?_) (Ev.step (f:=fun k=>zaq.j1 k (e.natAbs:Int) [((m%1000000000:Nat):Int),((m / 1000000000%1000000000:Nat):Int),((m / 1000000000 / 1000000000:Nat):Int)] (eBase e:Int) (eLim e)) (fun k=>?_) (Ev.step (fun k=>rfl) key))
      · unfold zaq.f
        rw[if_neg h1,decide_eq_false (by omega)]
      · simp only[zaq.j0]
        rw[if_neg (by simp),hl,Option.bind_some]
        unfold eBase eLim
        by_cases h3:e<0
        · rw[if_pos h3,if_pos h3,if_pos h3,zaX (by omega) (by omega)]
          have:(-e:Int)=(e.natAbs:Int):=by omega
          rw[this];rfl
        · rw[if_neg h3,if_neg h3,if_neg h3]
          have:(e:Int)=(e.natAbs:Int):=by omega
          rw[←this];rfl
def sumD(a:List UInt8)(p:Int)(b:List UInt8)(q:Int):List UInt8×Int:=
  decOf (sv a p (min (p-a.length) (q-b.length))+sv b q (min (p-a.length) (q-b.length))) (min (p-a.length) (q-b.length))
theorem zdi{a b:List UInt8}{p q E:Int}(h1:E≤p-a.length)(h2:E≤q-b.length):sumD a p b q=decOf (sv a p E+sv b q E) E:=by
  unfold sumD
  obtain⟨k,hk⟩: ∃k:Nat,E=min (p-(a.length:Int)) (q-b.length)-k:=⟨(min (p-(a.length:Int)) (q-b.length)-E).toNat,by omega⟩
  rw[hk,zdq a p _ (by omega),zdq b q _ (by omega),←Nat.add_mul,zcg]
theorem ze3(a:List UInt8)(p:Int)(b:List UInt8)(q:Int):sumD a p b q=sumD b q a p:=by
  rw[zdi (a:=a) (b:=b) (E:=min (p-(a.length:Int)) (q-b.length)) (by omega) (by omega),zdi (a:=b) (b:=a) (E:=min (p-(a.length:Int)) (q-b.length)) (by omega) (by omega),Nat.add_comm]
theorem zcN{b:List UInt8}{q:Int}(hb:InForm b q)(p:Int):sumD [] p b q=(b,q):=by
  rw[zdi (E:=min (p-(([]:List UInt8).length:Int)) (q-b.length)) (by omega) (by omega)]
  have:sv [] p (min (p-(([]:List UInt8).length:Int)) (q-b.length))=0:=by unfold sv;rw[zbl,Nat.zero_mul]
  rw[this,Nat.zero_add,zhA hb (by omega)]
theorem zeL{a:List UInt8}{p:Int}(ha:InForm a p)(q:Int):sumD a p [] q=(a,p):=by rw[ze3,zcN ha]
theorem zhG{A B v c m:Nat}(h:v+c*10^m=A%10^m+B%10^m):
    v+(c+A / 10^m%10+B / 10^m%10)%10*10^m+(c+A / 10^m%10+B / 10^m%10) / 10*10^(m+1)=A%10^(m+1)+B%10^(m+1):=by
  have e1:=Nat.mod_pow_succ (x:=A) (b:=10) (k:=m)
  have e2:=Nat.mod_pow_succ (x:=B) (b:=10) (k:=m)
  rw[e1,e2]
  generalize hs:c+A / 10^m%10+B / 10^m%10=s
  have hd:=Nat.div_add_mod s 10
  have e3:s / 10*10^(m+1)=10*(s / 10)*10^m:=by rw[Nat.pow_succ,Nat.mul_comm (10^m) 10,←Nat.mul_assoc,Nat.mul_comm (s / 10) 10]
  rw[e3]
  have e4:s%10*10^m+10*(s / 10)*10^m=s*10^m:=by rw[←Nat.add_mul];congr 1;omega
  have e5:s*10^m=c*10^m+10^m*(A / 10^m%10)+10^m*(B / 10^m%10):=by rw[←hs,Nat.add_mul,Nat.add_mul,Nat.mul_comm (A / 10^m%10),Nat.mul_comm (B / 10^m%10)]
  omega
def toI(l:List UInt8):List Int:=l.map fun b=>(b.toNat:Int)
theorem zbK(a b:List UInt8):toI (a++b)=toI a++toI b:=List.map_append
theorem zbQ(a:List UInt8):(toI a).length=a.length:=List.length_map _
theorem zc5(l:List UInt8):bytesOf (S l)=toI l:=rfl
theorem zc6(l:List UInt8):strOfNums (toI l)=S l:=by
  rw[←S_L (strOfNums (toI l)),zd2]
  congr 1
  unfold toI
  rw[List.map_map]
  have:List.map ((fun n:Int=>UInt8.ofNat n.toNat)∘fun b:UInt8=>(b.toNat:Int)) l=List.map id l:=by
    apply List.map_congr_left
    intro c _
    simp[Function.comp]
  rw[this,List.map_id]
theorem ziB(A:ByteArray)(p:Int)(B:ByteArray)(q:Int)(n:Nat)(hn:n≤100000)(h2:2≤n)(hA:A.size+1≤n)(r:ByteArray×Int×Int)
    (h:Ev (fun k=>zaz.j2 k (cpyAt (List.replicate n 48) 1 A) A p B q) r):
    ∀(d i:Nat),i+d=n→Ev (fun k=>zaz.l0 k (List.replicate i 48++List.replicate d 0) (n:Int) (i:Int) A p B q) r:=by
  intro d
  induction d with
  |zero=>
    intro i hi
    refine Ev.step (fun k=>?_) h
    have e:i=n:=by omega
    subst e
    simp only[zaz.l0]
    rw[if_neg (by omega),List.replicate_zero,List.append_nil,if_pos (by rw[List.length_replicate];omega),if_pos (by rw[List.length_replicate];omega),if_pos (by rw[List.length_replicate];omega)]
  |succ d ih=>
    intro i hi
    refine Ev.step (fun k=>?_) (ih (i+1) (by omega))
    simp only[zaz.l0]
    have e:(List.replicate i (48:Int)++List.replicate (d+1) 0).set i 48=List.replicate (i+1) 48++List.replicate d 0:=by
      have:=set_mid (List.replicate i (48:Int)) 0 48 (List.replicate d 0)
      rw[List.length_replicate] at this
      rw[List.replicate_succ,this,List.replicate_succ' (n:=i)]
      simp
    rw[if_pos (by omega),if_pos (by omega),if_pos (by simp;omega),Int.toNat_natCast,e,zaX (by omega) (by omega)]
    rfl
theorem zjo{a b:List UInt8}{p q E:Int}{n:Nat}(orig:List UInt8)(ho:AllD orig)(hol:orig.length=n)(hn:(n:Int)=p+1-E)(hov:val orig=sv a p E)(ha:AllD a)(hb:AllD b)
    (h1:E≤p-a.length) (h2:E≤q-b.length) (hqp:q≤p)
    (hba:a.length≤4000∧ -10000≤p∧p≤10000) (hbb:b.length≤4000∧ -10000≤q∧q≤10000) (hE: -20000≤E) (hEp:E<p):
    ∀(j:Nat) (done:List UInt8) (c:Nat),j+done.length=n→AllD done→c≤1→val done+c*10^done.length=sv a p E%10^done.length+sv b q E%10^done.length→
      Ev (fun k=>zaz.l1 k (toI (orig.take j)++toI done) (c:Int) ((j:Int)-1) (S a) p (S b) q)
        (if(decOf (sv a p E+sv b q E) E).1.length>2000 then((⟨#[]⟩:ByteArray),0,2) else((decS (decOf (sv a p E+sv b q E) E)).1,(decS (decOf (sv a p E+sv b q E) E)).2,0)):=by
  intro j
  induction j with
  |zero=>
    intro done c hd hin hc hv
    have hla:=zdr ha h1
    have hlb:=zdr hb h2
    have hA:10^(p-E).toNat≤10^(done.length-1):=Nat.pow_le_pow_right (by omega) (by omega)
    have hB:10^(q-E).toNat≤10^(done.length-1):=Nat.pow_le_pow_right (by omega) (by omega)
    have hpw:10^done.length=10^(done.length-1)*10:=by rw[←Nat.pow_succ];congr 1;omega
    rw[Nat.mod_eq_of_lt (by omega),Nat.mod_eq_of_lt (by omega)] at hv
    have B:c=0:=by
      rcases Nat.eq_zero_or_pos c with h|h
      · exact h
      · have:c=1:=by omega
        subst this
        omega
    rw[B,Nat.zero_mul,Nat.add_zero] at hv
    have hf:=zdf (S done) (p+1) (by rw[zaE];omega) (by omega) (by omega)
    rw[L_S,zci hin,hv] at hf
    have e:p+1-(done.length:Int)=E:=by omega
    rw[e] at hf
    refine Ev.step (fun k=>?_) (Ev.now _)
    simp only[zaz.l1]
    rw[if_neg (by omega),List.take_zero]
    have e2:toI []++toI done=toI done:=rfl
    rw[e2,zc6,zaX (by omega) (by omega),hf,Option.bind_some]
    have e3:((decS (decOf (sv a p E+sv b q E) E)).1.size:Int)=((decOf (sv a p E+sv b q E) E).1.length:Int):=by unfold decS;rw[zaE]
    rw[e3]
    by_cases h5:(decOf (sv a p E+sv b q E) E).1.length>2000
    · rw[if_pos h5,if_pos (by omega)]
    · rw[if_neg h5,if_neg (by omega)]
  |succ i ih=>
    intro done c hd hin hc hv
    have hil:i<orig.length:=by omega
    have hm:done.length=n-1-i:=by omega
    have hx:=ho orig[i] (List.getElem_mem hil)
    have hda:dig orig[i]=sv a p E / 10^done.length%10:=by
      rw[←hov,hm,←hol,ze2 ho i hil]
    have hst:=zhG hv
    rw[←hda] at hst
    generalize hs:c+dig orig[i]+sv b q E / 10^done.length%10=s at hst
    have hdl:dig orig[i]≤9:=by unfold dig;omega
    have I:s≤19:=by omega
    have:=ih (ch (s%10)::done) (s / 10) (by simp;omega) (by
      intro c' hc'
      rcases List.mem_cons.1 hc' with rfl|h'
      · rw[zbZ (by omega)];omega
      · exact hin c' h') (by omega) (by
      rw[zbH,List.length_cons,zb4 (by omega)]
      omega)
    have etk:orig.take (i+1)=orig.take i++[orig[i]]:=List.take_succ_eq_append_getElem hil
    have hti:(toI (orig.take i)).length=i:=by rw[zbQ,List.length_take];omega
    have erd:rd (toI (orig.take (i+1))++toI done) (i:Int)=(orig[i].toNat:Int):=by
      have h3:=zet (toI (orig.take i)) (orig[i].toNat:Int) (toI done)
      rw[hti] at h3
      rw[etk,zbK,List.append_assoc]
      exact h3
    have est: ∀v:Int,(toI (orig.take (i+1))++toI done).set i v=toI (orig.take i)++v::toI done:=by
      intro v
      have h3:=set_mid (toI (orig.take i)) (orig[i].toNat:Int) v (toI done)
      rw[hti] at h3
      rw[etk,zbK,List.append_assoc]
      exact h3
    have ecur:toI (orig.take i)++toI (ch (s%10)::done)=toI (orig.take i)++(48+((s%10:Nat):Int))::toI done:=by
      unfold toI
      rw[List.map_cons,zbZ (by omega)]
      congr 2
    rw[ecur] at this
    have edig:((orig[i].toNat:Int)-48)%256=(dig orig[i]:Int):=by unfold dig;omega
    refine Ev.step (fun k=>?_) this
    have ei:(((i+1:Nat):Int)-1)=(i:Int):=by omega
    simp only[zaz.l1]
    have hll:((toI (orig.take (i+1))++toI done).length:Int)=(n:Int):=by rw[List.length_append,zbQ,zbQ,List.length_take];omega
    have ew:(wrap64 ((wrap64 ((i:Int)-1))-(wrap64 (p-q))))=(i:Int)-1-(p-q):=by
      rw[zaX (x:=(i:Int)-1) (by omega) (by omega),zaX (x:=p-q) (by omega) (by omega),zaX (by omega) (by omega)]
    rw[ei,if_pos (by omega),if_pos (by omega),if_pos (by rw[hll];omega),ew,Int.toNat_natCast,erd,edig,zaX (x:=(i:Int)-1) (by omega) (by omega)]
    simp only[est,zaE]
    -- the other one's digit at this place
    have hdb: ∀r:Option (ByteArray×Int×Int),True:=fun _=>trivial
    have A:=digit_eq (x:=p-i) hb h2 (by omega) (by omega)
    have en:(p-(i:Int)-E).toNat=done.length:=by omega
    rw[en] at A
    unfold zcd.f at A
    have D:(wrap64 ((wrap64 (q-1))-(p-(i:Int))))=(i:Int)-1-(p-q):=by
      rw[zaX (x:=q-1) (by omega) (by omega),zaX (by omega) (by omega)];omega
    rw[D,zaE] at A
    by_cases c1:(i:Int)-1-(p-q)≥0
    · rw[if_pos c1]
      rw[if_neg (by omega)] at A
      by_cases c2:(i:Int)-1-(p-q)<(b.length:Int)
      · rw[if_pos c2,if_pos c1]
        rw[if_neg (by omega),if_pos c1,if_pos c2] at A
        injection A with A
        rw[A]
        have e1:(((dig orig[i]:Int)+(c:Int))%256+((sv b q E / 10^done.length%10:Nat):Int))%256=(s:Int):=by omega
        rw[e1]
        have e2:(s:Int)%10=((s%10:Nat):Int):=by omega
        have e3:(s:Int) / 10=((s / 10:Nat):Int):=by omega
        rw[e2,e3]
      · rw[if_neg c2]
        rw[if_pos (by omega)] at A
        injection A with A
        have e1:(((dig orig[i]:Int)+(c:Int))%256)=(s:Int):=by omega
        rw[e1]
        have e2:(s:Int)%10=((s%10:Nat):Int):=by omega
        have e3:(s:Int) / 10=((s / 10:Nat):Int):=by omega
        rw[e2,e3]
    · rw[if_neg c1]
      rw[if_pos (by omega)] at A
      injection A with A
      have e1:(((dig orig[i]:Int)+(c:Int))%256)=(s:Int):=by omega
      rw[e1]
      have e2:(s:Int)%10=((s%10:Nat):Int):=by omega
      have e3:(s:Int) / 10=((s / 10:Nat):Int):=by omega
      rw[e2,e3]
def addD(a:List UInt8)(p:Int)(b:List UInt8)(q:Int):ByteArray×Int×Int:=
  if(sumD a p b q).1.length>2000 then((⟨#[]⟩:ByteArray),0,2) else((decS (sumD a p b q)).1,(decS (sumD a p b q)).2,0)
theorem ze4(a:List UInt8)(p:Int)(b:List UInt8)(q:Int):addD a p b q=addD b q a p:=by unfold addD;rw[ze3]
theorem zdF{b:List UInt8}{q:Int}(hb:InForm b q)(hl:b.length≤2000)(p:Int):addD [] p b q=(S b,q,0):=by
  unfold addD
  rw[zcN hb,if_neg (show¬(b,q).1.length>2000 from by show¬b.length>2000;omega)]
  rfl
theorem zfA{a b:List UInt8}{p q:Int}(ha:InForm a p)(hb:InForm b q)(hn:b≠[])(h:p<q):cmpD a p b q= -1:=by
  have h1:=zdr (E:=min (p-(a.length:Int)) (q-b.length)) (p:=p) ha.1 (by omega)
  have h2:=zfi (E:=min (p-(a.length:Int)) (q-b.length)) (p:=q) hb.1 hb.2.1 hn (by omega)
  have h3:10^(p-min (p-(a.length:Int)) (q-b.length)).toNat≤10^(q-1-min (p-(a.length:Int)) (q-b.length)).toNat:=Nat.pow_le_pow_right (by omega) (by omega)
  unfold cmpD
  exact zcw (by omega)
theorem zc7(a:List UInt8)(p:Int)(b:List UInt8)(q:Int):cmpD a p b q= -cmpD b q a p:=by
  have h:min (q-(b.length:Int)) (p-a.length)=min (p-(a.length:Int)) (q-b.length):=by omega
  unfold cmpD
  rw[h]
  unfold cmpN
  split<;>split<;>(try split)<;>omega
theorem zf1(a:List UInt8)(n:Nat)(h:a.length+1≤n):cpyAt (List.replicate n 48) 1 (S a)=toI (48::(a++List.replicate (n-1-a.length) 48)):=by
  unfold cpyAt
  rw[zc5,zaE]
  have e1:(List.replicate n (48:Int)).take 1=toI [48]:=by
    rw[List.take_replicate,Nat.min_eq_left (by omega)]
    rfl
  have e2:(List.replicate n (48:Int)).drop (1+a.length)=toI (List.replicate (n-1-a.length) 48):=by
    rw[List.drop_replicate]
    unfold toI
    rw[List.map_replicate,show n-(1+a.length)=n-1-a.length by omega]
    rfl
  rw[e1,e2,←zbK,←zbK,List.append_assoc]
  rfl
theorem zgO{a b:List UInt8}{p q:Int}(ha:InForm a p)(hb:InForm b q)(hna:a≠[])(hqp:q≤p)
    (hba:a.length≤4000∧ -10000≤p∧p≤10000) (hbb:b.length≤4000∧ -10000≤q∧q≤10000):Ev (fun k=>zaz.j0 k (S a) p (S b) q) (addD a p b q):=by
  have hal:0<a.length:=List.length_pos_iff.2 hna
  obtain⟨E,hE⟩: ∃E:Int,E=min (p-(a.length:Int)) (q-b.length):=⟨_,rfl⟩
  obtain⟨n,hn⟩: ∃n:Nat,(n:Int)=p+1-E:=⟨(p+1-E).toNat,by omega⟩
  have hall:AllD (48::(a++List.replicate (n-1-a.length) 48)):=by
    intro c hc
    rcases List.mem_cons.1 hc with rfl|h'
    · exact⟨by decide,by decide⟩
    · rcases List.mem_append.1 h' with h'|h'
      · exact ha.1 c h'
      · rw[List.eq_of_mem_replicate h']
        exact⟨by decide,by decide⟩
  have hlen:(48::(a++List.replicate (n-1-a.length) (48:UInt8))).length=n:=by
    rw[List.length_cons,List.length_append,List.length_replicate]
    omega
  have hval:val (48::(a++List.replicate (n-1-a.length) 48))=sv a p E:=by
    rw[zbH,val_append,zcm,List.length_replicate]
    unfold sv
    rw[show(p-(a.length:Int)-E).toNat=n-1-a.length by omega,show dig 48=0 from rfl]
    omega
  have h1:=zjo (E:=E) (p:=p) (q:=q) (n:=n) (a:=a) (b:=b) _ hall hlen hn hval ha.1 hb.1 (by omega) (by omega) hqp hba hbb (by omega) (by omega) n [] 0 (by simp) AllD.nil (by omega) (by simp[Nat.mod_one,zbl])
  rw[List.take_of_length_le (by rw[hlen];omega)] at h1
  have e0:toI ([]:List UInt8)=[]:=rfl
  rw[e0,List.append_nil,←zf1 a n (by omega),←zdi (E:=E) (p:=p) (q:=q) (by omega) (by omega)] at h1
  have h2:Ev (fun k=>zaz.j2 k (cpyAt (List.replicate n 48) 1 (S a)) (S a) p (S b) q) (addD a p b q):=by
    refine Ev.step (fun k=>?_) h1
    simp only[zaz.j2]
    have e:(cpyAt (List.replicate n 48) 1 (S a)).length=n:=by rw[zf1 a n (by omega),zbQ,hlen]
    rw[e,zaX (x:=(n:Int)-1) (by omega) (by omega)]
    rfl
  have h3:=ziB (S a) p (S b) q n (by omega) (by omega) (by rw[zaE];omega) _ h2 n 0 (by omega)
  rw[List.replicate_zero,List.nil_append] at h3
  refine Ev.step (fun k=>?_) h3
  simp only[zaz.j0]
  have em:wrap64 (wrap64 (p-mn (wrap64 (p-((S a).size:Int))) (wrap64 (q-((S b).size:Int))))+1)=(n:Int):=by
    rw[zaE,zaE,zaX (x:=p-(a.length:Int)) (by omega) (by omega),zaX (x:=q-(b.length:Int)) (by omega) (by omega)]
    have e2:mn (p-(a.length:Int)) (q-b.length)=E:=by unfold mn;split<;>omega
    rw[e2,zaX (x:=p-E) (by omega) (by omega),zaX (x:=p-E+1) (by omega) (by omega)]
    omega
  rw[em,if_pos (by omega),Int.toNat_natCast,if_pos (by omega),Option.bind_some,List.length_replicate]
  rfl
def addS(s:ByteArray)(p:Int)(t:ByteArray)(q:Int):ByteArray×Int×Int:=
  if(normS s p).2.2=0 then(if(normS t q).2.2=0 then addD (L (normS s p).1) (normS s p).2.1 (L (normS t q).1) (normS t q).2.1 else((⟨#[]⟩:ByteArray),0,(normS t q).2.2)) else((⟨#[]⟩:ByteArray),0,(normS s p).2.2)
theorem ziC(s:ByteArray)(p:Int)(t:ByteArray)(q:Int):Ev (fun k=>zaz.f k s p t q) (addS s p t q):=by
  unfold zaz.f addS
  refine Ev.bind (zgK s p t q) ?_
  rcases zbR s p with⟨e,h1,h2,_⟩|⟨l,u,h1,A,b1,b2,b3,_⟩
  · rw[h1,if_neg h2,if_neg h2]
    exact Ev.congr (fun k=>by rw[if_neg h2]) (Ev.now _)
  · rw[h1,if_pos rfl,if_pos rfl]
    rcases zbR t q with⟨e,h3,h4,_⟩|⟨m,v,h3,B,c1,c2,c3,_⟩
    · rw[h3,if_neg h4]
      exact Ev.congr (fun k=>by rw[if_neg h4]) (Ev.now _)
    · rw[h3,if_pos rfl]
      show Ev _ (addD (L (S l)) u (L (S m)) v)
      rw[L_S,L_S]
      by_cases n1:l=[]
      · subst n1
        rw[zdF B c1]
        exact Ev.congr (fun k=>by rw[if_pos rfl,zby,L_S,if_pos rfl]) (Ev.now _)
      · by_cases n2:m=[]
        · subst n2
          rw[ze4,zdF A b1]
          exact Ev.congr (fun k=>by rw[if_pos rfl,zby,L_S,if_neg n1,zby,L_S,if_pos rfl]) (Ev.now _)
        · refine Ev.congr (fun k=>by rw[if_pos rfl,zby,L_S,if_neg n1,zby,L_S,if_neg n2]) (Ev.bind (cmp_eq A B) ?_)
          by_cases n3:cmpD l u m v<0
          · refine Ev.congr (fun k=>by rw[if_pos n3]) ?_
            rw[ze4]
            refine zgO (a:=m) (p:=v) (b:=l) (q:=u) B A n2 ?_ (by omega) (by omega)
            by_cases n4:u≤v
            · exact n4
            · have h5:=zfA B A n1 (show v<u by omega)
              have h6:=zc7 l u m v
              omega
          · refine Ev.congr (fun k=>by rw[if_neg n3]) ?_
            refine zgO (a:=l) (p:=u) (b:=m) (q:=v) A B n1 ?_ (by omega) (by omega)
            by_cases n4:v≤u
            · exact n4
            · have h5:=zfA A B n2 (show u<v by omega)
              omega
theorem zcK{n:Nat}(h:n≠0)(e:Int):e≤(decOf n e).2-(decOf n e).1.length:=by
  unfold decOf
  rw[if_neg h]
  have:=zcl (digs n)
  show e≤((digs n).length:Int)+e-(rz (digs n)).length
  omega
theorem zcy(n:Nat)(e:Int):sv (decOf n e).1 (decOf n e).2 e=n:=by
  by_cases h:n=0
  · subst h
    unfold sv
    rw[zb9]
    show val []*_=0
    rw[zbl,Nat.zero_mul]
  · unfold sv decOf
    rw[if_neg h]
    obtain⟨k,hk⟩:=zc4 (digs n)
    have hv:=zdo n
    have hlen:=congrArg List.length hk
    rw[List.length_append,List.length_replicate] at hlen
    rw[hk,val_append,zcm,List.length_replicate] at hv
    show val (rz (digs n))*10^(((digs n).length:Int)+e-(rz (digs n)).length-e).toNat=n
    rw[show(((digs n).length:Int)+e-(rz (digs n)).length-e).toNat=k by omega]
    omega
theorem ze5{n:Nat}{e:Int}:(decOf n e).1=[]↔n=0:=by
  constructor
  · intro h
    have:=zcy n e
    unfold sv at this
    rw[h,zbl,Nat.zero_mul] at this
    exact this.symm
  · intro h;subst h;rfl
theorem zgP(m n:Nat)(e:Int):sumD (decOf m e).1 (decOf m e).2 (decOf n e).1 (decOf n e).2=decOf (m+n) e:=by
  by_cases hm:m=0
  · subst hm
    rw[zb9,Nat.zero_add]
    exact zcN (zbr n e) 0
  · by_cases hn:n=0
    · subst hn
      rw[zb9,Nat.add_zero]
      exact zeL (zbr m e) 0
    · rw[zdi (E:=e) (zcK hm e) (zcK hn e),zcy,zcy]
theorem zhH(p q:Int):cmpD [] p [] q=0:=by
  unfold cmpD sv
  rw[zbl,Nat.zero_mul,Nat.zero_mul,ze1]
theorem zgQ(m n:Nat)(e:Int):cmpD (decOf m e).1 (decOf m e).2 (decOf n e).1 (decOf n e).2=cmpN m n:=by
  by_cases hm:m=0
  · subst hm
    by_cases hn:n=0
    · subst hn;rw[zb9];exact zhH 0 0
    · rw[zcw (show 0<n by omega)]
      exact zfg (zbr n e) (mt ze5.1 hn) _
  · by_cases hn:n=0
    · subst hn
      rw[zcT (show 0<m by omega)]
      exact zeI (zbr m e) (mt ze5.1 hm) _
    · rw[zit (E:=e) (zcK hm e) (zcK hn e),zcy,zcy]
theorem zbT{n m:Nat}(h:n<10^m)(e:Int):(decOf n e).1.length≤m∧(decOf n e).2≤max 0 (e+m)∧min 0 e≤(decOf n e).2:=by
  unfold decOf
  have h1:=zd9 m n h
  have h2:=zcl (digs n)
  by_cases h0:n=0
  · rw[if_pos h0]
    refine⟨Nat.zero_le _,?_,?_⟩
    · show(0:Int)≤_;omega
    · show _≤(0:Int);omega
  · rw[if_neg h0]
    refine⟨?_,?_,?_⟩
    · show(rz (digs n)).length≤m;omega
    · show((digs n).length:Int)+e≤_;omega
    · show _≤((digs n).length:Int)+e;omega
theorem zjp{a:List UInt8}{n:Nat}(hn:n≤a.length):val a=val (a.take n)*10^(a.length-n)+val (a.drop n):=by
  have h:=val_append (a.take n) (a.drop n)
  rw[List.take_append_drop,List.length_drop] at h
  exact h
def downP(a:List UInt8)(n:Nat):Prop:=2*val (a.drop n)<10^(a.length-n)∨(2*val (a.drop n)=10^(a.length-n)∧val (a.take n)%2=0)
instance (a : List UInt8) (n : Nat) : Decidable (downP a n) := by unfold downP; infer_instance
def roundN(a:List UInt8)(p n:Int):List UInt8×Int:=
  if n<0 then([],0) else if(a.length:Int)≤n then(a,p) else if downP a n.toNat then decOf (val (a.take n.toNat)) (p-n) else decOf (val (a.take n.toNat)+1) (p-n)
theorem zf2: ∀(n:Nat) (a:List UInt8),rz a=a→rz (a.drop n)=a.drop n
  |0,a,h=>h
  |n+1,[],_=>zgG
  |n+1,c::t,h=>zf2 n t (zdX h)
theorem zhI(u:List UInt8):Op.bytesLess u []=false:=by cases u<;>rfl
theorem zjN{t:List UInt8}(h:AllD t)(hr:rz t=t)(hn:t≠[]):(Op.bytesLess t [53]=true↔2*val t<10^t.length)∧(t=[53]↔2*val t=10^t.length):=by
  cases t with
  |nil=>exact absurd rfl hn
  |cons c u=>
    have hc:=h.cons.1
    have hv:=zcf h.cons.2
    have A:(53:UInt8).toNat=53:=rfl
    have e1:Op.bytesLess (c::u) [53]=(decide (c<53)):=by
      show(decide (c<53)||(c==53&&Op.bytesLess u []))=_
      rw[zhI];simp
    have e2:(c<53)↔dig c<5:=by rw[UInt8.lt_iff_toNat_lt,A];unfold dig;omega
    rw[e1,zbH,List.length_cons,Nat.pow_succ,decide_eq_true_iff,e2]
    generalize hP:10^u.length=P at*
    by_cases c1:dig c<5
    · have h4:dig c*P≤4*P:=Nat.mul_le_mul_right P (by omega)
      refine⟨⟨fun _=>by omega,fun _=>c1⟩,⟨fun h5=>?_,fun h5=>?_⟩⟩
      · injection h5 with h6 h7;rw[h6] at c1;exact absurd c1 (by decide)
      · omega
    · have h4:5*P≤dig c*P:=Nat.mul_le_mul_right P (by omega)
      refine⟨⟨fun h5=>absurd h5 c1,fun h5=>by omega⟩,⟨fun h5=>?_,fun h5=>?_⟩⟩
      · injection h5 with h6 h7
        subst h6;subst h7
        rw[List.length_nil] at hP
        rw[zbl,←hP]
        rfl
      · have h6:val u=0:=by omega
        have hu:u=[]:=by
          by_cases hu:u=[]
          · exact hu
          · exact absurd h6 (zeH h.cons.2 (zdX hr) hu)
        subst hu
        rw[List.length_nil] at hP
        have h7:dig c=5:=by rw[←hP,zbl] at h5;omega
        congr 1
        apply UInt8.toNat_inj.1
        unfold dig at h7
        rw[A];omega
theorem zib: ∀(m:Nat) (l:List UInt8) (k:Nat),l.length=m→AllD l→ ∃r,upGo (toI (l++List.replicate k 48)) m=toI r∧AllD r∧val r=(val l+1)*10^k∧r.length≤m+k+1
  |0,l,k,hl,h=>by
    have:l=[]:=List.length_eq_zero_iff.1 hl
    subst this
    refine⟨49::List.replicate k 48,rfl,?_,?_,?_⟩
    · intro c hc
      rcases List.mem_cons.1 hc with rfl|h'
      · exact⟨by decide,by decide⟩
      · rw[List.eq_of_mem_replicate h'];exact⟨by decide,by decide⟩
    · rw[zbH,zcm,List.length_replicate,zbl];rfl
    · rw[List.length_cons,List.length_replicate];omega
  |m+1,l,k,hl,h=>by
    rcases List.eq_nil_or_concat l with rfl|⟨t,c,rfl⟩
    · simp at hl
    · rw[List.concat_eq_append] at*
      have htl:t.length=m:=by simpa using hl
      have hc:=h.last
      have e0:toI (t++[c]++List.replicate k 48)=toI t++(c.toNat:Int)::toI (List.replicate k 48):=by
        rw[zbK,zbK,List.append_assoc];rfl
      have e1:rd (toI (t++[c]++List.replicate k 48)) (m:Int)=(c.toNat:Int):=by
        have:=zet (toI t) (c.toNat:Int) (toI (List.replicate k 48))
        rw[zbQ,htl] at this
        rw[e0,this]
      have e2: ∀v:Int,(toI (t++[c]++List.replicate k 48)).set m v=toI t++v::toI (List.replicate k 48):=by
        intro v
        have:=set_mid (toI t) (c.toNat:Int) v (toI (List.replicate k 48))
        rw[zbQ,htl] at this
        rw[e0,this]
      unfold upGo
      rw[e1,e2,e2]
      by_cases h9:(c.toNat:Int)<57
      · rw[if_pos h9]
        have hd:dig c+1<10:=by unfold dig;omega
        refine⟨t++[ch (dig c+1)]++List.replicate k 48,?_,?_,?_,?_⟩
        · have e5:((ch (dig c+1)).toNat:Int)=c.toNat+1:=by rw[zbZ hd];unfold dig;omega
          rw[zbK,zbK,List.append_assoc]
          show _=toI t++((ch (dig c+1)).toNat:Int)::toI (List.replicate k 48)
          rw[e5]
        · intro x hx
          rcases List.mem_append.1 hx with h'|h'
          · rcases List.mem_append.1 h' with h'|h'
            · exact h.left x h'
            · rw[List.mem_singleton.1 h',zbZ hd];omega
          · rw[List.eq_of_mem_replicate h'];exact⟨by decide,by decide⟩
        · rw[val_append,zcm,zbI,zbI,zb4 hd,List.length_replicate];rfl
        · simp;omega
      · rw[if_neg h9]
        obtain⟨r,r1,r2,r3,r4⟩:=zib m t (k+1) htl h.left
        have e6:toI t++(48:Int)::toI (List.replicate k 48)=toI (t++List.replicate (k+1) 48):=by rw[zbK,List.replicate_succ];rfl
        refine⟨r,by rw[e6,r1],r2,?_,by omega⟩
        have e7:dig c=9:=by unfold dig;omega
        rw[r3,zbI,e7,Nat.pow_succ,Nat.mul_comm (10^k) 10,←Nat.mul_assoc]
        congr 1
        omega
theorem zjO{l:List UInt8}(h:AllD l)(hl:l.length≤100000): ∃r,zbP.f (S l)=some (S r)∧AllD r∧val r=val l+1∧r.length≤l.length+1:=by
  obtain⟨r,r1,r2,r3,r4⟩:=zib l.length l 0 rfl h
  rw[List.replicate_zero,List.append_nil] at r1
  refine⟨r,?_,r2,by rw[r3,Nat.pow_zero,Nat.mul_one],by omega⟩
  unfold zbP.f
  rw[zc5,zaE,r1,if_pos hl,zc6]
theorem zcH(a:List UInt8)(n:Nat):(S a).extract 0 n=S (a.take n):=by
  rw[←S_L ((S a).extract 0 n),zdK,L_S,List.drop_zero,Nat.sub_zero]
theorem zgC(a:List UInt8)(n:Nat):(S a).extract n (S a).size=S (a.drop n):=by
  rw[←S_L ((S a).extract n (S a).size),zdK,L_S,zaE]
  congr 1
  apply List.take_of_length_le
  rw[List.length_drop]
  omega
theorem zec{a:List UInt8}{p:Int}(ha:AllD a)(hl:a.length≤4000)(hp: -100000≤p∧p≤100000)(n:Nat)(hn:n<a.length)(b:Bool)(hb:b=decide (downP a n)):
    Ev (fun k=>zaO.j1 k (n:Int) (S (a.take n)) b (S a) p) (decS (roundN a p n)):=by
  have hlen:(a.take n).length=n:=by rw[List.length_take];omega
  unfold roundN
  rw[if_neg (show¬(n:Int)<0 by omega),if_neg (show¬(a.length:Int)≤n by omega),Int.toNat_natCast]
  by_cases hd:downP a n
  · rw[if_pos hd]
    have hf:=zdf (S (a.take n)) p (by rw[zaE];omega) (by omega) (by omega)
    rw[L_S,zci (ha.take n),hlen] at hf
    refine Ev.step (fun k=>?_) (Ev.now _)
    simp only[zaO.j1]
    rw[if_pos (by rw[hb];exact decide_eq_true hd),hf,Option.bind_some]
  · rw[if_neg hd]
    obtain⟨r,r1,r2,r3,r4⟩:=zjO (ha.take n) (by omega)
    have hf:=zdf (S r) (p+r.length-n) (by rw[zaE];omega) (by omega) (by omega)
    rw[L_S,zci r2,r3,show p+(r.length:Int)-n-r.length=p-n by omega] at hf
    refine Ev.step (fun k=>?_) (Ev.now _)
    simp only[zaO.j1]
    rw[if_neg (by rw[hb,decide_eq_false hd];exact fun h=>by cases h),r1,Option.bind_some,zaE,zaX (x:=p+(r.length:Int)) (by omega) (by omega),zaX (x:=p+(r.length:Int)-n) (by omega) (by omega),hf,Option.bind_some]
theorem zhJ{a:List UInt8}{p:Int}(ha:InForm a p)(hl:a.length≤4000)(hp: -100000≤p∧p≤100000)(n:Nat)(hn:n<a.length)(odd:Bool)(ho:odd=decide (val (a.take n)%2=1)):
    Ev (fun k=>zaO.j0 k (n:Int) (S (a.take n)) (S (a.drop n)) odd (S a) p) (decS (roundN a p n)):=by
  have hdl:(a.drop n).length=a.length-n:=List.length_drop
  have h5:=zjN (ha.1.drop n) (zf2 n a ha.2.2.1) (fun e=>by rw[e,List.length_nil] at hdl;omega)
  rw[hdl] at h5
  by_cases c1:Op.bytesLess (a.drop n) [53]=true
  · refine Ev.step (fun k=>?_) (zec ha.1 hl hp n hn true (by symm;exact decide_eq_true (.inl (h5.1.1 c1))))
    simp only[zaO.j0]
    rw[zby,L_S,if_pos c1]
  · by_cases c2:a.drop n=[53]
    · refine Ev.step (fun k=>?_) (zec ha.1 hl hp n hn (!odd) ?_)
      · simp only[zaO.j0]
        rw[zby,L_S,if_neg c1,if_pos c2]
      · have h6:=h5.2.1 c2
        by_cases c3:val (a.take n)%2=1
        · rw[ho,decide_eq_true c3,decide_eq_false]
          · rfl
          · rintro(h7|⟨_,h7⟩)<;>omega
        · rw[ho,decide_eq_false c3,decide_eq_true (show downP a n from .inr ⟨h6,by omega⟩)]
          rfl
    · refine Ev.step (fun k=>?_) (zec ha.1 hl hp n hn false ?_)
      · simp only[zaO.j0]
        rw[zby,L_S,if_neg c1,if_neg c2]
      · rw[decide_eq_false]
        rintro(h7|⟨h7,_⟩)
        · exact c1 (h5.1.2 h7)
        · exact c2 (h5.2.2 h7)
theorem round_eq{a:List UInt8}{p:Int}(ha:InForm a p)(hl:a.length≤4000)(hp: -100000≤p∧p≤100000)(n:Int):Ev (fun k=>zaO.f k (S a) p n) (decS (roundN a p n)):=by
  unfold zaO.f
  by_cases c1:n<0
  · have e:roundN a p n=([],0):=by unfold roundN;rw[if_pos c1]
    rw[e]
    exact Ev.congr (fun k=>by rw[if_pos c1];rfl) (Ev.now _)
  · by_cases c2:n≥(a.length:Int)
    · have e:roundN a p n=(a,p):=by unfold roundN;rw[if_neg c1,if_pos c2]
      rw[e]
      exact Ev.congr (fun k=>by rw[if_neg c1,zaE,if_pos c2];rfl) (Ev.now _)
    · obtain⟨m,rfl⟩: ∃m:Nat,n=(m:Int):=⟨n.toNat,by omega⟩
      have hm:m<a.length:=by omega
      have key: ∀odd:Bool,odd=decide (val (a.take m)%2=1)→Ev (fun k=>zaO.j0 k (m:Int) ((S a).extract 0 m) ((S a).extract m (S a).size) odd (S a) p) (decS (roundN a p m)):=by
        intro odd ho
        rw[zcH,zgC]
        exact zhJ ha hl hp m hm odd ho
      by_cases c3:(m:Int)>0
      · refine Ev.congr (fun k=>?_) (key (((((bt ((S a).extract 0 m) ((m:Int)-1))-48)%256)%2)==1) ?_)
        · rw[if_neg c1,if_neg (by rw[zaE];omega),if_pos (by omega),if_pos (by rw[zaE];omega),if_pos c3,zaX (x:=(m:Int)-1) (by omega) (by omega),if_pos (by omega),Int.toNat_natCast,if_pos (by rw[zcH,zaE,List.length_take];omega)]
        · rw[zcH]
          obtain⟨j,rfl⟩: ∃j,m=j+1:=⟨m-1,by omega⟩
          have ej:((j+1:Nat):Int)-1=(j:Int):=by omega
          have hj:j<a.length:=by omega
          rw[ej,bt_L _ j (by rw[zaE,List.length_take];omega)]
          simp only[L_S,List.getElem_take]
          have etk:a.take (j+1)=a.take j++[a[j]]:=List.take_succ_eq_append_getElem hj
          have hx:=ha.1 a[j] (List.getElem_mem hj)
          have ev:val (a.take (j+1))=10*val (a.take j)+dig a[j]:=by rw[etk,zbI]
          rw[ev]
          have e3:((a[j].toNat:Int)-48)%256%2=(((10*val (a.take j)+dig a[j])%2:Nat):Int):=by unfold dig;omega
          rw[e3]
          by_cases c4:(10*val (a.take j)+dig a[j])%2=1
          · rw[c4];rfl
          · rw[show(10*val (a.take j)+dig a[j])%2=0 by omega];rfl
      · have h0:m=0:=by omega
        subst h0
        refine Ev.congr (fun k=>?_) (key false (by rw[List.take_zero,zbl];rfl))
        rw[if_neg c1,if_neg (by rw[zaE];omega),if_pos (by omega),if_pos (by rw[zaE];omega),if_neg c3]
        rfl
def roundS(s:ByteArray)(p:Int)(n:Int→Int):ByteArray×Int×Int:=
  if(normS s p).2.2=0 then((decS (roundN (L (normS s p).1) (normS s p).2.1 (n (normS s p).2.1))).1,(decS (roundN (L (normS s p).1) (normS s p).2.1 (n (normS s p).2.1))).2,0) else((⟨#[]⟩:ByteArray),0,(normS s p).2.2)
theorem ze6(s:ByteArray)(p n:Int):Ev (fun k=>zbp.f k s p n) (roundS s p fun _=>n):=by
  unfold zbp.f roundS
  refine Ev.bind (zcv s p) ?_
  rcases zbR s p with⟨e,h1,h2,_⟩|⟨l,u,h1,A,b1,b2,b3,_⟩
  · rw[h1,if_neg h2]
    exact Ev.congr (fun k=>by rw[if_neg h2]) (Ev.now _)
  · rw[h1,if_pos rfl]
    exact Ev.congr (fun k=>by rw[if_pos rfl]) (Ev.bind (f:=fun _ bt=>some (bt.1,bt.2,0)) (round_eq A (by omega) (by omega) n) (Ev.now _))
theorem zjq(n:Int):mx (-20000) (mn n 20000)=max (-20000) (min n 20000):=by
  unfold mx mn
  split<;>split<;>omega
theorem zgm(s:ByteArray)(p n:Int):Ev (fun k=>zbJ.f k s p n) (roundS s p fun u=>u+max (-20000) (min n 20000)):=by
  unfold zbJ.f roundS
  refine Ev.bind (zcv s p) ?_
  rcases zbR s p with⟨e,h1,h2,_⟩|⟨l,u,h1,A,b1,b2,b3,_⟩
  · rw[h1,if_neg h2]
    exact Ev.congr (fun k=>by rw[if_neg h2]) (Ev.now _)
  · rw[h1,if_pos rfl]
    refine Ev.congr (fun k=>by rw[if_pos rfl,zjq,zaX (x:=u+max (-20000) (min n 20000)) (by omega) (by omega)]) (Ev.bind (f:=fun _ bt=>some (bt.1,bt.2,0)) (round_eq A (by omega) (by omega) (u+max (-20000) (min n 20000))) (Ev.now _))
end Go.Proofs.YtecpgdfnamkfdaaGreatDoor.Pure
end
section
namespace Go.Proofs.YtecpgdfnamkfdaaGreatDoor.Pure
open Go.RowKit Go.Proofs.YtecpgdfnamkfdaaGreatDoorW.PrintWords
set_option linter.unusedVariables false
def Asc(l:List UInt8):Prop:= ∀c∈l,c.toNat<128
instance (l : List UInt8) : Decidable (Asc l) := by unfold Asc; infer_instance
theorem Asc.nil:Asc []:=fun c h=>by cases h
theorem Asc.app{a b:List UInt8}(ha:Asc a)(hb:Asc b):Asc (a++b):=fun c h=>(List.mem_append.1 h).elim (ha c) (hb c)
theorem Asc.cons{a:UInt8}{b:List UInt8}(ha:a.toNat<128)(hb:Asc b):Asc (a::b):=fun c h=>(List.mem_cons.1 h).elim (fun e=>e▸ha) (hb c)
theorem Asc.take{a:List UInt8}(h:Asc a)(n:Nat):Asc (a.take n):=fun c hc=>h c (List.mem_of_mem_take hc)
theorem Asc.drop{a:List UInt8}(h:Asc a)(n:Nat):Asc (a.drop n):=fun c hc=>h c (List.mem_of_mem_drop hc)
theorem Asc.rep(n:Nat){a:UInt8}(ha:a.toNat<128):Asc (List.replicate n a):=fun c hc=>by rw[(List.mem_replicate.1 hc).2];exact ha
theorem AllD.asc{l:List UInt8}(h:AllD l):Asc l:=fun c hc=>by have:=h c hc;omega
def zsL(n:Nat):List UInt8:=List.replicate n 48
theorem zcV(n:Nat):Asc (zsL n):=Asc.rep n (by decide)
theorem zbu(n:Nat):(zsL n).length=n:=List.length_replicate
theorem zdj(n:Nat):AllD (zsL n):=fun c hc=>by rw[(List.mem_replicate.1 hc).2];decide
def dch(n:Nat):UInt8:=if n<10 then UInt8.ofNat (48+n) else UInt8.ofNat (87+n)
theorem zf3{n:Nat}(h:n<16):(dch n).toNat<128:=by
  unfold dch
  split<;>rw[UInt8.toNat_ofNat']<;>omega
def bF(b:Nat):Nat→Nat→List UInt8
  |0,n=>[dch (n%b)]
  |k+1,n=>if n / b=0 then [dch (n%b)] else bF b k (n / b)++[dch (n%b)]
def bT(b n:Nat):List UInt8:=bF b 63 n
theorem zgR{b:Nat}(h:0<b∧b≤16): ∀k n,Asc (bF b k n)
  |0,n=>Asc.cons (zf3 (Nat.lt_of_lt_of_le (Nat.mod_lt _ h.1) h.2)) Asc.nil
  |k+1,n=>by
    have hd:=zf3 (Nat.lt_of_lt_of_le (Nat.mod_lt n h.1) h.2)
    unfold bF
    split
    · exact Asc.cons hd Asc.nil
    · exact(zgR h k _).app (Asc.cons hd Asc.nil)
theorem zfB{b:Nat}(h:0<b∧b≤16)(n:Nat):Asc (bT b n):=zgR h 63 n
theorem zgS(b:Nat): ∀k n,(bF b k n).length≤k+1
  |0,n=>Nat.le_refl _
  |k+1,n=>by
    unfold bF
    split
    · exact Nat.le_add_left _ _
    · rw[List.length_append];exact Nat.succ_le_succ (zgS b k _)
theorem zed(b:Nat): ∀k n j,n<b^(j+1)→(bF b k n).length≤j+1
  |0,n,j,h=>Nat.le_add_left _ _
  |k+1,n,j,h=>by
    unfold bF
    by_cases c:n / b=0
    · rw[if_pos c];exact Nat.le_add_left _ _
    · rw[if_neg c,List.length_append]
      cases j with
      |zero=>
        rw[Nat.pow_one] at h
        exact absurd (Nat.div_eq_of_lt h) c
      |succ j=>
        refine Nat.succ_le_succ (zed b k _ j ?_)
        rw[Nat.pow_succ] at h
        exact Nat.div_lt_of_lt_mul (by rw[Nat.mul_comm];exact h)
def fillL(l:List UInt8)(n:Int):List UInt8:=l++zsL (n-l.length).toNat
theorem zbX{l:List UInt8}(h:Asc l)(n:Int):Asc (fillL l n):=h.app (zcV _)
theorem zbA(l:List UInt8)(n:Int):((fillL l n).length:Int)=max (l.length:Int) n:=by
  unfold fillL
  rw[List.length_append,zbu]
  omega
def powL(sign:List UInt8)(e:Int)(least:Int):List UInt8:=sign++((if e<0 then [45] else [43])++(zsL (least-(bT 10 e.natAbs).length).toNat++bT 10 e.natAbs))
theorem zdv{s:List UInt8}(h:Asc s)(e least:Int):Asc (powL s e least):=by
  unfold powL
  refine h.app (Asc.app ?_ ((zcV _).app (zfB (by decide) _)))
  split<;>exact Asc.cons (by decide) Asc.nil
def ptL(dot:Bool)(a b:List UInt8):List UInt8:=if b=[]∧dot=false then a else a++(46::b)
theorem zcz{a b:List UInt8}(ha:Asc a)(hb:Asc b)(dot:Bool):Asc (ptL dot a b):=by
  unfold ptL
  split
  · exact ha
  · exact ha.app (Asc.cons (by decide) hb)
def eMark(big:Bool):List UInt8:=if big then [69] else [101]
theorem zgT(big:Bool):Asc (eMark big):=by cases big<;>exact Asc.cons (by decide) Asc.nil
def sciL(dot big:Bool)(l:List UInt8)(e:Int):List UInt8:=ptL dot (l.take 1) (l.drop 1)++powL (eMark big) e 2
theorem zhK{l:List UInt8}(h:Asc l)(dot big:Bool)(e:Int):Asc (sciL dot big l e):=(zcz (h.take 1) (h.drop 1) dot).app (zdv (zgT big) e 2)
def firstL(d:List UInt8×Int):Int:=if d.1=[] then 0 else d.2-1
def aroundL(dot:Bool)(l:List UInt8)(p:Int):List UInt8:=if p≤0 then ptL dot [48] (zsL (-p).toNat++l) else ptL dot ((fillL l p).take p.toNat) ((fillL l p).drop p.toNat)
theorem zfS{l:List UInt8}(h:Asc l)(dot:Bool)(p:Int):Asc (aroundL dot l p):=by
  unfold aroundL
  split
  · exact zcz (Asc.cons (by decide) Asc.nil) ((zcV _).app h) dot
  · exact zcz ((zbX h p).take _) ((zbX h p).drop _) dot
def scaledL(dot big:Bool)(v:List UInt8×Int)(p:Int):List UInt8:=sciL dot big (fillL (roundN v.1 v.2 (p+1)).1 (p+1)) (firstL (roundN v.1 v.2 (p+1)))
def fixedL(dot:Bool)(v:List UInt8×Int)(p:Int):List UInt8:=
  if(roundN v.1 v.2 (v.2+p)).1=[] then ptL dot [48] (zsL p.toNat)
  else if(roundN v.1 v.2 (v.2+p)).2≤0 then ptL dot [48] (fillL (zsL (-(roundN v.1 v.2 (v.2+p)).2).toNat++(roundN v.1 v.2 (v.2+p)).1) p)
  else aroundL dot (fillL (roundN v.1 v.2 (v.2+p)).1 ((roundN v.1 v.2 (v.2+p)).2+p)) (roundN v.1 v.2 (v.2+p)).2
def genL(dot big:Bool)(d:List UInt8×Int)(keep top:Int):List UInt8:=
  let l:=if d.1=[] then [48] else d.1
  let m:=if dot then fillL l keep else l
  if firstL d< -4∨firstL d≥top then sciL dot big m (firstL d) else aroundL dot m (firstL d+1)
def binL(m:Nat)(e:Int):List UInt8:=bT 10 m++powL [112] e 1
end Go.Proofs.YtecpgdfnamkfdaaGreatDoor.Pure
end
section
namespace Go.Proofs.YtecpgdfnamkfdaaGreatDoor.Pure
open Go.RowKit Go.Proofs.YtecpgdfnamkfdaaGreatDoorW.PrintWords Go.Proofs.YtecpgdfnamkfdaaGreatDoorW.PrintLast Go.Proofs.YtecpgdfnamkfdaaGreatDoorW.PrintMore Go.Proofs.YtecpgdfnamkfdaaGreatDoor.Fn
set_option linter.unusedVariables false
set_option linter.unusedSimpArgs false
theorem zb7(a b:List UInt8):S a++S b=S (a++b):=by
  rw[←S_L (S a++S b)]
  congr 1
theorem zeM(a:List UInt8)(n:Nat):(S a).extract n (S a).size=S (a.drop n):=by
  rw[←S_L ((S a).extract n (S a).size)]
  congr 1
  unfold L
  rw[ByteArray.data_extract,Array.toList_extract,zaE]
  simp[S,List.extract_eq_take_drop,List.take_of_length_le]
theorem zc8(a b:Int):mx a b=max a b:=by unfold mx;omega
theorem zfm(a b:Int):mn a b=min a b:=by unfold mn;omega
theorem zic(c:UInt8): ∀n,Lib.repeatL [c] n=List.replicate n c
  |0=>rfl
  |n+1=>by rw[Lib.repeatL,zic c n,List.replicate_succ];rfl
theorem ze7(c:UInt8){n:Int}(h0:0≤n)(h1:n≤1000000):strings_Repeat.f (S [c]) n=some (S (List.replicate n.toNat c)):=by
  unfold strings_Repeat.f
  rw[if_pos ⟨h0,h1,by rw[zaE];exact(show(1:Nat)≤1000000 by decide)⟩]
  have:(S [c]).data.toList=[c]:=rfl
  rw[this,zic]
  rfl
theorem zcA{n:Int}(h0:0≤n)(h1:n≤1000000):strings_Repeat.f (⟨#[48]⟩:ByteArray) n=some (S (zsL n.toNat)):=ze7 48 h0 h1
theorem zgU: ∀i:Nat,i<16→bt (⟨#[48,49,50,51,52,53,54,55,56,57,97,98,99,100,101,102]⟩:ByteArray) (i:Int)=((dch i).toNat:Int):=by decide
theorem zid{b:Nat}(hb:0<b∧b≤16): ∀(k m:Nat) (l:List Int),
    dgF (⟨#[48,49,50,51,52,53,54,55,56,57,97,98,99,100,101,102]⟩:ByteArray) b (k+1) m l=toI (bF b k m)++l
  |0,m,l=>by
    have h:=zgU (m%b) (Nat.lt_of_lt_of_le (Nat.mod_lt _ hb.1) hb.2)
    rw[dgF]
    split
    · rw[h];rfl
    · rw[dgF,h];rfl
  |k+1,m,l=>by
    have h:=zgU (m%b) (Nat.lt_of_lt_of_le (Nat.mod_lt _ hb.1) hb.2)
    rw[dgF,bF]
    by_cases c:m / b=0
    · rw[if_pos c,if_pos c,h];rfl
    · rw[if_neg c,if_neg c,zid hb k,h]
      unfold toI
      rw[List.map_append,List.append_assoc]
      rfl
theorem ze8{b:Nat}(hb:2≤b∧b≤16){n:Nat}(hn:n≤18446744073709551615):
    zbg.f (n:Int) (b:Int) (⟨#[48,49,50,51,52,53,54,55,56,57,97,98,99,100,101,102]⟩:ByteArray)=some (S (bT b n)):=by
  unfold zbg.f
  have hs:(⟨#[48,49,50,51,52,53,54,55,56,57,97,98,99,100,101,102]⟩:ByteArray).size=16:=rfl
  rw[if_pos ⟨by omega,by omega,by omega,by rw[hs];omega,by rw[hs];decide⟩,Int.toNat_natCast,Int.toNat_natCast,zid ⟨by omega,hb.2⟩,List.append_nil,zc6]
  rfl
theorem u64c(n:Nat)(h:n≤18446744073709551615):IntKind.u64.wrap (n:Int)=(n:Int):=IntWalk.u64_in _ ⟨by omega,by omega⟩
theorem zee{n:Nat}(hn:n≤18446744073709551615):zbd.f (n:Int) 10=some (S (bT 10 n)):=by
  unfold zbd.f
  rw[if_neg (by decide),if_neg (by decide),if_pos rfl,show IntKind.u64.wrap (10:Int)=((10:Nat):Int) from u64c 10 (by decide),ze8 (by decide) hn]
  rfl
theorem zhL{n:Nat}(hn:n≤18446744073709551615):zbd.f (n:Int) 16=some (S (bT 16 n)):=by
  unfold zbd.f
  rw[if_neg (by decide),if_neg (by decide),if_neg (by decide),if_pos rfl,show IntKind.u64.wrap (16:Int)=((16:Nat):Int) from u64c 16 (by decide),ze8 (by decide) hn]
  rfl
theorem zex(b n:Nat):(bT b n).length≤64:=zgS b 63 n
theorem zgV(l:List (List UInt8))(h:l.length≤1000)(h2:l.flatten.length≤1000000):strings_Join.f (l.map S) (⟨#[]⟩:ByteArray)=some (S l.flatten):=by
  have e:Lib.join ((l.map S).map (·.data.toList)) (⟨#[]⟩:ByteArray).data.toList=l.flatten:=by
    have e1:(l.map S).map (·.data.toList)=l:=by
      rw[List.map_map]
      exact List.map_id l
    rw[e1]
    unfold Lib.join
    have e2:(⟨#[]⟩:ByteArray).data.toList=([]:List UInt8):=rfl
    rw[e2]
    clear h h2 e1 e2
    induction l with
    |nil=>rfl
    |cons a t ih=>
      cases t with
      |nil=>simp[List.intercalate]
      |cons b u=> 
        rw[List.flatten_cons,←ih]
        simp[List.intercalate,List.intersperse]
  unfold strings_Join.f
  rw[if_pos ⟨by rw[List.length_map];exact h,by rw[e];exact h2⟩,e]
  rfl
theorem zdM(l:List (List UInt8))(h:l.length≤1000)(h2:l.flatten.length≤1000000):zaC.f (l.map S)=some (S l.flatten):=by
  unfold zaC.f
  rw[zgV l h h2]
  rfl
theorem zeN{a b:List UInt8}(h:a.length+b.length≤1000000):zaC.f [S a,S b]=some (S (a++b)):=by
  have:=zdM [a,b] (by simp) (by simp;omega)
  simpa using this
theorem zf4{a b c:List UInt8}(h:a.length+b.length+c.length≤1000000):zaC.f [S a,S b,S c]=some (S (a++(b++c))):=by
  have:=zdM [a,b,c] (by simp) (by simp;omega)
  simpa using this
theorem zf5{a b c d:List UInt8}(h:a.length+b.length+c.length+d.length≤1000000):zaC.f [S a,S b,S c,S d]=some (S (a++(b++(c++d)))):=by
  have:=zdM [a,b,c,d] (by simp) (by simp;omega)
  simpa using this
theorem w64{x:Int}(h1: -9223372036854775808≤x)(h2:x≤9223372036854775807):wrap64 x=x:=by unfold wrap64;omega
theorem zcn{l:List UInt8}{n:Int}(hl:l.length≤100000)(hn: -100000≤n∧n≤100000):za7.f (S l) n=some (S (fillL l n)):=by
  unfold za7.f
  rw[zaE,w64 (by omega) (by omega),zc8,zcA (by omega) (by omega),Option.bind_some,zaE,zbu,if_pos (by omega),zb7]
  unfold fillL
  rw[show(max 0 (n-(l.length:Int))).toNat=(n-(l.length:Int)).toNat by omega]
theorem zef{s:List UInt8}{e least:Int}(hs:s.length≤1000)(he: -100000≤e∧e≤100000)(hl:0≤least∧least≤1000):zbq.f (S s) e least=some (S (powL s e least)):=by
  have hb:=zex 10 e.natAbs
  unfold zbq.f powL
  by_cases c:e<0
  · rw[if_pos c,if_pos c,w64 (by omega) (by omega),show(-e)=((e.natAbs:Nat):Int) by omega,u64c _ (by omega),zee (by omega)]
    simp only[Option.bind_some]
    rw[zaE,w64 (by omega) (by omega),zc8,zcA (by omega) (by omega)]
    simp only[Option.bind_some]
    rw[show(⟨#[45]⟩:ByteArray)=S [45] from rfl,zf5 (by rw[zbu];simp;omega)]
    rw[show(max 0 (least-((bT 10 e.natAbs).length:Int))).toNat=(least-((bT 10 e.natAbs).length:Int)).toNat by omega]
    rfl
  · rw[if_neg c,if_neg c,show e=((e.natAbs:Nat):Int) by omega,u64c _ (by omega),Int.natAbs_natCast,zee (by omega)]
    simp only[Option.bind_some]
    rw[zaE,w64 (by omega) (by omega),zc8,zcA (by omega) (by omega)]
    simp only[Option.bind_some]
    rw[show(⟨#[43]⟩:ByteArray)=S [43] from rfl,zf5 (by rw[zbu];simp;omega)]
    rw[show(max 0 (least-((bT 10 e.natAbs).length:Int))).toNat=(least-((bT 10 e.natAbs).length:Int)).toNat by omega]
    rfl
theorem zbY(l:List UInt8):(S l).toList=([]:List UInt8)↔l=[]:=by rw[zby,L_S]
theorem zca(x0 x1 x2 x3 x4 x6:Int)(dot:Bool){a b:List UInt8}(h:a.length+b.length≤500000):zaJ.f x0 x1 x2 x3 x4 dot x6 (S a) (S b)=some (S (ptL dot a b)):=by
  have hj:zaC.f [S a,(⟨#[46]⟩:ByteArray),S b]=some (S (a++(46::b))):=by
    rw[show(⟨#[46]⟩:ByteArray)=S [46] from rfl,zf4 (by simp;omega)]
    rfl
  unfold zaJ.f ptL
  by_cases c:b=[]
  · rw[if_pos ((zbY b).2 c)]
    cases dot with
    |true=>rw[if_pos rfl,hj,if_neg (by simp)];rfl
    |false=>rw[if_neg (by simp),if_pos ⟨c,rfl⟩]
  · rw[if_neg (fun e=>c ((zbY b).1 e)),hj,if_neg (fun e=>c e.1)];rfl
theorem zcb(dot:Bool)(a b:List UInt8):(ptL dot a b).length≤a.length+b.length+1:=by
  unfold ptL
  split
  · omega
  · simp;omega
theorem zcB(s:List UInt8){e least:Int}(hl:0≤least∧least≤1000):(powL s e least).length≤s.length+1100:=by
  have hb:=zex 10 e.natAbs
  unfold powL
  rw[List.length_append,List.length_append,List.length_append,zbu]
  have:(if e<0 then([45]:List UInt8) else [43]).length=1:=by split<;>rfl
  omega
def bigV(v:Int):Bool:=v==69||v==71
theorem zgW(x0 x1 x2 x3 x4 v:Int)(dot:Bool){l:List UInt8}{e:Int}(hn:l≠[])(hl:l.length≤100000)(he: -100000≤e∧e≤100000):
    Ev (fun k=>zar.f k x0 x1 x2 x3 x4 dot v (S l) e) (S (sciL dot (bigV v) l e)):=by
  have h1:1≤l.length:=Nat.succ_le_of_lt (List.length_pos_iff.2 hn)
  have hp:=zca x0 x1 x2 x3 x4 v dot (a:=l.take 1) (b:=l.drop 1) (by rw[List.length_take,List.length_drop];omega)
  have hlen:=zcb dot (l.take 1) (l.drop 1)
  rw[List.length_take,List.length_drop] at hlen
  have key: ∀big:Bool,Ev (fun k=>zar.j0 k (S l) e (⟨#[101]⟩:ByteArray) big x0 x1 x2 x3 x4 dot v) (S (sciL dot big l e)):=by
    intro big
    have hw:=zcB (eMark big) (e:=e) (least:=2) (by decide)
    have hm:(eMark big).length=1:=by cases big<;>rfl
    have hq:=zef (s:=eMark big) (e:=e) (least:=2) (by omega) he (by decide)
    refine Ev.step (f:=fun _=>some (S (sciL dot big l e))) (fun k=>?_) (Ev.now _)
    simp only[zar.j0]
    rw[zaE,zcH,←zaE l,zeM,zaE,hp]
    cases big with
    |true=>
      rw[if_pos rfl,if_pos (by decide),if_pos (by omega)]
      simp only[Option.bind_some]
      rw[show(⟨#[69]⟩:ByteArray)=S (eMark true) from rfl,hq]
      simp only[Option.bind_some]
      rw[zeN (by omega)]
      rfl
    |false=>
      rw[if_neg (by simp),if_pos (by decide),if_pos (by omega)]
      simp only[Option.bind_some]
      rw[show(⟨#[101]⟩:ByteArray)=S (eMark false) from rfl,hq]
      simp only[Option.bind_some]
      rw[zeN (by omega)]
      rfl
  unfold zar.f
  by_cases c:v=69
  · refine Ev.congr (fun k=>if_pos c) ?_
    have:bigV v=true:=by unfold bigV;rw[c];rfl
    rw[this]
    exact key true
  · refine Ev.congr (fun k=>if_neg c) ?_
    have:bigV v=(v==71):=by unfold bigV;rw[beq_eq_false_iff_ne.mpr c];rfl
    rw[this]
    exact key _
theorem zeg(l:List UInt8){p:Int}(hp: -100000≤p∧p≤100000):zbB.f (S l) p=some (firstL (l,p)):=by
  unfold zbB.f firstL
  by_cases c:l=[]
  · rw[if_pos ((zbY l).2 c),if_pos c]
  · rw[if_neg (fun e=>c ((zbY l).1 e)),if_neg c,w64 (by omega) (by omega)]
theorem ze9(x0 x1 x2 x3 x4 x6:Int)(dot:Bool){l:List UInt8}{p:Int}(hl:l.length≤100000)(hp: -100000≤p∧p≤100000):zaB.f x0 x1 x2 x3 x4 dot x6 (S l) p=some (S (aroundL dot l p)):=by
  unfold zaB.f aroundL
  by_cases c:p≤0
  · rw[if_pos c,if_pos c,w64 (by omega) (by omega),zcA (by omega) (by omega)]
    simp only[Option.bind_some]
    rw[zaE,zaE,zbu,if_pos (by omega),zb7,show(⟨#[48]⟩:ByteArray)=S [48] from rfl,zca _ _ _ _ _ _ _ (by rw[List.length_append,zbu];simp;omega)]
    rfl
  · have hf:=zbA l p
    rw[if_neg c,if_neg c,zcn hl hp]
    simp only[Option.bind_some]
    rw[zaE,if_pos (by omega),if_pos (by omega),zcH,←zaE (fillL l p),zeM,zca _ _ _ _ _ _ _ (by rw[List.length_take,List.length_drop];omega)]
    rfl
theorem zgX(x0 x1 x4 x6:Int)(dot:Bool){m:Nat}{e:Int}(hm:m≤18446744073709551615)(he: -100000≤e∧e≤100000):zaS.f x0 x1 (m:Int) e x4 dot x6=some (S (binL m e)):=by
  have hb:=zex 10 m
  have hw:=zcB ([112]:List UInt8) (e:=e) (least:=1) (by decide)
  unfold zaS.f binL
  rw[zee hm]
  simp only[Option.bind_some]
  rw[show(⟨#[112]⟩:ByteArray)=S [112] from rfl,zef (by decide) he (by decide)]
  simp only[Option.bind_some]
  rw[zeN (by simp at hw;omega)]
  rfl
def sixL(n:Nat):List UInt8:=zsL (16-(bT 16 n).length)++bT 16 n
theorem zfC{n:Nat}(hn:n≤18446744073709551615):(bT 16 n).length≤16:=zed 16 63 n 15 (by omega)
theorem zeh{n:Nat}(hn:n≤18446744073709551615):(sixL n).length=16:=by
  have:=zfC hn
  unfold sixL
  rw[List.length_append,zbu]
  omega
theorem zfD{n:Nat}(hn:n≤18446744073709551615):za9.f (n:Int)=some (S (sixL n)):=by
  have hb:=zfC hn
  unfold za9.f sixL
  rw[zhL hn]
  simp only[Option.bind_some]
  rw[zaE,w64 (by omega) (by omega),zcA (by omega) (by omega)]
  simp only[Option.bind_some]
  rw[zaE,zbu,if_pos (by omega),zb7,show((16:Int)-((bT 16 n).length:Int)).toNat=16-(bT 16 n).length by omega]
theorem zf6(c:UInt8)(n:Int):zbC.f (c.toNat:Int) n=some (S (List.replicate (min n 1000).toNat c)):=by
  unfold zbC.f
  have e:strOfNums [(c.toNat:Int)]=S [c]:=zc6 [c]
  rw[e,zc8,zfm,ze7 c (by omega) (by omega),show(max 0 (min n 1000)).toNat=(min n 1000).toNat by omega]
  rfl
def padL(l:List UInt8)(minus zero:Bool)(wid:Int):List UInt8:=
  if minus then l++List.replicate (max 0 (min wid 1000)-l.length).toNat 32 else if zero then List.replicate (max 0 (min wid 1000)-l.length).toNat 48++l else List.replicate (max 0 (min wid 1000)-l.length).toNat 32++l
theorem zhM{l:List UInt8}(h:Asc l)(hl:l.length≤1000000):zbW.f (S l)=some (l.length:Int):=by
  have ha:(S l).data.toList.all (fun b=>b.toNat<128)=true:=List.all_eq_true.2 (fun c hc=>decide_eq_true (h c hc))
  unfold zbW.f
  rw[if_pos ⟨by rw[zaE];exact hl,ha⟩,zaE]
theorem zgY{l:List UInt8}(h:Asc l)(hl:l.length≤900000)(p m s sp z:Bool)(wid prec v:Int):zbD.f (S l) p m s sp z wid prec v=some (S (padL l m z wid)):=by
  unfold zbD.f padL
  rw[zhM h (by omega)]
  simp only[Option.bind_some]
  rw[zc8,zfm,w64 (by omega) (by omega)]
  have hf:=fun c:UInt8=>zf6 c (max 0 (min wid 1000)-(l.length:Int))
  have hm:(min (max 0 (min wid 1000)-(l.length:Int)) 1000).toNat=(max 0 (min wid 1000)-(l.length:Int)).toNat:=by omega
  rw[hm] at hf
  have A:=hf 32
  have B:=hf 48
  rw[show(((32:UInt8).toNat:Nat):Int)=32 from rfl] at A
  rw[show(((48:UInt8).toNat:Nat):Int)=48 from rfl] at B
  by_cases c:max 0 (min wid 1000)-(l.length:Int)≤0
  · have e0:(max 0 (min wid 1000)-(l.length:Int)).toNat=0:=by omega
    rw[if_pos c,e0]
    simp
  · rw[if_neg c,A,B]
    simp only[Option.bind_some,zaE,List.length_replicate]
    cases m with
    |true=>rw[if_pos rfl,if_pos (by omega),zb7];simp
    |false=>
      cases z with
      |true=>rw[if_neg (by simp),if_pos rfl,if_pos (by omega),zb7];simp
      |false=>rw[if_neg (by simp),if_neg (by simp),if_pos (by omega),zb7];simp
end Go.Proofs.YtecpgdfnamkfdaaGreatDoor.Pure
end
section
namespace Go.Proofs.YtecpgdfnamkfdaaGreatDoor.Pure
open Go.RowKit Go.Proofs.YtecpgdfnamkfdaaGreatDoorW.PrintWords Go.Proofs.YtecpgdfnamkfdaaGreatDoor.Fn
set_option linter.unusedVariables false
set_option linter.unusedSimpArgs false
theorem zf7{l:List UInt8}(h:AllD l):l.all isD=true:=List.all_eq_true.2 fun c hc=>(zdW c).2 (h c hc)
theorem zgn{l:List UInt8}{p:Int}(h:InForm l p):formL l p=(l,p):=by rw[zci h.1,zcI h]
theorem zb1{l:List UInt8}{p:Int}(h:InForm l p)(hl:l.length≤2000)(hp: -5000≤p∧p≤5000):normS (S l) p=(S l,p,0):=by
  unfold normS normTail
  rw[if_neg (by rw[zaE];omega),L_S,if_pos (zf7 h.1),if_neg (by omega),if_neg (by omega),zgn h]
  rfl
theorem ziD{a b:List UInt8}{p q:Int}(ha:InForm a p)(hb:InForm b q)(h1:a.length≤2000∧ -5000≤p∧p≤5000)(h2:b.length≤2000∧ -5000≤q∧q≤5000):addS (S a) p (S b) q=addD a p b q:=by
  unfold addS
  rw[zb1 ha h1.1 h1.2,zb1 hb h2.1 h2.2,if_pos rfl,if_pos rfl]
  show addD (L (S a)) p (L (S b)) q=_
  rw[L_S,L_S]
theorem ziE{a b:List UInt8}{p q:Int}(ha:InForm a p)(hb:InForm b q)(h1:a.length≤2000∧ -5000≤p∧p≤5000)(h2:b.length≤2000∧ -5000≤q∧q≤5000):cmpS (S a) p (S b) q=(cmpD a p b q,0):=by
  unfold cmpS
  rw[zb1 ha h1.1 h1.2,zb1 hb h2.1 h2.2,if_pos rfl,if_pos rfl]
  show(cmpD (L (S a)) p (L (S b)) q,(0:Int))=_
  rw[L_S,L_S]
theorem zgZ(k j:Nat):(10:Nat)^(k+j)=10^k*(2^j*5^j):=by
  rw[Nat.pow_add,←Nat.mul_pow]
theorem zfE(n:Nat)(x:Int)(V:Nat)(h: -(V:Int)≤x):decOf n x=decOf (n*10^(x+V).toNat) (-(V:Int)):=by
  have:=zcg n (x+V).toNat x
  rw[←this]
  congr 1
  omega
theorem zcL(m n U V:Nat)(e x:Int)(hU: -(U:Int)≤e)(hV:U≤V)(hx: -(V:Int)≤x):
    cmpD (decOf (m*eBase e^e.natAbs) (eLim e)).1 (decOf (m*eBase e^e.natAbs) (eLim e)).2 (decOf n x).1 (decOf n x).2=cmpN (m*2^(e+U).toNat*10^V) (n*10^(x+V).toNat*2^U):=by
  have he: -(V:Int)≤eLim e:=by unfold eLim;split<;>omega
  rw[zfE _ (eLim e) V he,zfE n x V hx,zgQ,←zfw _ _ (2^U) (Nat.pow_pos (by omega))]
  congr 1
  unfold eLim eBase
  by_cases c:e<0
  · rw[if_pos c,if_pos c]
    obtain⟨j,rfl⟩: ∃j:Nat,e= -(j:Int):=⟨e.natAbs,by omega⟩
    have e1:(-(j:Int)).natAbs=j:=by omega
    have e2:(-(j:Int)+(V:Int)).toNat=V-j:=by omega
    have e3:(-(j:Int)+(U:Int)).toNat=U-j:=by omega
    rw[e1,e2,e3]
    obtain⟨u,rfl⟩: ∃u,U=u+j:=⟨U-j,by omega⟩
    obtain⟨v,rfl⟩: ∃v,V=v+j:=⟨V-j,by omega⟩
    rw[Nat.add_sub_cancel,Nat.add_sub_cancel,zgZ,Nat.pow_add]
    simp only[Nat.mul_assoc,Nat.mul_comm,Nat.mul_left_comm]
  · rw[if_neg c,if_neg c]
    obtain⟨j,rfl⟩: ∃j:Nat,e=(j:Int):=⟨e.natAbs,by omega⟩
    have e1:((j:Int)).natAbs=j:=by omega
    have e2:((0:Int)+(V:Int)).toNat=V:=by omega
    have e3:((j:Int)+(U:Int)).toNat=j+U:=by omega
    rw[e1,e2,e3,Nat.pow_add]
    simp only[Nat.mul_assoc,Nat.mul_comm,Nat.mul_left_comm]
def vvGo(n:Nat):Nat:=if n=0 then 20000 else vvGo (n / 2)
def vv:Nat:=vvGo 0
theorem zb2:vv=20000:=by unfold vv;rw[vvGo];rfl
def CC:Nat:=10^vv
theorem zct:0<CC:=Nat.pow_pos (by omega)
def uu(wide:Bool):Nat:=ll wide+1
def dX(wide:Bool)(n:Nat)(x:Int):Nat:=n*10^(x+vv).toNat*2^uu wide
def flo(wide:Bool)(X:Nat):Nat:=if fW (ff wide) (ii wide)*(2*CC)≤X then ii wide else fFind (ff wide) X (2*CC) 64 0
def rdX(wide:Bool)(X:Nat):Nat:=fNear (ff wide) (ii wide) X (2*CC) (flo wide X)
theorem zdw(wide:Bool)(X:Nat):fFloor (ff wide) (ii wide) X (2*CC) (flo wide X):=by
  unfold flo
  by_cases c:fW (ff wide) (ii wide)*(2*CC)≤X
  · rw[if_pos c]
    exact⟨Nat.le_refl _,c,fun h=>absurd h (Nat.lt_irrefl _)⟩
  · rw[if_neg c]
    obtain⟨h1,h2,h3,h4⟩:=zds (ff wide) X (2*CC) 64 0 (by rw[zdY];omega)
    have hi:=(zcE wide).2.2
    have e:(2:Nat)^64=18446744073709551616:=by decide
    have h5:fW (ff wide) (ii wide)*(2*CC)≤fW (ff wide) (0+2^64)*(2*CC):=Nat.mul_le_mul_right _ (zfl (by omega))
    have h6:=h2 (by omega)
    generalize fFind (ff wide) X (2*CC) 64 0=q at*
    refine⟨?_,h1,fun _=>h6⟩
    by_cases c2:ii wide≤q
    · have:=Nat.mul_le_mul_right (2*CC) (zfl (f:=ff wide) c2)
      omega
    · omega
end Go.Proofs.YtecpgdfnamkfdaaGreatDoor.Pure
end
section
namespace Go.Proofs.YtecpgdfnamkfdaaGreatDoor.Fn
open Go.RowKit Go.Proofs.YtecpgdfnamkfdaaGreatDoorW.PrintWords Go.Proofs.YtecpgdfnamkfdaaGreatDoorW.PrintLast Go.Proofs.YtecpgdfnamkfdaaGreatDoorW.PrintMore
set_option linter.unusedVariables false
set_option linter.unusedSimpArgs false
set_option maxHeartbeats 8000000
set_option maxRecDepth 100000
section
attribute [local go_sem] fnW_0 fnW_1 fnW_2 fnW_3 fnW_4 fnW_5 fnW_guard fnW_eql zaK zaL zaQ zaR
def zbn.f(k:Nat)(D:Int)(E:Int)(I:Int)(a1:Int):Option (ByteArray×Int):=(zaV.f D E I a1).bind fun A=>((zaq.f k A.1 A.2).bind fun B=>(some (B.1,B.2.1)))
theorem zbn.calls(k:Nat)(A:Int)(B:Int)(D:Int)(a1:Int)(r1:ByteArray)(r2:Int)(w:World)(h:zbn.f k A B D a1=some (r1,r2)):
  Calls Tryz.prog 54 #[.agg #[.int .i64 A,.int .i64 B,.int .u64 D],.int .u64 a1] w fun e w'=>e= .returned (.agg #[.string r1,.int .i64 r2])∧Below w.heap.size w w':=by
 have aJ:=Tryz.underlying66
 have aK:=Tryz.underlying42
 have HB:=zaa.mk (Below.refl w.heap.size w)
 have H:((zaV.f A B D a1).bind fun aa=>((zaq.f k aa.1 aa.2).bind fun ab=>(some (ab.1,ab.2.1))))=some (r1,r2):=h
 clear h
 replace H:=bs H
 obtain⟨⟨ac,ad⟩,A3,H⟩:=H
 dsimp only at H
 replace H:=bs H
 obtain⟨⟨ae,af,ah⟩,A4,H⟩:=H
 dsimp only at H
 simp only[Option.some.injEq,Prod.mk.injEq] at H
 obtain⟨rfl,rfl⟩:=H
 go_enter Tryz.func54,Tryz.ntmps54
 go_wp2_with (first|((with_reducible refine zak (N:=2) rfl ?_);refine zaj rfl (N:=2) rfl (cs:=#[.int .i64 A,.int .i64 B,.int .u64 D]) (t:=66) gz ?_;intro E hg w5 hbox hb;have aA:=gN bz hg;have J:=zaa.mk hbox;replace HB:=bN bz hb;clear hb hbox hg)|((with_reducible refine zak (N:=4) rfl ?_);refine zaj rfl (N:=4) rfl (cs:=#[.string (⟨#[]⟩:ByteArray),.int .i64 0]) (t:=42) gz ?_;intro I hg w6 hbox hb;have aB:=gN bz hg;have M:=lN (g:=E) (cs:=#[.int .i64 A,.int .i64 B,.int .u64 D]) hg bk;have O:=rN (g:=E) (cs:=#[.int .i64 A,.int .i64 B,.int .u64 D]) hg bk;replace J:=kN (g:=E) (cs:=#[.int .i64 A,.int .i64 B,.int .u64 D]) hb bk;have K:=zaa.mk hbox;replace HB:=bN bz hb;clear hb hbox hg;have aL:=M.out;have aM:=O.out;obtain⟨au,av,aw,ax,ay,az⟩:=cz3 (W:=w6) J)|((with_reducible refine zac (f:=43) rfl ?_);refine zal (some 10) rfl rfl Tryz.func43 (by kernel_rfl) rfl #[.agg #[.int .i64 A,.int .i64 B,.int .u64 D],.int .u64 a1] rfl lz ?_;(with_reducible refine(zaV.calls A B D a1 ac ad _ A3.out).mono ?_);rintro e w9 ⟨rfl,hb⟩;refine⟨_,rfl,?_⟩;replace J:=kN (g:=E) (cs:=#[.int .i64 A,.int .i64 B,.int .u64 D]) hb bk;replace K:=kN (g:=I) (cs:=#[.string (⟨#[]⟩:ByteArray),.int .i64 0]) hb bk;replace HB:=bN bz hb;(try clear hb);(try clear aC);(try clear hk);(try clear hi))|((with_reducible refine zac (f:=29) rfl ?_);refine zal (some 13) rfl rfl Tryz.func29 (by kernel_rfl) rfl #[.int .u64 ac,.int .i64 ad] rfl lz ?_;(with_reducible refine(zaq.calls k ac ad ae af ah _ A4.out).mono ?_);rintro e aN ⟨rfl,hb⟩;refine⟨_,rfl,?_⟩;replace J:=kN (g:=E) (cs:=#[.int .i64 A,.int .i64 B,.int .u64 D]) hb bk;replace K:=kN (g:=I) (cs:=#[.string (⟨#[]⟩:ByteArray),.int .i64 0]) hb bk;replace HB:=bN bz hb;(try clear hb);(try clear aC);(try clear hk);(try clear hi))|((with_reducible refine zak (N:=5) rfl ?_);refine zaj rfl (N:=5) rfl (cs:=#[.string (⟨#[]⟩:ByteArray),.int .i64 0]) (t:=42) gz ?_;intro aD hg ai hbox hb;have aE:=gN bz hg;have U:=lN (g:=E) (cs:=#[.int .i64 A,.int .i64 B,.int .u64 D]) hg bk;have X:=rN (g:=E) (cs:=#[.int .i64 A,.int .i64 B,.int .u64 D]) hg bk;have Y:=lN (g:=I) (cs:=#[.string (⟨#[]⟩:ByteArray),.int .i64 0]) hg bk;have Z:=rN (g:=I) (cs:=#[.string (⟨#[]⟩:ByteArray),.int .i64 0]) hg bk;replace J:=kN (g:=E) (cs:=#[.int .i64 A,.int .i64 B,.int .u64 D]) hb bk;replace K:=kN (g:=I) (cs:=#[.string (⟨#[]⟩:ByteArray),.int .i64 0]) hb bk;have ag:=zaa.mk hbox;replace HB:=bN bz hb;clear hb hbox hg;have aF:=X.out;have aG:=U.out;have aH:=Z.out;have aI:=Y.out;obtain⟨aj,ak,al,am⟩:=cz2 (W:=ai) ag;obtain⟨an,ao,ap,ar⟩:=cz2 (W:=ai) K))
 refine bodyPost_ret (results_cell_row rfl _ _ I 42 #[.string ae,.int .i64 af] (0,0) _ rfl bk Tryz.underlying42 rfl (by kernel_rfl)) rfl ?_
 exact⟨ez,bz⟩
def za8.f(k:Nat)(a0:Int)(B:Int)(D:Int)(E:Int)(I:ByteArray)(J:Int):Option (Bool):=(zbn.f k B D E (IntKind.u64.wrap (a0))).bind fun A=>((za0.f k A.1 A.2 I J).bind fun K=>(some (decide (K>0))))
def za8.T1:Bool×List (List Nat×List Nat):=(true,[([],[]),([],[]),([1],[1]),([0,2],[0,2]),([],[]),([3,4,3],[3,4]),([5],[5]),([6,5,0,1,2,3,4,5,6],[6])])
def za8.B1:List Nat:=[0,0,2,7,0,31,63,127]
theorem za8.tab1:rtab .any (opsOf Tryz.f52 1)=za8.T1:=by kernel_rfl
theorem za8.bits1:waitsOk za8.T1.2 za8.B1=true:=by kernel_rfl
theorem za8.calls(k:Nat){g1:Nat}{g2:Nat}(a0:Int)(D:Int)(E:Int)(I:Int)(J:ByteArray)(M:Int)(r:Bool)(w:World)(aa:w.heap[g1]? =some (.cells #[.int .i64 D,.int .i64 E,.int .u64 I] 66 (0,0)))(ab:w.heap[g2]? =some (.cells #[.string J,.int .i64 M] 42 (0,0)))(h:za8.f k a0 D E I J M=some r):
  Calls Tryz.prog 52 #[.int .i64 a0,.pointer (some ⟨g1,0,none⟩),.pointer (some ⟨g2,0,none⟩)] w fun e w'=>e= .returned (.bool r)∧Below w.heap.size w w':=by
 have ad:=Tryz.underlying66
 have ae:=Tryz.underlying42
 have A:=zaa.mk aa
 clear aa
 have B:=zaa.mk ab
 clear ab
 have HB:=zaa.mk (Below.refl w.heap.size w)
 have H:((zbn.f k D E I (IntKind.u64.wrap (a0))).bind fun U=>((za0.f k U.1 U.2 J M).bind fun X=>(some (decide (X>0)))))=some r:=h
 clear h
 replace H:=bs H
 obtain⟨⟨Y,Z⟩,A4,H⟩:=H
 dsimp only at H
 replace H:=bs H
 obtain⟨X,A5,H⟩:=H
 obtain rfl:=Option.some.inj H
 go_enter Tryz.func52,Tryz.ntmps52
 try go_wp2
 replace A:=zaa.mk (zaw A.out)
 replace B:=zaa.mk (zaw B.out)
 replace HB:=zaa.mk (zaT HB.out)
 refine zbo (n:=8) (S:=fun w'=>w'.cell? ⟨g1,0,none⟩=some (.int .i64 D)∧w'.cell? ⟨g1,1,none⟩=some (.int .i64 E)∧w'.cell? ⟨g1,2,none⟩=some (.int .u64 I)∧w'.cell? ⟨g2,0,none⟩=some (.string J)∧w'.cell? ⟨g2,1,none⟩=some (.int .i64 M)) (ds:=[]) #[false,false,false,false,false,false,false,false] (by kernel_rfl) rfl rfl ⟨(zab A.out 0).trans rfl,(zab A.out 1).trans rfl,(zab A.out 2).trans rfl,(zab B.out 0).trans rfl,(zab B.out 1).trans rfl⟩ (fun hHeld=>?_);refine zbf za8.tab1 za8.bits1 (fun O HW_=>?_)
 generalize w.drew=w6 at A B HB hHeld ⊢
 refine zau (i:=1) (N:=some 6) (v:=?_) (a':=?_) #[false,true,false,false,false,false,false,false] rfl rfl (zas O.out (by kernel_rfl)) (fun _ _ _ h=>h) (Or.inl ⟨by rfl,?_⟩) ?_ ?_
 rotate_left
 ·intro w'
  go_simp
  with_reducible rfl
 rotate_left
 ·simp only[Act.put,List.setIfInBounds_toArray,List.set_cons_zero,List.set_cons_succ,zad,zaf]
  rfl
 refine zau (i:=2) (N:=some 7) (v:=?_) (a':=?_) #[false,true,true,false,false,false,false,false] rfl rfl (zas O.out (by kernel_rfl)) (fun _ _ _ h=>h) (Or.inl ⟨by rfl,?_⟩) ?_ ?_
 rotate_left
 ·intro w'
  go_simp
  with_reducible rfl
 rotate_left
 ·simp only[Act.put,List.setIfInBounds_toArray,List.set_cons_zero,List.set_cons_succ,zad,zaf]
  rfl
 refine zaW (i:=0) (N:=some 5) (v:=?_) (a':=?_) #[true,true,true,false,false,false,false,false] rfl rfl (zaH O.out HW_.out (by kernel_rfl)) (fun _ _ _ h=>h) (Or.inl ⟨by rfl,?_⟩) hHeld ?_ ?_
 rotate_left
 ·rintro w' ⟨s0,s1,s2,s3,s4⟩
  go_simp
  with_reducible rfl
 rotate_left
 ·simp only[Act.put,List.setIfInBounds_toArray,List.set_cons_zero,List.set_cons_succ,zad,zaf]
  rfl
 refine zaW (i:=4) (N:=some 9) (v:=?_) (a':=?_) #[true,true,true,false,true,false,false,false] rfl rfl (zaH O.out HW_.out (by kernel_rfl)) (fun _ _ _ h=>h) (Or.inl ⟨by rfl,?_⟩) hHeld ?_ ?_
 rotate_left
 ·rintro w' ⟨s0,s1,s2,s3,s4⟩
  go_simp
  with_reducible rfl
 rotate_left
 ·simp only[Act.put,List.setIfInBounds_toArray,List.set_cons_zero,List.set_cons_succ,zad,zaf]
  rfl
 refine one_ (i:=3) (N:=some 8) #[true,true,true,true,true,false,false,false] rfl rfl (zaZ O.out (by kernel_rfl)) (by decide) (fun K hK=>?_)
 refine za5 Tryz.func54 (by kernel_rfl) rfl #[.agg #[.int .i64 D,.int .i64 E,.int .u64 I],.int .u64 (IntKind.u64.wrap (a0))] (by rfl) rfl rfl lz ?_
 with_reducible refine(zbn.calls k D E I (IntKind.u64.wrap (a0)) Y Z _ A4.out).mono ?_
 rintro e w7 ⟨rfl,hb⟩
 refine⟨_,rfl,?_⟩
 replace A:=zaa.mk (zag (g:=g1) (o:=.cells #[.int .i64 D,.int .i64 E,.int .u64 I] 66 (0,0)) bk hb)
 replace B:=zaa.mk (zag (g:=g2) (o:=.cells #[.string J,.int .i64 M] 42 (0,0)) bk hb)
 replace HB:=zaa.mk (zam bz hb)
 (try clear hb)
 (try clear ac)
 (try clear hk)
 (try clear hi)
 refine hK.out _ _ ⟨(zab A.out 0).trans rfl,(zab A.out 1).trans rfl,(zab A.out 2).trans rfl,(zab B.out 0).trans rfl,(zab B.out 1).trans rfl⟩ (fun hHeld=>?_)
 clear hK K
 refine zaY (a':=?_) ?_ ?_
 rotate_left
 ·show Act.put _ (some 8) _=_
  simp only[Act.put,List.setIfInBounds_toArray,List.set_cons_zero,List.set_cons_succ,zad,zaf]
  rfl
 refine one_ (i:=5) (N:=some 10) #[true,true,true,true,true,true,false,false] rfl rfl (zaZ O.out (by kernel_rfl)) (by decide) (fun K hK=>?_)
 refine za5 Tryz.func53 (by kernel_rfl) rfl #[.agg #[.string Y,.int .i64 Z],.agg #[.string J,.int .i64 M]] (by rfl) rfl rfl lz ?_
 with_reducible refine(za0.calls k Y Z J M X _ A5.out).mono ?_
 rintro e w8 ⟨rfl,hb⟩
 refine⟨_,rfl,?_⟩
 replace A:=zaa.mk (zag (g:=g1) (o:=.cells #[.int .i64 D,.int .i64 E,.int .u64 I] 66 (0,0)) bk hb)
 replace B:=zaa.mk (zag (g:=g2) (o:=.cells #[.string J,.int .i64 M] 42 (0,0)) bk hb)
 replace HB:=zaa.mk (zam bz hb)
 (try clear hb)
 (try clear ac)
 (try clear hk)
 (try clear hi)
 refine hK.out _ _ ⟨(zab A.out 0).trans rfl,(zab A.out 1).trans rfl,(zab A.out 2).trans rfl,(zab B.out 0).trans rfl,(zab B.out 1).trans rfl⟩ (fun hHeld=>?_)
 clear hK K
 refine zaY (a':=?_) ?_ ?_
 rotate_left
 ·show Act.put _ (some 10) _=_
  simp only[Act.put,List.setIfInBounds_toArray,List.set_cons_zero,List.set_cons_succ,zad,zaf]
  rfl
 refine zau (i:=6) (N:=some 11) (v:=?_) (a':=?_) #[true,true,true,true,true,true,true,false] rfl rfl (zas O.out (by kernel_rfl)) (fun _ _ _ h=>h) (Or.inl ⟨by rfl,?_⟩) ?_ ?_
 rotate_left
 ·intro w'
  go_simp
  with_reducible rfl
 rotate_left
 ·simp only[Act.put,List.setIfInBounds_toArray,List.set_cons_zero,List.set_cons_succ,zad,zaf]
  rfl
 refine zau (i:=7) (N:=some 4) (v:=?_) (a':=?_) #[true,true,true,true,true,true,true,true] rfl rfl (zas O.out (by kernel_rfl)) (fun _ _ _ h=>h) (Or.inl ⟨by rfl,?_⟩) ?_ ?_
 rotate_left
 ·intro w'
  go_simp
  with_reducible rfl
 rotate_left
 ·simp only[Act.put,List.setIfInBounds_toArray,List.set_cons_zero,List.set_cons_succ,zad,zaf]
  rfl
 refine zbx (zbs O.out (by kernel_rfl)) ?_
 try go_wp2
 go_ret
 exact⟨ez,bz⟩
end
def searchF(p:Int→Option Bool):Nat→Nat→Nat→Option Nat
  |0,_,_=>none
  |k+1,lo,hi=>if lo<hi then(p (((lo+hi) / 2:Nat):Int)).bind fun b=>if b=true then searchF p k lo ((lo+hi) / 2) else searchF p k ((lo+hi) / 2+1) hi else some lo
def sort_Search.f(k:Nat)(n s0 s1 s2:Int)(d0:ByteArray)(d1:Int):Option Int:=
  if 0≤n∧n<9223372036854775807 then(searchF (fun i=>za8.f k i s0 s1 s2 d0 d1) k 0 n.toNat).bind fun r=>some (r:Int) else none
theorem ziF(lo hi:Nat)(h1:lo<hi)(h2:hi<9223372036854775807):wrap64 (IntKind.u64.wrap (wrap64 ((lo:Int)+(hi:Int))) / 2)=(((lo+hi) / 2:Nat):Int):=by
  have e:IntKind.u64.wrap (wrap64 ((lo:Int)+(hi:Int)))=((lo+hi:Nat):Int):=by
    simp[IntKind.wrap,wrap64,IntKind.bits,IntKind.signed]
    omega
  rw[e]
  unfold wrap64
  omega
set_option maxHeartbeats 4000000 in
set_option maxRecDepth 100000 in
theorem zfF(cb:Array Value)(p:Int→Option Bool)(w:World)(eg: ∀args w,(callFunc 52 args).run Tryz.prog w= .ok (.enter 52 args) w)
    (hf: ∀(W:World) (i:Int) (b:Bool),Below w.heap.size w W→p i=some b→Calls Tryz.prog 52 (#[.int .i64 i]++cb) W fun e w'=>e= .returned (.bool b)∧Below W.heap.size W w')
    (k n r:Nat) (h1:n<9223372036854775807) (h:searchF p k 0 n=some r):
    Calls Tryz.prog 55 #[.int .i64 (n:Int),.func (.func 52) #[] cb] w fun e w'=>e= .returned (.int .i64 (r:Int))∧Below w.heap.size w w':=by
  have HF:=zaa.mk hf
  clear hf
  have HS:=zaa.mk h
  clear h
  have HB:=zaa.mk (Below.refl w.heap.size w)
  go_enter Tryz.func55,Tryz.ntmps55
  go_wp2
  go_loopg [5,6] k (fun kx s5 s6 wr=> ∃(lo hi kk:Nat),s5= .int .i64 (lo:Int)∧s6= .int .i64 (hi:Int)∧lo≤hi∧hi≤n∧kk≤kx∧zaa (searchF p kk lo hi=some r)∧zaa (Below w.heap.size w wr))
  case atStart=>exact⟨0,n,k,rfl,rfl,Nat.zero_le _,Nat.le_refl _,Nat.le_refl _,HS,HB⟩
  case round=>
    obtain⟨lo,hi,kk,rfl,rfl,hlh,hin,hkk,HR,HW⟩:=hrel
    cases kk with
    |zero=>exact absurd HR.out (by simp[searchF])
    |succ kk=>
      by_cases hlt:lo<hi
      · have hr:=HR.out
        simp only[searchF] at hr
        rw[if_pos hlt] at hr
        obtain⟨b,hb,hr⟩:=Option.bind_eq_some_iff.1 hr
        have hc:=HF.out _ _ b HW.out hb
        have E:=ziF lo hi hlt (by omega)
        obtain⟨m,hm⟩: ∃m,(lo+hi) / 2=m:=⟨_,rfl⟩
        rw[hm] at hc hr E
        have B:lo≤m:=by omega
        have D:m<hi:=by omega
        clear hm hb HR
        have HC:=zaa.mk hc
        clear hc
        cases b with
        |false=>
          rw[if_neg (by simp)] at hr
          have HR:=zaa.mk hr
          clear hr
          go_wp2_with (go_at_fn 52;refine HC.out.mono ?_;rintro e w' ⟨rfl,hbw⟩)
          go_roundg kk
          case measure=>omega
          case rel=>
            exact⟨m+1,hi,kk,by go_num,rfl,by omega,hin,Nat.le_refl _,HR,⟨HW.out.trans (hbw.mono HW.out.size)⟩⟩
        |true=>
          rw[if_pos rfl] at hr
          have HR:=zaa.mk hr
          clear hr
          go_wp2_with (go_at_fn 52;refine HC.out.mono ?_;rintro e w' ⟨rfl,hbw⟩)
          go_roundg kk
          case measure=>omega
          case rel=>
            exact⟨lo,m,kk,rfl,rfl,by omega,by omega,Nat.le_refl _,HR,⟨HW.out.trans (hbw.mono HW.out.size)⟩⟩
      · have hr:=HR.out
        simp only[searchF] at hr
        rw[if_neg hlt] at hr
        have A:=zaa.mk (Option.some.inj hr)
        clear hr HR
        go_wp2
        go_ret
        exact⟨by first|(simp[A.out];done)|(have e_:=A.out;rw[e_];rfl)|(have e_:=A.out;omega),HW.out⟩
theorem sort_Search.calls(k:Nat)(n s0 s1 s2:Int)(d0:ByteArray)(d1 r:Int)(w:World){g1 g2:Nat}(h1:w.heap[g1]? =some (.cells #[.int .i64 s0,.int .i64 s1,.int .u64 s2] 66 (0,0)))
    (h2:w.heap[g2]? =some (.cells #[.string d0,.int .i64 d1] 42 (0,0))) (h:sort_Search.f k n s0 s1 s2 d0 d1=some r):
    Calls Tryz.prog 55 #[.int .i64 n,.func (.func 52) #[] #[.pointer (some ⟨g1,0,none⟩),.pointer (some ⟨g2,0,none⟩)]] w fun e w'=>e= .returned (.int .i64 r)∧Below w.heap.size w w':=by
  unfold sort_Search.f at h
  by_cases hn:0≤n∧n<9223372036854775807
  · rw[if_pos hn] at h
    obtain⟨m,hm,h⟩:=Option.bind_eq_some_iff.1 h
    obtain rfl:=Option.some.inj h
    obtain⟨j,rfl⟩: ∃j:Nat,n=(j:Int):=⟨n.toNat,by omega⟩
    refine zfF _ (fun i=>za8.f k i s0 s1 s2 d0 d1) w (fun args w=>zeG Tryz.func52 (by kernel_rfl) rfl args w) (fun W i b hB hb=>?_) k j m (by omega) hm
    have e1:W.heap[g1]? =w.heap[g1]? :=hB.block g1 (za3 h1)
    have e2:W.heap[g2]? =w.heap[g2]? :=hB.block g2 (za3 h2)
    exact za8.calls k i s0 s1 s2 d0 d1 b W (e1.trans h1) (e2.trans h2) hb
  · rw[if_neg hn] at h;cases h
end Go.Proofs.YtecpgdfnamkfdaaGreatDoor.Fn
end
section
namespace Go.Proofs.YtecpgdfnamkfdaaGreatDoor.Pure
open Go.RowKit Go.Proofs.YtecpgdfnamkfdaaGreatDoor.Fn Go.Proofs.YtecpgdfnamkfdaaGreatDoorW.PrintWords
set_option linter.unusedVariables false
theorem zg0{p:Nat→Int→Option Bool}{g:Nat→Bool}{n:Nat}(hp: ∀i,i<n→Ev (fun k=>p k (i:Int)) (g i))(hm: ∀a b,a≤b→b<n→g a=true→g b=true):
    ∀d lo hi,hi-lo≤d→lo≤hi→hi≤n→(∀t,t<lo→g t=false)→(∀t,hi≤t→t<n→g t=true)→
      ∃r K,(∀k,K≤k→ ∀j,d<j→searchF (p k) j lo hi=some r)∧r≤n∧(∀t,t<r→g t=false)∧(∀t,r≤t→t<n→g t=true):=by
  intro d
  induction d with
  |zero=>
    intro lo hi hd hlh hin h1 h2
    obtain rfl:lo=hi:=by omega
    refine⟨lo,0,fun k _ j hj=>?_,hin,h1,h2⟩
    obtain⟨i,rfl⟩: ∃i,j=i+1:=⟨j-1,by omega⟩
    unfold searchF
    rw[if_neg (by omega)]
  |succ d ih=>
    intro lo hi hd hlh hin h1 h2
    by_cases hlt:lo<hi
    · have hml:lo≤(lo+hi) / 2:=by omega
      have hmh:(lo+hi) / 2<hi:=by omega
      generalize hmm:(lo+hi) / 2=m at hml hmh
      obtain⟨Km,hKm⟩:=hp m (by omega)
      cases hg:g m with
      |true=>
        obtain⟨r,K,h3,h4⟩:=ih lo m (by omega) hml (by omega) h1 (fun t ht htn=>hm m t ht htn hg)
        refine⟨r,max K Km,fun k hk j hj=>?_,h4⟩
        obtain⟨i,rfl⟩: ∃i,j=i+1:=⟨j-1,by omega⟩
        unfold searchF
        rw[if_pos hlt,hmm]
        have:=hKm k (by omega)
        simp only at this
        rw[this,hg,Option.bind_some,if_pos rfl]
        exact h3 k (by omega) i (by omega)
      |false=>
        obtain⟨r,K,h3,h4⟩:=ih (m+1) hi (by omega) (by omega) hin (fun t ht=>by
          cases A:g t with
          |false=>rfl
          |true=>have:=hm t m (by omega) (by omega) A;rw[hg] at this;cases this) h2
        refine⟨r,max K Km,fun k hk j hj=>?_,h4⟩
        obtain⟨i,rfl⟩: ∃i,j=i+1:=⟨j-1,by omega⟩
        unfold searchF
        rw[if_pos hlt,hmm]
        have:=hKm k (by omega)
        simp only at this
        rw[this,hg,Option.bind_some,if_neg (by decide)]
        exact h3 k (by omega) i (by omega)
    · obtain rfl:lo=hi:=by omega
      refine⟨lo,0,fun k _ j hj=>?_,hin,h1,h2⟩
      obtain⟨i,rfl⟩: ∃i,j=i+1:=⟨j-1,by omega⟩
      unfold searchF
      rw[if_neg (by omega)]
theorem zg1{s0 s1 s2:Int}{d0:ByteArray}{d1:Int}{g:Nat→Bool}{n:Nat}(hn:n<9223372036854775807)(hp: ∀i,i<n→Ev (fun k=>za8.f k (i:Int) s0 s1 s2 d0 d1) (g i))(hm: ∀a b,a≤b→b<n→g a=true→g b=true):
    ∃r:Nat,Ev (fun k=>sort_Search.f k (n:Int) s0 s1 s2 d0 d1) (r:Int)∧r≤n∧(∀t,t<r→g t=false)∧(∀t,r≤t→t<n→g t=true):=by
  obtain⟨r,K,h1,h2⟩:=zg0 (p:=fun k i=>za8.f k i s0 s1 s2 d0 d1) hp hm n 0 n (by omega) (by omega) (Nat.le_refl _) (fun t ht=>absurd ht (Nat.not_lt_zero _)) (fun t a b=>by omega)
  refine⟨r,⟨max K (n+1),fun k hk=>?_⟩,h2⟩
  show sort_Search.f k (n:Int) s0 s1 s2 d0 d1=some (r:Int)
  unfold sort_Search.f
  rw[if_pos (by omega),Int.toNat_natCast,h1 k (by omega) k (by omega)]
  rfl
end Go.Proofs.YtecpgdfnamkfdaaGreatDoor.Pure
end
section
namespace Go.Proofs.YtecpgdfnamkfdaaGreatDoor.Fn
open Go.RowKit Go.Proofs.YtecpgdfnamkfdaaGreatDoorW.PrintWords Go.Proofs.YtecpgdfnamkfdaaGreatDoorW.PrintLast Go.Proofs.YtecpgdfnamkfdaaGreatDoorW.PrintMore
set_option linter.unusedVariables false
set_option linter.unusedSimpArgs false
set_option maxHeartbeats 8000000
set_option maxRecDepth 100000
section
attribute [local go_sem] fnW_0 fnW_1 fnW_2 fnW_3 fnW_4 fnW_5 fnW_guard fnW_eql zaK zaL zaQ zaR
def zbt.f(k:Nat)(K:ByteArray)(M:Int)(a1:Int):Option (Int×Int):=(zbF.f a1).bind fun A=>(if A.2.2.2=true then((zaA.f k K M).bind fun B=>(if B.2.2=0 then(if B.2.1>400 then(some (A.2.2.1,0)) else(if B.2.1<(-400) then(some (0,0)) else((sort_Search.f k (wrap64 ((wrap64 (A.2.2.1))+1)) A.1 A.2.1 A.2.2.1 B.1 B.2.1).bind fun D=>(if(IntKind.u64.wrap (D))=0 then(some (0,0)) else(if(IntKind.u64.wrap ((IntKind.u64.wrap (D))-1))=A.2.2.1 then(some (IntKind.u64.wrap ((IntKind.u64.wrap (D))-1),0)) else((zaV.f A.1 A.2.1 A.2.2.1 (IntKind.u64.wrap ((IntKind.u64.wrap (D))-1))).bind fun E=>((zaq.f k (IntKind.u64.wrap ((IntKind.u64.wrap (2*E.1))+1)) (wrap64 (E.2-1))).bind fun I=>((za0.f k B.1 B.2.1 I.1 I.2.1).bind fun J=>(if J>0 then(some (IntKind.u64.wrap ((IntKind.u64.wrap ((IntKind.u64.wrap (D))-1))+1),0)) else(if J=0 then(if(Int.tmod (IntKind.u64.wrap ((IntKind.u64.wrap (D))-1)) 2)=1 then(some (IntKind.u64.wrap ((IntKind.u64.wrap ((IntKind.u64.wrap (D))-1))+1),0)) else(some (IntKind.u64.wrap ((IntKind.u64.wrap (D))-1),0))) else(some (IntKind.u64.wrap ((IntKind.u64.wrap (D))-1),0)))))))))))) else(some (0,B.2.2)))) else(some (0,1)))
theorem zbt.calls(k:Nat)(al:ByteArray)(am:Int)(a1:Int)(r1:Int)(r2:Int)(w:World)(h:zbt.f k al am a1=some (r1,r2)):
  Calls Tryz.prog 34 #[.agg #[.string al,.int .i64 am],.int .i64 a1] w fun e w'=>e= .returned (.tuple #[.int .u64 r1,.int .i64 r2])∧Below w.heap.size w w':=by
 have dk:=Tryz.underlying42
 have dl:=Tryz.underlying66
 have HB:=zaa.mk (Below.refl w.heap.size w)
 have H:((zbF.f a1).bind fun ad=>(if ad.2.2.2=true then((zaA.f k al am).bind fun ag=>(if ag.2.2=0 then(if ag.2.1>400 then(some (ad.2.2.1,0)) else(if ag.2.1<(-400) then(some (0,0)) else((sort_Search.f k (wrap64 ((wrap64 (ad.2.2.1))+1)) ad.1 ad.2.1 ad.2.2.1 ag.1 ag.2.1).bind fun Y=>(if(IntKind.u64.wrap (Y))=0 then(some (0,0)) else(if(IntKind.u64.wrap ((IntKind.u64.wrap (Y))-1))=ad.2.2.1 then(some (IntKind.u64.wrap ((IntKind.u64.wrap (Y))-1),0)) else((zaV.f ad.1 ad.2.1 ad.2.2.1 (IntKind.u64.wrap ((IntKind.u64.wrap (Y))-1))).bind fun az=>((zaq.f k (IntKind.u64.wrap ((IntKind.u64.wrap (2*az.1))+1)) (wrap64 (az.2-1))).bind fun aA=>((za0.f k ag.1 ag.2.1 aA.1 aA.2.1).bind fun ai=>(if ai>0 then(some (IntKind.u64.wrap ((IntKind.u64.wrap ((IntKind.u64.wrap (Y))-1))+1),0)) else(if ai=0 then(if(Int.tmod (IntKind.u64.wrap ((IntKind.u64.wrap (Y))-1)) 2)=1 then(some (IntKind.u64.wrap ((IntKind.u64.wrap ((IntKind.u64.wrap (Y))-1))+1),0)) else(some (IntKind.u64.wrap ((IntKind.u64.wrap (Y))-1),0))) else(some (IntKind.u64.wrap ((IntKind.u64.wrap (Y))-1),0)))))))))))) else(some (0,ag.2.2)))) else(some (0,1))))=some (r1,r2):=h
 clear h
 replace H:=bs H
 obtain⟨⟨I,J,B,aH⟩,A3,H⟩:=H
 dsimp only at H
 go_enter Tryz.func34,Tryz.ntmps34
 go_upto_if 22 with(first|((with_reducible refine zak (N:=2) rfl ?_);refine zaj rfl (N:=2) rfl (cs:=#[.string al,.int .i64 am]) (t:=42) gz ?_;intro A hg w4 hbox hb;have cz:=gN bz hg;have E:=zaa.mk hbox;replace HB:=bN bz hb;clear hb hbox hg)|((with_reducible refine zac (f:=42) rfl ?_);refine zal (some 18) rfl rfl Tryz.func42 (by kernel_rfl) rfl #[.int .i64 a1] rfl lz ?_;(with_reducible refine(zbF.calls a1 I J B aH _ A3.out).mono ?_);rintro e w5 ⟨rfl,hb⟩;refine⟨_,rfl,?_⟩;replace E:=kN (g:=A) (cs:=#[.string al,.int .i64 am]) hb bk;replace HB:=bN bz hb;(try clear hb);(try clear ao);(try clear hk);(try clear hi))|((with_reducible refine zak (N:=6) rfl ?_);refine zaj rfl (N:=6) rfl (cs:=#[.int .i64 0,.int .i64 0,.int .u64 0]) (t:=66) gz ?_;intro M hg w6 hbox hb;have cA:=gN bz hg;have U:=lN (g:=A) (cs:=#[.string al,.int .i64 am]) hg bk;have X:=rN (g:=A) (cs:=#[.string al,.int .i64 am]) hg bk;replace E:=kN (g:=A) (cs:=#[.string al,.int .i64 am]) hb bk;have O:=zaa.mk hbox;replace HB:=bN bz hb;clear hb hbox hg;have dm:=X.out;have dn:=U.out;obtain⟨cB,cC,cD,cF,cG,cH⟩:=cz3 (W:=w6) O))
 (try simp only[Act.put,List.setIfInBounds_toArray,List.set_cons_zero,List.set_cons_succ])
 by_cases c9:aH=true
 ·subst c9
  replace H:=hT H
  replace H:=bs H
  obtain⟨⟨K,D,aI⟩,cI,H⟩:=H
  dsimp only at H
  have cJ:=U.out
  have cK:=X.out
  obtain⟨aZ,a2,a3,a4⟩:=cz2 (W:=w6) E
  go_upto_if 29 with(first|((with_reducible refine zac (f:=50) rfl ?_);refine zal (some 25) rfl rfl Tryz.func50 (by kernel_rfl) rfl #[.agg #[.string al,.int .i64 am]] rfl lz ?_;(with_reducible refine(zaA.calls k al am K D aI _ cI.out).mono ?_);rintro e aD ⟨rfl,hb⟩;refine⟨_,rfl,?_⟩;replace E:=kN (g:=A) (cs:=#[.string al,.int .i64 am]) hb bk;replace O:=kN (g:=M) (cs:=#[.int .i64 I,.int .i64 J,.int .u64 B]) hb bk;replace HB:=bN bz hb;(try clear hb);(try clear ao);(try clear hk);(try clear hi);obtain⟨a5,a6,a7,a8⟩:=cz2 (W:=aD) E))
  (try simp only[Act.put,List.setIfInBounds_toArray,List.set_cons_zero,List.set_cons_succ])
  by_cases aJ:aI=0
  ·replace H:=hE H aJ
   obtain⟨au,av⟩:=eT aJ
   clear aJ
   try first|rw[au]|rw[av]
   by_cases aE:D>400
   ·replace H:=hE H aE
    have aP:decide (400<D)=true:=decide_eq_true aE
    clear aE
    simp only[Option.some.injEq,Prod.mk.injEq] at H
    obtain⟨rfl,rfl⟩:=H
    have cL:=U.out
    have cM:=X.out
    obtain⟨a9,ba,bb,bc⟩:=cz2 (W:=aD) E
    obtain⟨bd,be,bf,bg,bh,bi⟩:=cz3 (W:=aD) O
    go_wp2
    go_ret2
    exact⟨ez,bz⟩
   replace H:=hN H aE
   have aP:decide (400<D)=false:=decide_eq_false aE
   clear aE
   by_cases aF:D<(-400)
   ·replace H:=hE H aF
    have aQ:=decide_eq_true aF
    clear aF
    simp only[Option.some.injEq,Prod.mk.injEq] at H
    obtain⟨rfl,rfl⟩:=H
    have cN:=U.out
    have cO:=X.out
    obtain⟨bj,bl,bm,bn⟩:=cz2 (W:=aD) E
    go_wp2
    go_ret2
    exact⟨ez,bz⟩
   replace H:=hN H aF
   have aQ:=decide_eq_false aF
   clear aF
   replace H:=bs H
   obtain⟨Y,cP,H⟩:=H
   have cQ:=U.out
   have cR:=X.out
   obtain⟨bo,bp,bq,br⟩:=cz2 (W:=aD) E
   obtain⟨bu,bv,bw,bA,bB,bC⟩:=cz3 (W:=aD) O
   go_upto_if 48 with(first|((with_reducible refine zac (f:=55) rfl ?_);refine zal (some 45) rfl rfl Tryz.func55 (by kernel_rfl) rfl #[.int .i64 (wrap64 ((wrap64 (B))+1)),.func (.func 52) #[] #[.pointer (some ⟨M,0,none⟩),.pointer (some ⟨A,0,none⟩)]] rfl lz ?_;(with_reducible refine(sort_Search.calls k (wrap64 ((wrap64 (B))+1)) I J B K D Y _ ?side1 ?side2 cP.out).mono ?_);(case side1=>exact bk);(case side2=>exact bk);rintro e aO ⟨rfl,hb⟩;refine⟨_,rfl,?_⟩;replace E:=kN (g:=A) (cs:=#[.string K,.int .i64 D]) hb bk;replace O:=kN (g:=M) (cs:=#[.int .i64 I,.int .i64 J,.int .u64 B]) hb bk;replace HB:=bN bz hb;(try clear hb);(try clear ao);(try clear hk);(try clear hi)))
   (try simp only[Act.put,List.setIfInBounds_toArray,List.set_cons_zero,List.set_cons_succ])
   by_cases aK:(IntKind.u64.wrap (Y))=0
   ·replace H:=hE H aK
    obtain⟨ap,aw⟩:=eT aK
    clear aK
    (first|rw[ap]|rw[aw]|(simp only[zad,zaf];rw[ap])|skip)
    simp only[Option.some.injEq,Prod.mk.injEq] at H
    obtain⟨rfl,rfl⟩:=H
    go_wp2
    go_ret2
    exact⟨ez,bz⟩
   replace H:=hN H aK
   obtain⟨ap,aw⟩:=eF aK
   (first|rw[ap]|rw[aw]|(simp only[zad,zaf];rw[ap])|skip)
   by_cases aL:(IntKind.u64.wrap ((IntKind.u64.wrap (Y))-1))=B
   ·replace H:=hE H aL
    obtain⟨aR,aS⟩:=eT aL
    clear aL
    simp only[Option.some.injEq,Prod.mk.injEq] at H
    obtain⟨rfl,rfl⟩:=H
    have cS:=X.out
    have cT:=U.out
    obtain⟨bD,bE,bG,bH,bI,bJ⟩:=cz3 (W:=aO) O
    go_wp2
    go_ret2
    exact⟨ez,bz⟩
   replace H:=hN H aL
   obtain⟨aR,aS⟩:=eF aL
   replace H:=bs H
   obtain⟨⟨aj,ak⟩,aT,H⟩:=H
   dsimp only at H
   replace H:=bs H
   obtain⟨⟨ae,af,ax⟩,aU,H⟩:=H
   dsimp only at H
   replace H:=bs H
   obtain⟨ai,aV,H⟩:=H
   by_cases aG:ai>0
   ·replace H:=hE H aG
    have aW:decide (0<ai)=true:=decide_eq_true aG
    clear aG
    simp only[Option.some.injEq,Prod.mk.injEq] at H
    obtain⟨rfl,rfl⟩:=H
    have cV:=X.out
    have cW:=U.out
    obtain⟨bK,bL,bM,bO,bP,bQ⟩:=cz3 (W:=aO) O
    go_wp2_with (first|((with_reducible refine zac (f:=43) rfl ?_);refine zal (some 59) rfl rfl Tryz.func43 (by kernel_rfl) rfl #[.agg #[.int .i64 I,.int .i64 J,.int .u64 B],.int .u64 (IntKind.u64.wrap ((IntKind.u64.wrap (Y))-1))] rfl lz ?_;(with_reducible refine(zaV.calls I J B (IntKind.u64.wrap ((IntKind.u64.wrap (Y))-1)) aj ak _ aT.out).mono ?_);rintro e dp ⟨rfl,hb⟩;refine⟨_,rfl,?_⟩;replace E:=kN (g:=A) (cs:=#[.string K,.int .i64 D]) hb bk;replace O:=kN (g:=M) (cs:=#[.int .i64 I,.int .i64 J,.int .u64 B]) hb bk;replace HB:=bN bz hb;(try clear hb);(try clear ao);(try clear hk);(try clear hi))|((with_reducible refine zac (f:=29) rfl ?_);refine zal (some 68) rfl rfl Tryz.func29 (by kernel_rfl) rfl #[.int .u64 (IntKind.u64.wrap ((IntKind.u64.wrap (2*aj))+1)),.int .i64 (wrap64 (ak-1))] rfl lz ?_;(with_reducible refine(zaq.calls k (IntKind.u64.wrap ((IntKind.u64.wrap (2*aj))+1)) (wrap64 (ak-1)) ae af ax _ aU.out).mono ?_);rintro e dq ⟨rfl,hb⟩;refine⟨_,rfl,?_⟩;replace E:=kN (g:=A) (cs:=#[.string K,.int .i64 D]) hb bk;replace O:=kN (g:=M) (cs:=#[.int .i64 I,.int .i64 J,.int .u64 B]) hb bk;replace HB:=bN bz hb;(try clear hb);(try clear ao);(try clear hk);(try clear hi))|((with_reducible refine zak (N:=13) rfl ?_);refine zaj rfl (N:=13) rfl (cs:=#[.string (⟨#[]⟩:ByteArray),.int .i64 0]) (t:=42) gz ?_;intro an hg bR hbox hb;have aB:=gN bz hg;have aC:=gN bz hg;have Z:=lN (g:=A) (cs:=#[.string K,.int .i64 D]) hg bk;have aa:=rN (g:=A) (cs:=#[.string K,.int .i64 D]) hg bk;have ab:=lN (g:=M) (cs:=#[.int .i64 I,.int .i64 J,.int .u64 B]) hg bk;have ac:=rN (g:=M) (cs:=#[.int .i64 I,.int .i64 J,.int .u64 B]) hg bk;replace E:=kN (g:=A) (cs:=#[.string K,.int .i64 D]) hb bk;replace O:=kN (g:=M) (cs:=#[.int .i64 I,.int .i64 J,.int .u64 B]) hb bk;have ah:=zaa.mk hbox;replace HB:=bN bz hb;clear hb hbox hg;have cX:=aa.out;have cY:=Z.out;have cZ:=ac.out;have c5:=ab.out;obtain⟨bS,bU,bV,bW⟩:=cz2 (W:=bR) ah;obtain⟨bX,bY,bZ,b0⟩:=cz2 (W:=bR) E)|((with_reducible refine zac (f:=53) rfl ?_);refine zal (some 73) rfl rfl Tryz.func53 (by kernel_rfl) rfl #[.agg #[.string K,.int .i64 D],.agg #[.string ae,.int .i64 af]] rfl lz ?_;(with_reducible refine(za0.calls k K D ae af ai _ aV.out).mono ?_);rintro e dr ⟨rfl,hb⟩;refine⟨_,rfl,?_⟩;replace E:=kN (g:=A) (cs:=#[.string K,.int .i64 D]) hb bk;replace O:=kN (g:=M) (cs:=#[.int .i64 I,.int .i64 J,.int .u64 B]) hb bk;replace ah:=kN (g:=an) (cs:=#[.string ae,.int .i64 af]) hb bk;replace HB:=bN bz hb;(try clear hb);(try clear ao);(try clear hk);(try clear hi)))
    go_ret2
    exact⟨ez,bz⟩
   replace H:=hN H aG
   have aW:decide (0<ai)=false:=decide_eq_false aG
   clear aG
   by_cases aM:ai=0
   ·replace H:=hE H aM
    obtain⟨aX,aY⟩:=eT aM
    clear aM
    have c6:=X.out
    have c7:=U.out
    obtain⟨b1,b2,b3,b4,b5,b6⟩:=cz3 (W:=aO) O
    go_upto_if 84 with(first|((with_reducible refine zac (f:=43) rfl ?_);refine zal (some 59) rfl rfl Tryz.func43 (by kernel_rfl) rfl #[.agg #[.int .i64 I,.int .i64 J,.int .u64 B],.int .u64 (IntKind.u64.wrap ((IntKind.u64.wrap (Y))-1))] rfl lz ?_;(with_reducible refine(zaV.calls I J B (IntKind.u64.wrap ((IntKind.u64.wrap (Y))-1)) aj ak _ aT.out).mono ?_);rintro e ds ⟨rfl,hb⟩;refine⟨_,rfl,?_⟩;replace E:=kN (g:=A) (cs:=#[.string K,.int .i64 D]) hb bk;replace O:=kN (g:=M) (cs:=#[.int .i64 I,.int .i64 J,.int .u64 B]) hb bk;replace HB:=bN bz hb;(try clear hb);(try clear ao);(try clear hk);(try clear hi))|((with_reducible refine zac (f:=29) rfl ?_);refine zal (some 68) rfl rfl Tryz.func29 (by kernel_rfl) rfl #[.int .u64 (IntKind.u64.wrap ((IntKind.u64.wrap (2*aj))+1)),.int .i64 (wrap64 (ak-1))] rfl lz ?_;(with_reducible refine(zaq.calls k (IntKind.u64.wrap ((IntKind.u64.wrap (2*aj))+1)) (wrap64 (ak-1)) ae af ax _ aU.out).mono ?_);rintro e dt ⟨rfl,hb⟩;refine⟨_,rfl,?_⟩;replace E:=kN (g:=A) (cs:=#[.string K,.int .i64 D]) hb bk;replace O:=kN (g:=M) (cs:=#[.int .i64 I,.int .i64 J,.int .u64 B]) hb bk;replace HB:=bN bz hb;(try clear hb);(try clear ao);(try clear hk);(try clear hi))|((with_reducible refine zak (N:=13) rfl ?_);refine zaj rfl (N:=13) rfl (cs:=#[.string (⟨#[]⟩:ByteArray),.int .i64 0]) (t:=42) gz ?_;intro an hg b7 hbox hb;have aB:=gN bz hg;have aC:=gN bz hg;have Z:=lN (g:=A) (cs:=#[.string K,.int .i64 D]) hg bk;have aa:=rN (g:=A) (cs:=#[.string K,.int .i64 D]) hg bk;have ab:=lN (g:=M) (cs:=#[.int .i64 I,.int .i64 J,.int .u64 B]) hg bk;have ac:=rN (g:=M) (cs:=#[.int .i64 I,.int .i64 J,.int .u64 B]) hg bk;replace E:=kN (g:=A) (cs:=#[.string K,.int .i64 D]) hb bk;replace O:=kN (g:=M) (cs:=#[.int .i64 I,.int .i64 J,.int .u64 B]) hb bk;have ah:=zaa.mk hbox;replace HB:=bN bz hb;clear hb hbox hg;have c8:=aa.out;have da:=Z.out;have db:=ac.out;have dc:=ab.out;obtain⟨b8,ca,cb,cc⟩:=cz2 (W:=b7) ah;obtain⟨cd,ce,cf,cg⟩:=cz2 (W:=b7) E)|((with_reducible refine zac (f:=53) rfl ?_);refine zal (some 73) rfl rfl Tryz.func53 (by kernel_rfl) rfl #[.agg #[.string K,.int .i64 D],.agg #[.string ae,.int .i64 af]] rfl lz ?_;(with_reducible refine(za0.calls k K D ae af ai _ aV.out).mono ?_);rintro e du ⟨rfl,hb⟩;refine⟨_,rfl,?_⟩;replace E:=kN (g:=A) (cs:=#[.string K,.int .i64 D]) hb bk;replace O:=kN (g:=M) (cs:=#[.int .i64 I,.int .i64 J,.int .u64 B]) hb bk;replace ah:=kN (g:=an) (cs:=#[.string ae,.int .i64 af]) hb bk;replace HB:=bN bz hb;(try clear hb);(try clear ao);(try clear hk);(try clear hi)))
    (try simp only[Act.put,List.setIfInBounds_toArray,List.set_cons_zero,List.set_cons_succ])
    by_cases aN:(Int.tmod (IntKind.u64.wrap ((IntKind.u64.wrap (Y))-1)) 2)=1
    ·replace H:=hE H aN
     obtain⟨ar,ay⟩:=eT aN
     clear aN
     (first|rw[ar]|rw[ay]|(simp only[zad,zaf];rw[ar])|skip)
     simp only[Option.some.injEq,Prod.mk.injEq] at H
     obtain⟨rfl,rfl⟩:=H
     go_wp2
     go_ret2
     exact⟨ez,bz⟩
    replace H:=hN H aN
    obtain⟨ar,ay⟩:=eF aN
    (first|rw[ar]|rw[ay]|(simp only[zad,zaf];rw[ar])|skip)
    simp only[Option.some.injEq,Prod.mk.injEq] at H
    obtain⟨rfl,rfl⟩:=H
    go_wp2
    go_ret2
    exact⟨ez,bz⟩
   replace H:=hN H aM
   obtain⟨aX,aY⟩:=eF aM
   simp only[Option.some.injEq,Prod.mk.injEq] at H
   obtain⟨rfl,rfl⟩:=H
   have dd:=X.out
   have de:=U.out
   obtain⟨ci,cj,ck,cm,cn,co⟩:=cz3 (W:=aO) O
   go_wp2_with (first|((with_reducible refine zac (f:=43) rfl ?_);refine zal (some 59) rfl rfl Tryz.func43 (by kernel_rfl) rfl #[.agg #[.int .i64 I,.int .i64 J,.int .u64 B],.int .u64 (IntKind.u64.wrap ((IntKind.u64.wrap (Y))-1))] rfl lz ?_;(with_reducible refine(zaV.calls I J B (IntKind.u64.wrap ((IntKind.u64.wrap (Y))-1)) aj ak _ aT.out).mono ?_);rintro e dv ⟨rfl,hb⟩;refine⟨_,rfl,?_⟩;replace E:=kN (g:=A) (cs:=#[.string K,.int .i64 D]) hb bk;replace O:=kN (g:=M) (cs:=#[.int .i64 I,.int .i64 J,.int .u64 B]) hb bk;replace HB:=bN bz hb;(try clear hb);(try clear ao);(try clear hk);(try clear hi))|((with_reducible refine zac (f:=29) rfl ?_);refine zal (some 68) rfl rfl Tryz.func29 (by kernel_rfl) rfl #[.int .u64 (IntKind.u64.wrap ((IntKind.u64.wrap (2*aj))+1)),.int .i64 (wrap64 (ak-1))] rfl lz ?_;(with_reducible refine(zaq.calls k (IntKind.u64.wrap ((IntKind.u64.wrap (2*aj))+1)) (wrap64 (ak-1)) ae af ax _ aU.out).mono ?_);rintro e dw ⟨rfl,hb⟩;refine⟨_,rfl,?_⟩;replace E:=kN (g:=A) (cs:=#[.string K,.int .i64 D]) hb bk;replace O:=kN (g:=M) (cs:=#[.int .i64 I,.int .i64 J,.int .u64 B]) hb bk;replace HB:=bN bz hb;(try clear hb);(try clear ao);(try clear hk);(try clear hi))|((with_reducible refine zak (N:=13) rfl ?_);refine zaj rfl (N:=13) rfl (cs:=#[.string (⟨#[]⟩:ByteArray),.int .i64 0]) (t:=42) gz ?_;intro an hg cp hbox hb;have aB:=gN bz hg;have aC:=gN bz hg;have Z:=lN (g:=A) (cs:=#[.string K,.int .i64 D]) hg bk;have aa:=rN (g:=A) (cs:=#[.string K,.int .i64 D]) hg bk;have ab:=lN (g:=M) (cs:=#[.int .i64 I,.int .i64 J,.int .u64 B]) hg bk;have ac:=rN (g:=M) (cs:=#[.int .i64 I,.int .i64 J,.int .u64 B]) hg bk;replace E:=kN (g:=A) (cs:=#[.string K,.int .i64 D]) hb bk;replace O:=kN (g:=M) (cs:=#[.int .i64 I,.int .i64 J,.int .u64 B]) hb bk;have ah:=zaa.mk hbox;replace HB:=bN bz hb;clear hb hbox hg;have df:=aa.out;have dh:=Z.out;have di:=ac.out;have dj:=ab.out;obtain⟨cq,cr,ct,cu⟩:=cz2 (W:=cp) ah;obtain⟨cv,cw,cx,cy⟩:=cz2 (W:=cp) E)|((with_reducible refine zac (f:=53) rfl ?_);refine zal (some 73) rfl rfl Tryz.func53 (by kernel_rfl) rfl #[.agg #[.string K,.int .i64 D],.agg #[.string ae,.int .i64 af]] rfl lz ?_;(with_reducible refine(za0.calls k K D ae af ai _ aV.out).mono ?_);rintro e dx ⟨rfl,hb⟩;refine⟨_,rfl,?_⟩;replace E:=kN (g:=A) (cs:=#[.string K,.int .i64 D]) hb bk;replace O:=kN (g:=M) (cs:=#[.int .i64 I,.int .i64 J,.int .u64 B]) hb bk;replace ah:=kN (g:=an) (cs:=#[.string ae,.int .i64 af]) hb bk;replace HB:=bN bz hb;(try clear hb);(try clear ao);(try clear hk);(try clear hi)))
   go_ret2
   exact⟨ez,bz⟩
  replace H:=hN H aJ
  obtain⟨au,av⟩:=eF aJ
  try first|rw[au]|rw[av]
  simp only[Option.some.injEq,Prod.mk.injEq] at H
  obtain⟨rfl,rfl⟩:=H
  go_wp2
  go_ret2
  exact⟨ez,bz⟩
 replace c9:=Bool.eq_false_iff.mpr c9
 subst c9
 replace H:=hF H
 simp only[Option.some.injEq,Prod.mk.injEq] at H
 obtain⟨rfl,rfl⟩:=H
 go_wp2
 go_ret2
 exact⟨ez,bz⟩
end
end Go.Proofs.YtecpgdfnamkfdaaGreatDoor.Fn
end
section
namespace Go.Proofs.YtecpgdfnamkfdaaGreatDoor.Pure
open Go.RowKit Go.Proofs.YtecpgdfnamkfdaaGreatDoorW.PrintWords Go.Proofs.YtecpgdfnamkfdaaGreatDoor.Fn
set_option linter.unusedVariables false
set_option linter.unusedSimpArgs false
def exD(m:Nat)(e:Int):List UInt8×Int:=decOf (m*eBase e^e.natAbs) (eLim e)
theorem zcj(m:Nat)(e:Int):InForm (exD m e).1 (exD m e).2:=zbr _ _
theorem zcc(m:Nat){e:Int}(h: -1200≤e∧e≤1200):exactS m e=(S (exD m e).1,(exD m e).2,0):=by
  unfold exactS
  rw[if_neg (by omega)]
  rfl
theorem zb8{m:Nat}(hm:m<18446744073709551616){e:Int}(h: -1200≤e∧e≤1200):(exD m e).1.length≤1300∧ -1200≤(exD m e).2∧(exD m e).2≤1300:=by
  obtain⟨T,hT⟩: ∃T:Nat,T=1200:=⟨_,rfl⟩
  have hb:eBase e^e.natAbs≤10^T:=by
    refine Nat.le_trans (Nat.pow_le_pow_left (show eBase e≤10 by unfold eBase;split<;>omega) _) (Nat.pow_le_pow_right (by omega) (by omega))
  have hlt:m*eBase e^e.natAbs<10^(20+T):=by
    rw[Nat.pow_add]
    have A:(10:Nat)^20=100000000000000000000:=by decide
    generalize eBase e^e.natAbs=B at*
    have hp:0<10^T:=Nat.pow_pos (by omega)
    generalize 10^T=P at*
    exact Nat.lt_of_le_of_lt (Nat.mul_le_mul_left _ hb) (Nat.mul_lt_mul_of_pos_right (by omega) hp)
  have:=zbT hlt (eLim e)
  unfold exD
  unfold eLim at*
  split at this<;>rename_i c
  all_goals(first|rw[if_pos c]|rw[if_neg c]);omega
theorem zey{a b:List UInt8}{p q:Int}(ha:InForm a p)(hb:InForm b q)(h1:a.length≤2000∧ -5000≤p∧p≤5000)(h2:b.length≤2000∧ -5000≤q∧q≤5000):Ev (fun k=>za0.f k (S a) p (S b) q) (cmpD a p b q):=by
  unfold za0.f
  have h:=ziu (S a) p (S b) q
  rw[ziE ha hb h1 h2] at h
  exact Ev.bind (f:=fun _ bt=>some bt.1) h (Ev.now _)
theorem zc9(wide:Bool){p:Nat}(hp:p≤ii wide):fE (ff wide) p≤2046∧fM (ff wide) p<9007199254740992:=by
  have h1:=zfj (ff wide) p
  have hd:p / 2^ff wide≤ii wide / 2^ff wide:=Nat.div_le_div_right hp
  have h2:ii wide / 2^ff wide≤2047∧2^(ff wide+1)≤9007199254740992:=by cases wide<;>decide
  unfold fE
  omega
theorem zg2(wide:Bool):149≤ll wide∧ll wide≤1074:=by cases wide<;>simp[ll]
theorem fEl(wide:Bool){p:Nat}(hp:p≤ii wide): -1074≤(fE (ff wide) p:Int)-(ll wide:Int)∧(fE (ff wide) p:Int)-(ll wide:Int)≤1100:=by
  have h1:=(zc9 wide hp).1
  have h2:=zg2 wide
  cases wide
  · have:ii false / 2^ff false=255:=by decide
    have hd:p / 2^ff false≤ii false / 2^ff false:=Nat.div_le_div_right hp
    unfold fE at*
    omega
  · have:ll true=1074:=rfl
    omega
theorem zdG(wide:Bool){p:Nat}(hp:p≤ii wide):
    Ev (fun k=>zbn.f k (ff wide:Int) (-(ll wide:Int)) (ii wide:Int) (p:Int)) (decS (exD (fM (ff wide) p) ((fE (ff wide) p:Int)-(ll wide:Int)))):=by
  unfold zbn.f
  have hi:=zcE wide
  rw[zdu wide p (by omega)]
  simp only[Option.bind_some]
  have h:=zcx (fM (ff wide) p) ((fE (ff wide) p:Int)-(ll wide:Int)) (by have:=(zc9 wide hp).2;omega)
  rw[zcc _ (by have:=fEl wide hp;omega)] at h
  exact Ev.bind (f:=fun _ bt=>some (bt.1,bt.2.1)) h (Ev.now _)
theorem zdx(a b:Nat):cmpN a b>0↔b<a:=by
  unfold cmpN
  by_cases h1:a<b
  · rw[if_pos h1];omega
  · rw[if_neg h1]
    by_cases h2:b<a
    · rw[if_pos h2];omega
    · rw[if_neg h2];omega
theorem zda(a b:Nat):cmpN a b=0↔a=b:=by
  unfold cmpN
  by_cases h1:a<b
  · rw[if_pos h1];omega
  · rw[if_neg h1]
    by_cases h2:b<a
    · rw[if_pos h2];omega
    · rw[if_neg h2];omega
theorem zdN(a b:Nat):cmpN a b= -cmpN b a:=by
  unfold cmpN
  by_cases h1:a<b
  · rw[if_pos h1,if_neg (by omega),if_pos h1]
  · rw[if_neg h1]
    by_cases h2:b<a
    · rw[if_pos h2,if_pos h2];rfl
    · rw[if_neg h2,if_neg h2,if_neg h1];rfl
theorem zd3(wide:Bool){p:Nat}(hp:p≤ii wide){l:List UInt8}{q:Int}(hl:InForm l q)(hx: -(vv:Int)≤q-l.length):
    cmpD (exD (fM (ff wide) p) ((fE (ff wide) p:Int)-(ll wide:Int))).1 (exD (fM (ff wide) p) ((fE (ff wide) p:Int)-(ll wide:Int))).2 l q=cmpN (fW (ff wide) p*(2*CC)) (dX wide (val l) (q-l.length)):=by
  have h:=zcL (fM (ff wide) p) (val l) (uu wide) vv ((fE (ff wide) p:Int)-(ll wide:Int)) (q-l.length) (by unfold uu;omega) (by have:=zew wide;have:=zb2;unfold uu;omega) hx
  rw[zcI hl] at h
  unfold exD
  rw[h]
  unfold dX
  congr 1
  have e:((fE (ff wide) p:Int)-(ll wide:Int)+(uu wide:Int)).toNat=fE (ff wide) p+1:=by unfold uu;omega
  rw[e,Nat.pow_succ]
  unfold fW CC
  rw[Nat.mul_assoc,Nat.mul_assoc,Nat.mul_assoc]
theorem zgo(wide:Bool){p:Nat}{l:List UInt8}{q:Int}(hl:InForm l q)(hx: -(vv:Int)≤q-l.length):
    cmpD (exD (2*fM (ff wide) p+1) ((fE (ff wide) p:Int)-(ll wide:Int)-1)).1 (exD (2*fM (ff wide) p+1) ((fE (ff wide) p:Int)-(ll wide:Int)-1)).2 l q=cmpN ((fW (ff wide) p+fW (ff wide) (p+1))*CC) (dX wide (val l) (q-l.length)):=by
  have h:=zcL (2*fM (ff wide) p+1) (val l) (uu wide) vv ((fE (ff wide) p:Int)-(ll wide:Int)-1) (q-l.length) (by unfold uu;omega) (by have:=zew wide;have:=zb2;unfold uu;omega) hx
  rw[zcI hl] at h
  unfold exD
  rw[h]
  unfold dX
  congr 1
  have e:((fE (ff wide) p:Int)-(ll wide:Int)-1+(uu wide:Int)).toNat=fE (ff wide) p:=by unfold uu;omega
  rw[e,zcU]
  unfold fW CC
  congr 1
  rw[Nat.add_mul,Nat.one_mul,Nat.mul_assoc]
  omega
theorem zhN(wide:Bool){p:Nat}(hp:p≤ii wide){l:List UInt8}{q:Int}(hl:InForm l q)(h1:l.length≤2000∧ -5000≤q∧q≤5000):
    Ev (fun k=>za8.f k (p:Int) (ff wide:Int) (-(ll wide:Int)) (ii wide:Int) (S l) q) (decide (dX wide (val l) (q-l.length)<fW (ff wide) p*(2*CC))):=by
  unfold za8.f
  have hi:=zcE wide
  rw[u64N p (by omega)]
  refine Ev.bind (zdG wide hp) ?_
  have hs:=zb8 (m:=fM (ff wide) p) (by have:=(zc9 wide hp).2;omega) (e:=(fE (ff wide) p:Int)-(ll wide:Int)) (by have:=fEl wide hp;omega)
  have h:=zey (zcj (fM (ff wide) p) ((fE (ff wide) p:Int)-(ll wide:Int))) hl (by omega) h1
  rw[zd3 wide hp hl (by have:=zb2;omega)] at h
  have e:decide (cmpN (fW (ff wide) p*(2*CC)) (dX wide (val l) (q-l.length))>0)=decide (dX wide (val l) (q-l.length)<fW (ff wide) p*(2*CC)):=decide_eq_decide.2 (zdx _ _)
  rw[←e]
  exact Ev.bind (f:=fun _ t=>some (decide (t>0))) h (Ev.now _)
def rdS(wide:Bool)(s:ByteArray)(p:Int):Int×Int:=
  if(normS s p).2.2=0 then((rdX wide (dX wide (val (L (normS s p).1)) ((normS s p).2.1-(L (normS s p).1).length)):Int),0) else(0,(normS s p).2.2)
theorem zie(wide:Bool):fW (ff wide) (ii wide)*2≤10^400*2^uu wide∧2^uu wide≤10^401:=by
  cases wide<;>decide+kernel
theorem zjr(wide:Bool){l:List UInt8}{q:Int}(hl:InForm l q)(h:400<q)(hx:l.length≤2000):fW (ff wide) (ii wide)*(2*CC)≤dX wide (val l) (q-l.length):=by
  have hn:l≠[]:=by
    intro e
    have:=hl.2.2.2 e
    omega
  have h1:=zfi hl.1 hl.2.1 hn (p:=q) (E:= -(vv:Int)) (by have:=zb2;omega)
  unfold sv at h1
  obtain⟨F,hF⟩: ∃F:Nat,F=400:=⟨_,rfl⟩
  have e1:(q-1- -(vv:Int)).toNat=(q-401).toNat+(F+vv):=by omega
  rw[e1,Int.sub_neg,Nat.pow_add,Nat.pow_add] at h1
  have h2:=(zie wide).1
  rw[←hF] at h2
  unfold dX
  have h3:1≤10^(q-401).toNat:=Nat.pow_pos (by omega)
  have hC:CC=10^vv:=rfl
  rw[←hC] at h1
  generalize val l*10^(q-l.length+vv).toNat=Y at*
  have h4:10^F*CC≤Y:=Nat.le_trans (Nat.le_mul_of_pos_left _ h3) h1
  have h5:=Nat.mul_le_mul_right (2^uu wide) h4
  have h6:=Nat.mul_le_mul_right CC h2
  refine Nat.le_trans ?_ h5
  refine Nat.le_trans (Nat.le_of_eq ?_) (Nat.le_trans h6 (Nat.le_of_eq ?_))
  · rw[Nat.mul_assoc]
  · rw[Nat.mul_assoc,Nat.mul_assoc,Nat.mul_comm CC]
theorem ziG(wide:Bool){l:List UInt8}{q:Int}(hl:InForm l q)(h:q< -400)(h2: -7000≤q)(hx:l.length≤2000):dX wide (val l) (q-l.length)≤CC:=by
  have h1:=zdr hl.1 (p:=q) (E:= -(vv:Int)) (by have:=zb2;omega)
  unfold sv at h1
  obtain⟨T,hT⟩: ∃T:Nat,T=401:=⟨_,rfl⟩
  have hv:=zb2
  have h3:10^(q- -(vv:Int)).toNat≤10^(vv-T):=Nat.pow_le_pow_right (by omega) (by omega)
  rw[Int.sub_neg] at h1
  have h4:=(zie wide).2
  rw[←hT] at h4
  unfold dX
  have hC:CC=10^(vv-T)*10^T:=by
    unfold CC
    rw[←Nat.pow_add]
    congr 1
    omega
  rw[hC]
  exact Nat.mul_le_mul (by omega) h4
theorem zjs(wide:Bool){X:Nat}(h:fW (ff wide) (ii wide)*(2*CC)≤X):rdX wide X=ii wide:=by
  have e:=zcQ (by have:=zct;omega) (zdw wide X) (⟨Nat.le_refl _,h,fun h=>absurd h (Nat.lt_irrefl _)⟩:fFloor (ff wide) (ii wide) X (2*CC) (ii wide))
  unfold rdX
  rw[e]
  unfold fNear
  rw[if_pos rfl]
theorem zg3(wide:Bool):fW (ff wide) 1=1:=by cases wide<;>decide
theorem ziH(wide:Bool){X:Nat}(h:X≤CC):rdX wide X=0:=by
  have hC:=zct
  have hi:=zcE wide
  have e:=zcQ (by omega) (zdw wide X) (⟨Nat.zero_le _,by rw[zdY];omega,fun _=>by rw[zg3];omega⟩:fFloor (ff wide) (ii wide) X (2*CC) 0)
  unfold rdX
  rw[e]
  have hu: ¬fUp (ff wide) X (2*CC) 0:=by
    unfold fUp
    rw[zdY,Nat.zero_add,zg3]
    omega
  unfold fNear
  rw[if_neg (by omega),if_neg hu]
theorem zfn(wide:Bool){X p:Nat}(h:fFloor (ff wide) (ii wide) X (2*CC) p):rdX wide X=if p=ii wide then ii wide else if X>(fW (ff wide) p+fW (ff wide) (p+1))*CC∨(X=(fW (ff wide) p+fW (ff wide) (p+1))*CC∧p%2=1) then p+1 else p:=by
  have e:=zcQ (by have:=zct;omega) (zdw wide X) h
  unfold rdX
  rw[e]
  unfold fNear
  by_cases c:p=ii wide
  · rw[if_pos c,if_pos c]
  · rw[if_neg c,if_neg c]
    have hu:fUp (ff wide) X (2*CC) p↔(X>(fW (ff wide) p+fW (ff wide) (p+1))*CC∨(X=(fW (ff wide) p+fW (ff wide) (p+1))*CC∧p%2=1)):=by
      unfold fUp
      rw[show(fW (ff wide) p+fW (ff wide) (p+1))*(2*CC)=2*((fW (ff wide) p+fW (ff wide) (p+1))*CC) by rw[Nat.mul_left_comm]]
      omega
    by_cases c2:fUp (ff wide) X (2*CC) p
    · rw[if_pos c2,if_pos (hu.1 c2)]
    · rw[if_neg c2,if_neg (fun h=>c2 (hu.2 h))]
theorem ziI(wide:Bool)(s:ByteArray)(p0:Int):Ev (fun k=>zbt.f k s p0 (szB wide)) (rdS wide s p0):=by
  have hi:=zcE wide
  have hv:=zb2
  unfold zbt.f
  rw[zfx]
  simp only[Option.bind_some,if_true]
  refine Ev.bind (zcv s p0) ?_
  unfold rdS
  rcases zbR s p0 with⟨e,h1,h2,_⟩|⟨l,q,h1,hf,hlen,B,D,_,_⟩
  · rw[h1,if_neg h2]
    exact Ev.congr (fun k=>if_neg h2) (Ev.now _)
  · rw[h1,if_pos rfl]
    refine Ev.congr (fun k=>if_pos rfl) ?_
    simp only[L_S]
    by_cases c1:q>400
    · refine Ev.congr (fun k=>if_pos c1) ?_
      rw[zjs wide (zjr wide hf c1 hlen)]
      exact Ev.now _
    · refine Ev.congr (fun k=>if_neg c1) ?_
      by_cases c2:q< -400
      · refine Ev.congr (fun k=>if_pos c2) ?_
        rw[ziH wide (ziG wide hf c2 B hlen)]
        exact Ev.now _
      · refine Ev.congr (fun k=>if_neg c2) ?_
        obtain⟨X,hX⟩: ∃X,dX wide (val l) (q-l.length)=X:=⟨_,rfl⟩
        have hsw:wrap64 (wrap64 (ii wide:Int)+1)=((ii wide+1:Nat):Int):=by
          rw[i64N (ii wide) (by omega),zaX (by omega) (by omega)]
          omega
        rw[hsw]
        obtain⟨r,hr,hrn,hlo,hhi⟩:=zg1 (n:=ii wide+1) (g:=fun p=>decide (X<fW (ff wide) p*(2*CC))) (by omega)
          (fun i h=>by have:=zhN wide (p:=i) (by omega) hf (by omega);rw[hX] at this;exact this)
          (fun a b hab _ ha=>by
            have h3:=Nat.mul_le_mul_right (2*CC) (zfl (f:=ff wide) hab)
            exact decide_eq_true (Nat.lt_of_lt_of_le (of_decide_eq_true ha) h3))
        refine Ev.bind hr ?_
        have E:r≠0:=by
          intro e
          have:=of_decide_eq_true (hhi 0 (by omega) (by omega))
          rw[zdY] at this
          omega
        obtain⟨p,rfl⟩: ∃p,r=p+1:=⟨r-1,by omega⟩
        have hfl:fFloor (ff wide) (ii wide) X (2*CC) p:=⟨by omega,Nat.le_of_not_lt (of_decide_eq_false (hlo p (by omega))),fun h=>of_decide_eq_true (hhi (p+1) (by omega) (by omega))⟩
        rw[hX,zfn wide hfl,u64N (p+1) (by omega),show(((p+1:Nat):Int)-1)=(p:Int) by omega,u64N p (by omega)]
        refine Ev.congr (fun k=>if_neg (by omega)) ?_
        by_cases c3:p=ii wide
        · rw[if_pos c3]
          refine Ev.congr (fun k=>if_pos (by omega)) ?_
          rw[c3]
          exact Ev.now _
        · rw[if_neg c3]
          refine Ev.congr (fun k=>if_neg (by omega)) ?_
          rw[zdu wide p (by omega)]
          simp only[Option.bind_some]
          have hM:=(zc9 wide (p:=p) (by omega)).2
          have hE:=fEl wide (p:=p) (by omega)
          rw[show(2:Int)*(fM (ff wide) p:Int)=((2*fM (ff wide) p:Nat):Int) by omega,u64N _ (by omega),show(((2*fM (ff wide) p:Nat):Int)+1)=((2*fM (ff wide) p+1:Nat):Int) by omega,u64N _ (by omega),zaX (x:=(fE (ff wide) p:Int)-(ll wide:Int)-1) (by omega) (by omega)]
          have hex:=zcx (2*fM (ff wide) p+1) ((fE (ff wide) p:Int)-(ll wide:Int)-1) (by omega)
          rw[zcc _ (by omega)] at hex
          refine Ev.bind hex ?_
          have hs:=zb8 (m:=2*fM (ff wide) p+1) (by omega) (e:=(fE (ff wide) p:Int)-(ll wide:Int)-1) (by omega)
          have hcm:=zey hf (zcj (2*fM (ff wide) p+1) ((fE (ff wide) p:Int)-(ll wide:Int)-1)) (by omega) (by omega)
          rw[zc7,zgo wide hf (by omega),hX,←zdN] at hcm
          refine Ev.bind hcm ?_
          obtain⟨Mid,hMid⟩: ∃Mid,(fW (ff wide) p+fW (ff wide) (p+1))*CC=Mid:=⟨_,rfl⟩
          rw[hMid]
          have k1:=zdx X Mid
          have k2:=zda X Mid
          have A:IntKind.u64.wrap ((p:Int)+1)=((p+1:Nat):Int):=by rw[show((p:Int)+1)=((p+1:Nat):Int) by omega,u64N _ (by omega)]
          refine Ev.congr (fun k=>?_) (Ev.now _)
          by_cases c4:X>Mid
          · rw[if_pos (k1.2 c4),if_pos (.inl c4),A]
          · rw[if_neg (fun h=>c4 (k1.1 h))]
            by_cases c5:X=Mid
            · rw[if_pos (k2.2 c5),show(2:Int)=((2:Nat):Int) from rfl,tmodN]
              by_cases c6:p%2=1
              · rw[if_pos (by omega),if_pos (.inr ⟨c5,c6⟩),A]
              · rw[if_neg (by omega),if_neg (by omega)]
            · rw[if_neg (fun h=>c5 (k2.1 h)),if_neg (by omega)]
def Nm(n K:Nat)(xs:List Int):Prop:=InB 10 xs∧lv 10 xs=n∧xs.length≤K
def Tab(n K:Nat)(tabs:List (List Int)):Prop:= ∀i:Nat,i<tabs.length→Nm (n*2^i) (K+i) (zfh tabs (i:Int))
theorem zfG(tabs:List (List Int))(y:List Int)(i:Nat)(h:i<tabs.length+1):zfh (tabs++[y]) (i:Int)=if i<tabs.length then zfh tabs (i:Int) else y:=by
  unfold zfh
  rw[Int.toNat_natCast,List.getD_eq_getElem?_getD,List.getD_eq_getElem?_getD]
  by_cases c:i<tabs.length
  · rw[if_pos c,List.getElem?_append_left c]
  · rw[if_neg c]
    obtain rfl:i=tabs.length:=by omega
    simp
theorem Tab.snoc{n K:Nat}{tabs:List (List Int)}{y:List Int}(h:Tab n K tabs)(hy:Nm (n*2^tabs.length) (K+tabs.length) y):Tab n K (tabs++[y]):=by
  intro i hi
  rw[List.length_append,List.length_singleton] at hi
  rw[zfG tabs y i hi]
  by_cases c:i<tabs.length
  · rw[if_pos c];exact h i c
  · rw[if_neg c]
    obtain rfl:i=tabs.length:=by omega
    exact hy
theorem zjt(wide:Bool):23≤ff wide∧ff wide≤52:=by cases wide<;>simp[ff]
def loX(wide:Bool)(p:Nat):Nat:=(fW (ff wide) (p-1)+fW (ff wide) p)*CC
def hiX(wide:Bool)(p:Nat):Nat:=(fW (ff wide) p+fW (ff wide) (p+1))*CC
def inX(wide:Bool)(p X:Nat):Prop:=(loX wide p<X∧X<hiX wide p)∨(p%2=0∧loX wide p≤X∧X≤hiX wide p)
theorem zdd{u v C:Nat}(h:u<v)(hC:0<C):u*(2*C)<(u+v)*C∧(u+v)*C<v*(2*C):=by
  have e1:u*(2*C)=u*C+u*C:=by rw[Nat.mul_left_comm];omega
  have e2:v*(2*C)=v*C+v*C:=by rw[Nat.mul_left_comm];omega
  have h3:u*C<v*C:=Nat.mul_lt_mul_of_pos_right h hC
  rw[e1,e2,Nat.add_mul]
  omega
theorem zf8(wide:Bool){p:Nat}(hp:0<p)(hi:p<ii wide)(X:Nat):inX wide p X↔rdX wide X=p:=by
  have hC:=zct
  obtain⟨a,rfl⟩: ∃a,p=a+1:=⟨p-1,by omega⟩
  have m1:=zdd (zfk (f:=ff wide) (Nat.lt_succ_self a)) hC
  have m2:=zdd (zfk (f:=ff wide) (Nat.lt_succ_self (a+1))) hC
  have hat:=fun q=> @zfn wide X q
  have hfl:=zdw wide X
  have hun:=fun q (h:fFloor (ff wide) (ii wide) X (2*CC) q)=>zcQ (by omega) hfl h
  unfold inX loX hiX
  rw[Nat.add_sub_cancel]
  simp only[Nat.succ_eq_add_one] at m1 m2
  constructor
  · intro h
    by_cases c:fW (ff wide) (a+1)*(2*CC)≤X
    · have hf:fFloor (ff wide) (ii wide) X (2*CC) (a+1):=⟨by omega,c,fun _=>by omega⟩
      rw[hat _ hf,if_neg (by omega),if_neg (by omega)]
    · have hf:fFloor (ff wide) (ii wide) X (2*CC) a:=⟨by omega,by omega,fun _=>by omega⟩
      rw[hat _ hf,if_neg (by omega),if_pos (by omega)]
  · intro h
    have hr:=hat _ hfl
    rw[h] at hr
    by_cases c1:flo wide X=ii wide
    · rw[if_pos c1] at hr
      omega
    · rw[if_neg c1] at hr
      obtain⟨g1,g2,g3⟩:=hfl
      have A:=g3 (by omega)
      by_cases c2:X>(fW (ff wide) (flo wide X)+fW (ff wide) (flo wide X+1))*CC∨(X=(fW (ff wide) (flo wide X)+fW (ff wide) (flo wide X+1))*CC∧flo wide X%2=1)
      · rw[if_pos c2] at hr
        have e:flo wide X=a:=by omega
        rw[e] at c2 g2 A
        omega
      · rw[if_neg c2] at hr
        have e:flo wide X=a+1:=by omega
        rw[e] at c2 g2 A
        omega
theorem zf9{f p:Nat}(hp:0<p)(h:fM f p≠2^f∨fE f p=0):fE f (p-1)=fE f p:=by
  obtain⟨e1,e2⟩:=fOf f p
  have hlt:=zfj f p
  have h2:=zbV f
  by_cases c:fE f p=0
  · rw[c,Nat.zero_mul,Nat.zero_add] at e1
    have:=(fParts f 0 (p-1) (by omega) (.inr rfl)).2
    rw[Nat.zero_mul,Nat.zero_add] at this
    rw[this,c]
  · have h3:=h.resolve_right c
    have h4:=e2.resolve_right c
    have:=(fParts f (fE f p) (fM f p-1) (by omega) (.inl (by omega))).2
    rw[show fE f p*2^f+(fM f p-1)=p-1 by omega] at this
    exact this
theorem zfH{f p:Nat}(h:fM f p=2^f)(h2:fE f p≠0):fE f (p-1)+1=fE f p:=by
  obtain⟨e1,e2⟩:=fOf f p
  have hp:=zbV f
  obtain⟨k,hk⟩:=Nat.exists_eq_succ_of_ne_zero h2
  rw[Nat.succ_eq_add_one] at hk
  have:=(fParts f k (2^(f+1)-1) (by rw[Nat.pow_succ];omega) (.inl (by rw[Nat.pow_succ];omega))).2
  rw[hk,h,Nat.add_mul,Nat.one_mul] at e1
  rw[show k*2^f+(2^(f+1)-1)=p-1 by rw[Nat.pow_succ];omega] at this
  rw[this,hk]
theorem zeO{f p:Nat}(hp:0<p):fW f (p-1)+2^fE f (p-1)=fW f p:=by
  have:=zcU f (p-1)
  rw[Nat.sub_add_cancel hp] at this
  exact this.symm
theorem zfI{f p:Nat}(hp:0<p):0<fM f p:=by
  obtain⟨e1,e2⟩:=fOf f p
  have h2:=zbV f
  rcases e2 with h|h
  · omega
  · rw[h,Nat.zero_mul,Nat.zero_add] at e1
    omega
theorem zju(wide:Bool)(p n:Nat)(x:Int)(hx: -(vv:Int)≤x):
    cmpD (exD (2*fM (ff wide) p+1) ((fE (ff wide) p:Int)-(ll wide:Int)-1)).1 (exD (2*fM (ff wide) p+1) ((fE (ff wide) p:Int)-(ll wide:Int)-1)).2 (decOf n x).1 (decOf n x).2=cmpN (hiX wide p) (dX wide n x):=by
  unfold exD
  rw[zcL (2*fM (ff wide) p+1) n (uu wide) vv _ x (by unfold uu;omega) (by have:=zew wide;have:=zb2;unfold uu;omega) hx]
  unfold dX hiX
  congr 1
  have e:((fE (ff wide) p:Int)-(ll wide:Int)-1+(uu wide:Int)).toNat=fE (ff wide) p:=by unfold uu;omega
  rw[e,zcU]
  unfold fW CC
  congr 1
  rw[Nat.add_mul,Nat.one_mul,Nat.mul_assoc]
  omega
theorem ziJ(wide:Bool){p:Nat}(hp:0<p)(h:fM (ff wide) p≠2^ff wide∨fE (ff wide) p=0)(n:Nat)(x:Int)(hx: -(vv:Int)≤x):
    cmpD (exD (2*fM (ff wide) p-1) ((fE (ff wide) p:Int)-(ll wide:Int)-1)).1 (exD (2*fM (ff wide) p-1) ((fE (ff wide) p:Int)-(ll wide:Int)-1)).2 (decOf n x).1 (decOf n x).2=cmpN (loX wide p) (dX wide n x):=by
  have h1:=zeO (f:=ff wide) hp
  have h2:=zfI (f:=ff wide) hp
  rw[zf9 hp h] at h1
  unfold exD
  rw[zcL (2*fM (ff wide) p-1) n (uu wide) vv _ x (by unfold uu;omega) (by have:=zew wide;have:=zb2;unfold uu;omega) hx]
  unfold dX loX
  congr 1
  have e:((fE (ff wide) p:Int)-(ll wide:Int)-1+(uu wide:Int)).toNat=fE (ff wide) p:=by unfold uu;omega
  rw[e]
  have h3:fW (ff wide) p=fM (ff wide) p*2^fE (ff wide) p:=rfl
  have h4:(2*fM (ff wide) p-1)*2^fE (ff wide) p+2^fE (ff wide) p=2*(fM (ff wide) p*2^fE (ff wide) p):=by
    rw[←Nat.succ_mul,←Nat.mul_assoc]
    congr 1
    omega
  unfold CC
  congr 1
  omega
theorem ziK(wide:Bool){p:Nat}(hp:0<p)(h:fM (ff wide) p=2^ff wide)(h0:fE (ff wide) p≠0)(n:Nat)(x:Int)(hx: -(vv:Int)≤x):
    cmpD (exD (4*fM (ff wide) p-1) ((fE (ff wide) p:Int)-(ll wide:Int)-2)).1 (exD (4*fM (ff wide) p-1) ((fE (ff wide) p:Int)-(ll wide:Int)-2)).2 (decOf n x).1 (decOf n x).2=cmpN (loX wide p) (dX wide n x):=by
  have h1:=zeO (f:=ff wide) hp
  have h2:=zfI (f:=ff wide) hp
  have h5:=zfH h h0
  obtain⟨k,hk⟩: ∃k,fE (ff wide) (p-1)=k:=⟨_,rfl⟩
  rw[hk] at h1 h5
  unfold exD
  rw[zcL (4*fM (ff wide) p-1) n (uu wide) vv _ x (by unfold uu;omega) (by have:=zew wide;have:=zb2;unfold uu;omega) hx]
  unfold dX loX
  congr 1
  have e:((fE (ff wide) p:Int)-(ll wide:Int)-2+(uu wide:Int)).toNat=k:=by unfold uu;omega
  rw[e]
  have h3:fW (ff wide) p=fM (ff wide) p*2^(k+1):=by rw[h5];rfl
  have h4:(4*fM (ff wide) p-1)*2^k+2^k=2*(fM (ff wide) p*2^(k+1)):=by
    rw[←Nat.succ_mul,Nat.pow_succ]
    rw[show(4*fM (ff wide) p-1).succ=4*fM (ff wide) p by omega]
    rw[Nat.mul_comm (2^k) 2,←Nat.mul_assoc,←Nat.mul_assoc]
    congr 1
    omega
  unfold CC
  congr 1
  omega
theorem ziL{lo hi d:List UInt8×Int}{L H X:Nat}(wide:Bool)(p:Nat)(ends:Bool)(he:ends=decide (p%2=0))(hL:L=loX wide p)(hH:H=hiX wide p)(f1:InForm lo.1 lo.2)(f2:InForm hi.1 hi.2)(f3:InForm d.1 d.2)
    (b1:lo.1.length≤2000∧ -5000≤lo.2∧lo.2≤5000) (b2:hi.1.length≤2000∧ -5000≤hi.2∧hi.2≤5000) (b3:d.1.length≤2000∧ -5000≤d.2∧d.2≤5000)
    (c1:cmpD lo.1 lo.2 d.1 d.2=cmpN L X) (c2:cmpD hi.1 hi.2 d.1 d.2=cmpN H X) (t:Bool) (ht:t=true↔inX wide p X):
    Ev (fun k=>zaF.f k (S lo.1) lo.2 (S hi.1) hi.2 ends (S d.1) d.2) t:=by
  have k1:=zey f3 f1 b3 b1
  have k2:=zey f3 f2 b3 b2
  rw[zc7,c1,←zdN] at k1
  rw[zc7,c2,←zdN] at k2
  unfold zaF.f
  refine Ev.bind k1 (Ev.bind k2 (Ev.congr (fun k=>?_) (Ev.now _)))
  unfold inX at ht
  rw[←hL,←hH] at ht
  have p1:=zdx X L
  have p2:=zda X L
  have p3:=zdx X H
  have p4:=zda X H
  generalize cmpN X L=u at*
  generalize cmpN X H=v at*
  have q1:u≥0↔L≤X:=by omega
  have q2:v≤0↔X≤H:=by omega
  have q3:v<0↔X<H:=by omega
  have hee:ends=true↔p%2=0:=by rw[he];exact decide_eq_true_iff
  have key:(if u>0 then(if v<0 then some true else(if ends=true then(if u≥0 then some (decide (v≤0)) else some false) else some false)) else(if ends=true then(if u≥0 then some (decide (v≤0)) else some false) else some false))=some (decide ((u>0∧v<0)∨(ends=true∧u≥0∧v≤0))):=by
    by_cases a1:u>0
    · rw[if_pos a1]
      by_cases a2:v<0
      · rw[if_pos a2,decide_eq_true (.inl ⟨a1,a2⟩)]
      · rw[if_neg a2]
        by_cases a3:ends=true
        · rw[if_pos a3,if_pos (by omega)]
          congr 1
          exact decide_eq_decide.2 ⟨fun h=>.inr ⟨a3,by omega,h⟩,fun h=>h.elim (fun h=>absurd h.2 a2) (fun h=>h.2.2)⟩
        · rw[if_neg a3,decide_eq_false (fun h=>h.elim (fun h=>a2 h.2) (fun h=>a3 h.1))]
    · rw[if_neg a1]
      by_cases a3:ends=true
      · rw[if_pos a3]
        by_cases a4:u≥0
        · rw[if_pos a4]
          congr 1
          exact decide_eq_decide.2 ⟨fun h=>.inr ⟨a3,a4,h⟩,fun h=>h.elim (fun h=>absurd h.1 a1) (fun h=>h.2.2)⟩
        · rw[if_neg a4,decide_eq_false (fun h=>h.elim (fun h=>a1 h.1) (fun h=>a4 h.2.1))]
      · rw[if_neg a3,decide_eq_false (fun h=>h.elim (fun h=>a1 h.1) (fun h=>a3 h.1))]
  rw[key]
  congr 1
  rw[Bool.eq_iff_iff,ht,decide_eq_true_iff,p1,q3,q1,q2,hee]
end Go.Proofs.YtecpgdfnamkfdaaGreatDoor.Pure
end
section
namespace Go.Proofs.YtecpgdfnamkfdaaGreatDoor.Fn
open Go.RowKit Go.Proofs.YtecpgdfnamkfdaaGreatDoorW.PrintWords Go.Proofs.YtecpgdfnamkfdaaGreatDoorW.PrintLast Go.Proofs.YtecpgdfnamkfdaaGreatDoorW.PrintMore
attribute [local go_sem] fnW_0 fnW_1 fnW_2 fnW_3 fnW_4 fnW_5 fnW_guard fnW_eql zaK zaL zaQ zaR
set_option linter.unusedVariables false
set_option linter.unusedSimpArgs false
mutual
def zav.j0:Nat→Int→Int→Int→Bool→Int→Int→Int→ByteArray→Int→ByteArray→Int→Bool→Option (ByteArray×Int×Int)
 |0,_,_,_,_,_,_,_,_,_,_,_,_=>none
 |k+1,x8,x9,U,X,A,B,D,K,M,E,I,J=>if X=true then((zaq.f k (IntKind.u64.wrap ((IntKind.u64.wrap (4*x9))-1)) (wrap64 (U-2))).bind fun O=>(zav.j1 k x8 A B D O.1 O.2.1 E I J)) else(zav.j1 k x8 A B D K M E I J)
def zav.j1:Nat→Int→Int→Int→Int→ByteArray→Int→ByteArray→Int→Bool→Option (ByteArray×Int×Int)
 |0,_,_,_,_,_,_,_,_,_=>none
 |k+1,x8,A,B,D,E,I,J,K,M=>(zbn.f k A B D x8).bind fun O=>(zav.l0 k 1 O.1 O.2 E I J K M)
def zav.l0:Nat→Int→ByteArray→Int→ByteArray→Int→ByteArray→Int→Bool→Option (ByteArray×Int×Int)
 |0,_,_,_,_,_,_,_,_=>none
 |k+1,O,A,B,D,E,I,J,K=>(za1.f k A B O D E I J K).bind fun M=>(if M.2.2=true then(some (M.1,M.2.1,0)) else(zav.l0 k (wrap64 (O+1)) A B D E I J K))
end
def zav.f(k:Nat)(a0:Int)(a1:Int):Option (ByteArray×Int×Int):=(zbF.f a1).bind fun A=>(if A.2.2.2=true then(if 0≤(wrap64 (a1-1)) then(if(Go.bits .and .u64 a0 (IntKind.u64.wrap ((shl .u64 1 (wrap64 (a1-1)))-1)))≥A.2.2.1 then(some ((⟨#[]⟩:ByteArray),0,1)) else((zaV.f A.1 A.2.1 A.2.2.1 (Go.bits .and .u64 a0 (IntKind.u64.wrap ((shl .u64 1 (wrap64 (a1-1)))-1)))).bind fun B=>(if B.1=0 then(some ((⟨#[]⟩:ByteArray),0,0)) else((zaq.f k (IntKind.u64.wrap ((IntKind.u64.wrap (2*B.1))+1)) (wrap64 (B.2-1))).bind fun D=>((zaq.f k (IntKind.u64.wrap ((IntKind.u64.wrap (2*B.1))-1)) (wrap64 (B.2-1))).bind fun E=>(if 0≤A.1 then(if B.1=(shl .u64 1 A.1) then(zav.j0 k (Go.bits .and .u64 a0 (IntKind.u64.wrap ((shl .u64 1 (wrap64 (a1-1)))-1))) B.1 B.2 (decide (B.2>A.2.1)) A.1 A.2.1 A.2.2.1 E.1 E.2.1 D.1 D.2.1 ((Int.tmod B.1 2)==0)) else(zav.j0 k (Go.bits .and .u64 a0 (IntKind.u64.wrap ((shl .u64 1 (wrap64 (a1-1)))-1))) B.1 B.2 false A.1 A.2.1 A.2.2.1 E.1 E.2.1 D.1 D.2.1 ((Int.tmod B.1 2)==0))) else(none))))))) else(none)) else(some ((⟨#[]⟩:ByteArray),0,1)))
set_option maxHeartbeats 8000000 in
set_option maxRecDepth 100000 in
theorem zav.calls(k:Nat)(a0:Int)(a1:Int)(r1:ByteArray)(r2:Int)(r3:Int)(w:World)(h:zav.f k a0 a1=some (r1,r2,r3)):
  Calls Tryz.prog 35 #[.int .u64 a0,.int .i64 a1] w fun e w'=>e= .returned (.tuple #[.agg #[.string r1,.int .i64 r2],.int .i64 r3])∧Below w.heap.size w w':=by
 have fw:=Tryz.underlying42
 have fx:=Tryz.underlying66
 have fy:=Tryz.underlying88
 have HB:=zaa.mk (Below.refl w.heap.size w)
 have H:((zbF.f a1).bind fun ac=>(if ac.2.2.2=true then(if 0≤(wrap64 (a1-1)) then(if(Go.bits .and .u64 a0 (IntKind.u64.wrap ((shl .u64 1 (wrap64 (a1-1)))-1)))≥ac.2.2.1 then(some ((⟨#[]⟩:ByteArray),0,1)) else((zaV.f ac.1 ac.2.1 ac.2.2.1 (Go.bits .and .u64 a0 (IntKind.u64.wrap ((shl .u64 1 (wrap64 (a1-1)))-1)))).bind fun ag=>(if ag.1=0 then(some ((⟨#[]⟩:ByteArray),0,0)) else((zaq.f k (IntKind.u64.wrap ((IntKind.u64.wrap (2*ag.1))+1)) (wrap64 (ag.2-1))).bind fun b3=>((zaq.f k (IntKind.u64.wrap ((IntKind.u64.wrap (2*ag.1))-1)) (wrap64 (ag.2-1))).bind fun b4=>(if 0≤ac.1 then(if ag.1=(shl .u64 1 ac.1) then(zav.j0 k (Go.bits .and .u64 a0 (IntKind.u64.wrap ((shl .u64 1 (wrap64 (a1-1)))-1))) ag.1 ag.2 (decide (ag.2>ac.2.1)) ac.1 ac.2.1 ac.2.2.1 b4.1 b4.2.1 b3.1 b3.2.1 ((Int.tmod ag.1 2)==0)) else(zav.j0 k (Go.bits .and .u64 a0 (IntKind.u64.wrap ((shl .u64 1 (wrap64 (a1-1)))-1))) ag.1 ag.2 false ac.1 ac.2.1 ac.2.2.1 b4.1 b4.2.1 b3.1 b3.2.1 ((Int.tmod ag.1 2)==0))) else(none))))))) else(none)) else(some ((⟨#[]⟩:ByteArray),0,1))))=some (r1,r2,r3):=h
 clear h
 replace H:=bs H
 obtain⟨⟨E,K,J,dh⟩,A3,H⟩:=H
 dsimp only at H
 go_enter Tryz.func35,Tryz.ntmps35
 go_upto_if 23 with(first|((with_reducible refine zak (N:=4) rfl ?_);refine zaj rfl (N:=4) rfl (cs:=#[.string (⟨#[]⟩:ByteArray),.int .i64 0]) (t:=42) gz ?_;intro D hg w4 hbox hb;have dY:=gN bz hg;have U:=zaa.mk hbox;replace HB:=bN bz hb;clear hb hbox hg)|((with_reducible refine zac (f:=42) rfl ?_);refine zal (some 19) rfl rfl Tryz.func42 (by kernel_rfl) rfl #[.int .i64 a1] rfl lz ?_;(with_reducible refine(zbF.calls a1 E K J dh _ A3.out).mono ?_);rintro e w5 ⟨rfl,hb⟩;refine⟨_,rfl,?_⟩;replace U:=kN (g:=D) (cs:=#[.string (⟨#[]⟩:ByteArray),.int .i64 0]) hb bk;replace HB:=bN bz hb;(try clear hb);(try clear cD);(try clear hk);(try clear hi))|((with_reducible refine zak (N:=6) rfl ?_);refine zaj rfl (N:=6) rfl (cs:=#[.int .i64 0,.int .i64 0,.int .u64 0]) (t:=66) gz ?_;intro X hg w6 hbox hb;have dZ:=gN bz hg;have M:=lN (g:=D) (cs:=#[.string (⟨#[]⟩:ByteArray),.int .i64 0]) hg bk;have O:=rN (g:=D) (cs:=#[.string (⟨#[]⟩:ByteArray),.int .i64 0]) hg bk;replace U:=kN (g:=D) (cs:=#[.string (⟨#[]⟩:ByteArray),.int .i64 0]) hb bk;have Y:=zaa.mk hbox;replace HB:=bN bz hb;clear hb hbox hg;have fz:=O.out;have fA:=M.out;obtain⟨b5,b6,b7,b8,ca,cb⟩:=cz3 (W:=w6) Y))
 (try simp only[Act.put,List.setIfInBounds_toArray,List.set_cons_zero,List.set_cons_succ])
 by_cases c9:dh=true
 ·subst c9
  replace H:=hT H
  obtain⟨ao,ax⟩: ∃j_:Int,(wrap64 (a1-1))=j_:=⟨_,rfl⟩
  (first|rw[ax] at H|simp only[ax] at H)
  have dS:(IntKind.i64.wrap (a1-1))=ao:=(zad _).trans ax
  by_cases ce:0≤(ao)
  ·replace H:=hE H ce
   have cy:=eq_true ce
   have cz:decide (0≤(ao))=true:=decide_eq_true ce
   clear ce
   obtain⟨aj,ak⟩: ∃j_:Int,(shl .u64 1 (ao))=j_:=⟨_,rfl⟩
   (first|rw[ak] at H|simp only[ak] at H)
   have db:(IntKind.u64.wrap (1*2^min (ao).toNat 64))=aj:=ak
   have dc:(ao)≤64→(IntKind.u64.wrap (1*2^(ao).toNat))=aj:=zbM ak
   have dT:(IntKind.u64.wrap (2^min (ao).toNat 64))=aj:=by have h_:=db;rw[Int.one_mul] at h_;exact h_
   have dU:(ao)≤64→(IntKind.u64.wrap (2^(ao).toNat))=aj:=fun hle_=>by have h_:=dc hle_;rw[Int.one_mul] at h_;exact h_
   by_cases cc:(Go.bits .and .u64 a0 (IntKind.u64.wrap ((aj)-1)))≥J
   ·replace H:=hE H cc
    have an:decide (J≤(Go.bits .and .u64 a0 (IntKind.u64.wrap ((aj)-1))))=true:=decide_eq_true cc
    clear cc
    (first|rw[an]|(simp only[zad,zaf];rw[an])|skip)
    simp only[Option.some.injEq,Prod.mk.injEq] at H
    obtain⟨rfl,rfl,rfl⟩:=H
    have d0:=O.out
    have d5:=M.out
    obtain⟨aE,aF,aG,aH,aI,aJ⟩:=cz3 (W:=w6) Y
    obtain⟨aK,aL,aM,aN⟩:=cz2 (W:=w6) U
    go_wp2
    refine bodyPost_ret (zaM rfl _ _ D 42 #[.string (⟨#[]⟩:ByteArray),.int .i64 0] (0,0) _ rfl bk Tryz.underlying42 rfl (by kernel_rfl)) rfl ?_
    exact⟨by first|rfl|(simp[zan,zao]<;>rfl)|(simp only[←ax,←ak];first|rfl|(simp[zan,zao]<;>rfl))|(simp[*,zan,zao]<;>rfl),bz⟩
   replace H:=hN H cc
   have an:decide (J≤(Go.bits .and .u64 a0 (IntKind.u64.wrap ((aj)-1))))=false:=decide_eq_false cc
   clear cc
   (first|rw[an]|(simp only[zad,zaf];rw[an])|skip)
   replace H:=bs H
   obtain⟨⟨I,au⟩,d6,H⟩:=H
   dsimp only at H
   have d7:=O.out
   have d8:=M.out
   obtain⟨aO,aP,aQ,aR,aS,aT⟩:=cz3 (W:=w6) Y
   go_upto_if 43 with(first|((with_reducible refine zac (f:=43) rfl ?_);refine zal (some 39) rfl rfl Tryz.func43 (by kernel_rfl) rfl #[.agg #[.int .i64 E,.int .i64 K,.int .u64 J],.int .u64 (Go.bits .and .u64 a0 (IntKind.u64.wrap ((aj)-1)))] rfl (by(try simp only[List.map_toArray,List.map_cons,List.map_nil]);first|done|(simp only[ak];rfl)|rfl|(simp only[List.length_drop,List.length_take];rfl)) ?_;(with_reducible refine(zaV.calls E K J (Go.bits .and .u64 a0 (IntKind.u64.wrap ((aj)-1))) I au _ d6.out).mono ?_);rintro e d9 ⟨rfl,hb⟩;refine⟨_,rfl,?_⟩;replace U:=kN (g:=D) (cs:=#[.string (⟨#[]⟩:ByteArray),.int .i64 0]) hb bk;replace Y:=kN (g:=X) (cs:=#[.int .i64 E,.int .i64 K,.int .u64 J]) hb bk;replace HB:=bN bz hb;(try clear hb);(try clear cD);(try clear hk);(try clear hi)))
   (try simp only[Act.put,List.setIfInBounds_toArray,List.set_cons_zero,List.set_cons_succ])
   by_cases cf:I=0
   ·replace H:=hE H cf
    obtain⟨ay,az⟩:=eT cf
    clear cf
    try first|rw[ay]|rw[az]
    simp only[Option.some.injEq,Prod.mk.injEq] at H
    obtain⟨rfl,rfl,rfl⟩:=H
    have ea:=M.out
    have eb:=O.out
    obtain⟨aU,aV,aW,aX⟩:=cz2 (W:=d9) U
    go_wp2
    refine bodyPost_ret (zaM rfl _ _ D 42 #[.string (⟨#[]⟩:ByteArray),.int .i64 0] (0,0) _ rfl bk Tryz.underlying42 rfl (by kernel_rfl)) rfl ?_
    exact⟨by first|rfl|(simp[zan,zao]<;>rfl)|(simp only[←ax,←ak];first|rfl|(simp[zan,zao]<;>rfl))|(simp[*,zan,zao]<;>rfl),bz⟩
   replace H:=hN H cf
   obtain⟨ay,az⟩:=eF cf
   try first|rw[ay]|rw[az]
   replace H:=bs H
   obtain⟨⟨ad,ae,ds⟩,ec,H⟩:=H
   dsimp only at H
   replace H:=bs H
   obtain⟨⟨cg,ci,dt⟩,ed,H⟩:=H
   dsimp only at H
   have cG:=zaa.mk H
   clear H
   go_upto_region 13 with(first|((with_reducible refine zak (N:=11) rfl ?_);refine zaj rfl (N:=11) rfl (cs:=#[.string (⟨#[]⟩:ByteArray),.int .i64 0,.string (⟨#[]⟩:ByteArray),.int .i64 0,.bool false]) (t:=88) gz ?_;intro af hg ee hbox hb;have ef:=gN bz hg;have al:=lN (g:=D) (cs:=#[.string (⟨#[]⟩:ByteArray),.int .i64 0]) hg bk;have am:=rN (g:=D) (cs:=#[.string (⟨#[]⟩:ByteArray),.int .i64 0]) hg bk;have ah:=lN (g:=X) (cs:=#[.int .i64 E,.int .i64 K,.int .u64 J]) hg bk;have ai:=rN (g:=X) (cs:=#[.int .i64 E,.int .i64 K,.int .u64 J]) hg bk;replace U:=kN (g:=D) (cs:=#[.string (⟨#[]⟩:ByteArray),.int .i64 0]) hb bk;replace Y:=kN (g:=X) (cs:=#[.int .i64 E,.int .i64 K,.int .u64 J]) hb bk;have Z:=zaa.mk hbox;replace HB:=bN bz hb;clear hb hbox hg;have eg:=am.out;have eh:=al.out;have ei:=ai.out;have ej:=ah.out;obtain⟨aY,aZ,a2,a3,a4,a5,a6,a7,a8,a9⟩:=cz5 (W:=ee) Z)|((with_reducible refine zac (f:=29) rfl ?_);refine zal (some 55) rfl rfl Tryz.func29 (by kernel_rfl) rfl #[.int .u64 (IntKind.u64.wrap ((IntKind.u64.wrap (2*I))+1)),.int .i64 (wrap64 (au-1))] rfl lz ?_;(with_reducible refine(zaq.calls k (IntKind.u64.wrap ((IntKind.u64.wrap (2*I))+1)) (wrap64 (au-1)) ad ae ds _ ec.out).mono ?_);rintro e ek ⟨rfl,hb⟩;refine⟨_,rfl,?_⟩;replace U:=kN (g:=D) (cs:=#[.string (⟨#[]⟩:ByteArray),.int .i64 0]) hb bk;replace Y:=kN (g:=X) (cs:=#[.int .i64 E,.int .i64 K,.int .u64 J]) hb bk;replace Z:=kN (g:=af) (cs:=#[.string (⟨#[]⟩:ByteArray),.int .i64 0,.string (⟨#[]⟩:ByteArray),.int .i64 0,.bool ((Int.tmod I 2)==0)]) hb bk;replace HB:=bN bz hb;(try clear hb);(try clear cD);(try clear hk);(try clear hi);obtain⟨ba,bb,bc,bd,be,bf,bg,bh,bi,bj⟩:=cz5 (W:=ek) Z)|((with_reducible refine zac (f:=29) rfl ?_);refine zal (some 65) rfl rfl Tryz.func29 (by kernel_rfl) rfl #[.int .u64 (IntKind.u64.wrap ((IntKind.u64.wrap (2*I))-1)),.int .i64 (wrap64 (au-1))] rfl lz ?_;(with_reducible refine(zaq.calls k (IntKind.u64.wrap ((IntKind.u64.wrap (2*I))-1)) (wrap64 (au-1)) cg ci dt _ ed.out).mono ?_);rintro e dq ⟨rfl,hb⟩;refine⟨_,rfl,?_⟩;replace U:=kN (g:=D) (cs:=#[.string (⟨#[]⟩:ByteArray),.int .i64 0]) hb bk;replace Y:=kN (g:=X) (cs:=#[.int .i64 E,.int .i64 K,.int .u64 J]) hb bk;replace Z:=kN (g:=af) (cs:=#[.string (⟨#[]⟩:ByteArray),.int .i64 0,.string ad,.int .i64 ae,.bool ((Int.tmod I 2)==0)]) hb bk;replace HB:=bN bz hb;(try clear hb);(try clear cD);(try clear hk);(try clear hi);obtain⟨bl,bm,bn,bo,bp,bq,br,bu,bv,bw⟩:=cz5 (W:=dq) Z))
   (try simp only[Act.put,List.setIfInBounds_toArray,List.set_cons_zero,List.set_cons_succ])
   go_cut [79] (fun em wc=> ∃(kq:Nat) (aD:Bool),em= .bool aD∧zaa (zav.j0 kq (Go.bits .and .u64 a0 (IntKind.u64.wrap ((aj)-1))) I au aD E K J cg ci ad ae ((Int.tmod I 2)==0)=some (r1,r2,r3))∧zaa (kq≤k)∧zaa (wc.heap[D]? =some (.cells #[.string (⟨#[]⟩:ByteArray),.int .i64 0] 42 (0,0)))∧zaa (wc.heap[X]? =some (.cells #[.int .i64 E,.int .i64 K,.int .u64 J] 66 (0,0)))∧zaa (wc.heap[af]? =some (.cells #[.string cg,.int .i64 ci,.string ad,.int .i64 ae,.bool ((Int.tmod I 2)==0)] 88 (0,0)))∧zaa (Below w.heap.size w wc))
   case first=>
    have H:=cG.out
    clear cG
    by_cases cj:0≤E
    ·replace H:=hE H cj
     have cA:=eq_true cj
     have cB:decide (0≤E)=true:=decide_eq_true cj
     clear cj
     obtain⟨ck,cd⟩: ∃j_:Int,(shl .u64 1 E)=j_:=⟨_,rfl⟩
     (first|rw[cd] at H|simp only[cd] at H)
     have dd:(IntKind.u64.wrap (1*2^min E.toNat 64))=ck:=cd
     have de:E≤64→(IntKind.u64.wrap (1*2^E.toNat))=ck:=zbM cd
     have dV:(IntKind.u64.wrap (2^min E.toNat 64))=ck:=by have h_:=dd;rw[Int.one_mul] at h_;exact h_
     have dW:E≤64→(IntKind.u64.wrap (2^E.toNat))=ck:=fun hle_=>by have h_:=de hle_;rw[Int.one_mul] at h_;exact h_
     by_cases cm:I=(ck)
     ·replace H:=hE H cm
      obtain⟨aA,aB⟩:=eT cm
      clear cm
      try first|rw[aA]|rw[aB]
      have H':=zaa.mk H
      clear H
      have en:=O.out
      have eo:=M.out
      have ep:=ah.out
      have eq:=ai.out
      obtain⟨bA,bB,bC,bD,bE,bG⟩:=cz3 (W:=dq) Y
      go_wp2
      go_meet
      case rel=>exact⟨_,(decide (au>K)),rz,H',⟨by first|omega|exact Nat.le_refl _⟩,⟨bk⟩,⟨bk⟩,⟨bk⟩,⟨bz⟩⟩
     replace H:=hN H cm
     obtain⟨aA,aB⟩:=eF cm
     try first|rw[aA]|rw[aB]
     have H':=zaa.mk H
     clear H
     have er:=O.out
     have et:=M.out
     have eu:=ah.out
     have ev:=ai.out
     obtain⟨bH,bI,bJ,bK,bL,bM⟩:=cz3 (W:=dq) Y
     go_wp2
     go_meet
     case rel=>exact⟨_,(false),rz,H',⟨by first|omega|exact Nat.le_refl _⟩,⟨bk⟩,⟨bk⟩,⟨bk⟩,⟨bz⟩⟩
    replace H:=hN H cj
    exact absurd H (by simp)
   case rest=>
    clear cG
    try clear c9
    try clear ce
    try clear cy
    try clear cz
    try clear cc
    try clear an
    try clear cf
    try clear ay
    try clear az
    try clear cj
    try clear cA
    try clear cB
    try clear cm
    try clear aA
    try clear aB
    try clear aE aF aG aH aI aJ
    try clear aK aL aM aN
    try clear aO aP aQ aR aS aT
    try clear aU aV aW aX
    try clear aY aZ a2 a3 a4 a5 a6 a7 a8 a9
    try clear ba bb bc bd be bf bg bh bi bj
    try clear bl bm bn bo bp bq br bu bv bw
    try clear bA bB bC bD bE bG
    try clear bH bI bJ bK bL bM
    try clear b5 b6 b7 b8 ca cb
    obtain⟨kq,aD,rfl,HA,cC,U,Y,Z,HB⟩:=hcut
    cases kq with
    |zero=>exact absurd HA.out (by simp[zav.j0])
    |succ di=>
     have H:=HA.out
     clear HA
     simp only[zav.j0] at H
     have cH:=zaa.mk H
     clear H
     go_upto_if 79 with(fail)
     go_cut [] (fun wc=> ∃(kq:Nat) (A:ByteArray) (B:Int),zaa (zav.j1 kq (Go.bits .and .u64 a0 (IntKind.u64.wrap ((aj)-1))) E K J A B ad ae ((Int.tmod I 2)==0)=some (r1,r2,r3))∧zaa (kq≤di)∧zaa (wc.heap[D]? =some (.cells #[.string (⟨#[]⟩:ByteArray),.int .i64 0] 42 (0,0)))∧zaa (wc.heap[X]? =some (.cells #[.int .i64 E,.int .i64 K,.int .u64 J] 66 (0,0)))∧zaa (wc.heap[af]? =some (.cells #[.string A,.int .i64 B,.string ad,.int .i64 ae,.bool ((Int.tmod I 2)==0)] 88 (0,0)))∧zaa (Below w.heap.size w wc))
     case first=>
      have H:=cH.out
      clear cH
      by_cases cF:aD=true
      ·subst cF
       replace H:=hT H
       replace H:=bs H
       obtain⟨⟨dj,dk,du⟩,ew,H⟩:=H
       dsimp only at H
       have H':=zaa.mk H
       clear H
       go_wp2_with (first|((with_reducible refine zac (f:=29) rfl ?_);refine zal (some 86) rfl rfl Tryz.func29 (by kernel_rfl) rfl #[.int .u64 (IntKind.u64.wrap ((IntKind.u64.wrap (4*I))-1)),.int .i64 (wrap64 (au-2))] rfl lz ?_;(with_reducible refine(zaq.calls di (IntKind.u64.wrap ((IntKind.u64.wrap (4*I))-1)) (wrap64 (au-2)) dj dk du _ ew.out).mono ?_);rintro e ey ⟨rfl,hb⟩;refine⟨_,rfl,?_⟩;replace U:=kN (g:=D) (cs:=#[.string (⟨#[]⟩:ByteArray),.int .i64 0]) hb bk;replace Y:=kN (g:=X) (cs:=#[.int .i64 E,.int .i64 K,.int .u64 J]) hb bk;replace Z:=kN (g:=af) (cs:=#[.string cg,.int .i64 ci,.string ad,.int .i64 ae,.bool ((Int.tmod I 2)==0)]) hb bk;replace HB:=bN bz hb;(try clear hb);(try clear cD);(try clear hk);(try clear hi);have eA:=am.out;have eB:=al.out;have eC:=ai.out;have eD:=ah.out;obtain⟨cn,co,cp,cq,cr,ct,cu,cv,cw,cx⟩:=cz5 (W:=ey) Z))
       go_meet
       case rel=>exact⟨_,(dj),(dk),H',⟨by have:=cC.out;first|omega|exact Nat.le_refl _⟩,⟨bk⟩,⟨bk⟩,⟨bk⟩,⟨bz⟩⟩
      replace cF:=Bool.eq_false_iff.mpr cF
      subst cF
      replace H:=hF H
      have H':=zaa.mk H
      clear H
      go_wp2
      go_meet
      case rel=>exact⟨_,(cg),(ci),H',⟨by have:=cC.out;first|omega|exact Nat.le_refl _⟩,⟨bk⟩,⟨bk⟩,⟨bk⟩,⟨bz⟩⟩
     case rest=>
      clear cH
      try clear c9
      try clear ce
      try clear cy
      try clear cz
      try clear cc
      try clear an
      try clear cf
      try clear ay
      try clear az
      try clear cj
      try clear cA
      try clear cB
      try clear cm
      try clear aA
      try clear aB
      try clear cF
      try clear aE aF aG aH aI aJ
      try clear aK aL aM aN
      try clear aO aP aQ aR aS aT
      try clear aU aV aW aX
      try clear aY aZ a2 a3 a4 a5 a6 a7 a8 a9
      try clear ba bb bc bd be bf bg bh bi bj
      try clear bl bm bn bo bp bq br bu bv bw
      try clear bA bB bC bD bE bG
      try clear bH bI bJ bK bL bM
      try clear cn co cp cq cr ct cu cv cw cx
      try clear b5 b6 b7 b8 ca cb
      obtain⟨kq,A,B,HA,dl,U,Y,Z,HB⟩:=hcut
      cases kq with
      |zero=>exact absurd HA.out (by simp[zav.j1])
      |succ cI=>
       have H:=HA.out
       clear HA
       simp only[zav.j1] at H
       replace H:=bs H
       obtain⟨⟨av,aw⟩,eE,H⟩:=H
       dsimp only at H
       have H':=zaa.mk H
       clear H
       have eG:=O.out
       have eH:=M.out
       have eI:=ah.out
       have eJ:=ai.out
       obtain⟨cJ,cK,cL,cM,cN,cO⟩:=cz3 (W:=wc) Y
       go_wp2_with (first|((with_reducible refine zac (f:=54) rfl ?_);refine zal (some 92) rfl rfl Tryz.func54 (by kernel_rfl) rfl #[.agg #[.int .i64 E,.int .i64 K,.int .u64 J],.int .u64 (Go.bits .and .u64 a0 (IntKind.u64.wrap ((aj)-1)))] rfl (by(try simp only[List.map_toArray,List.map_cons,List.map_nil]);first|done|(simp only[ak];rfl)|rfl|(simp only[List.length_drop,List.length_take];rfl)) ?_;(with_reducible refine(zbn.calls cI E K J (Go.bits .and .u64 a0 (IntKind.u64.wrap ((aj)-1))) av aw _ eE.out).mono ?_);rintro e fC ⟨rfl,hb⟩;refine⟨_,rfl,?_⟩;replace U:=kN (g:=D) (cs:=#[.string (⟨#[]⟩:ByteArray),.int .i64 0]) hb bk;replace Y:=kN (g:=X) (cs:=#[.int .i64 E,.int .i64 K,.int .u64 J]) hb bk;replace Z:=kN (g:=af) (cs:=#[.string A,.int .i64 B,.string ad,.int .i64 ae,.bool ((Int.tmod I 2)==0)]) hb bk;replace HB:=bN bz hb;(try clear hb);(try clear cD);(try clear hk);(try clear hi))|((with_reducible refine zak (N:=12) rfl ?_);refine zaj rfl (N:=12) rfl (cs:=#[.string (⟨#[]⟩:ByteArray),.int .i64 0]) (t:=42) gz ?_;intro bO hg dv hbox hb;have eK:=gN bz hg;have ap:=lN (g:=D) (cs:=#[.string (⟨#[]⟩:ByteArray),.int .i64 0]) hg bk;have ar:=rN (g:=D) (cs:=#[.string (⟨#[]⟩:ByteArray),.int .i64 0]) hg bk;have bP:=lN (g:=X) (cs:=#[.int .i64 E,.int .i64 K,.int .u64 J]) hg bk;have bQ:=rN (g:=X) (cs:=#[.int .i64 E,.int .i64 K,.int .u64 J]) hg bk;have bR:=lN (g:=af) (cs:=#[.string A,.int .i64 B,.string ad,.int .i64 ae,.bool ((Int.tmod I 2)==0)]) hg bk;have bS:=rN (g:=af) (cs:=#[.string A,.int .i64 B,.string ad,.int .i64 ae,.bool ((Int.tmod I 2)==0)]) hg bk;replace U:=kN (g:=D) (cs:=#[.string (⟨#[]⟩:ByteArray),.int .i64 0]) hb bk;replace Y:=kN (g:=X) (cs:=#[.int .i64 E,.int .i64 K,.int .u64 J]) hb bk;replace Z:=kN (g:=af) (cs:=#[.string A,.int .i64 B,.string ad,.int .i64 ae,.bool ((Int.tmod I 2)==0)]) hb bk;have bU:=zaa.mk hbox;replace HB:=bN bz hb;clear hb hbox hg;have eL:=ar.out;have eM:=ap.out;have eN:=bQ.out;have eO:=bP.out;have eP:=bS.out;have eQ:=bR.out;obtain⟨cP,cQ,cR,cS⟩:=cz2 (W:=dv) bU;have eR:=am.out;have eS:=al.out;obtain⟨cT,cV,cW,cX,cY,cZ,c5,c6,c7,c8⟩:=cz5 (W:=dv) Z))
       go_loopg [14] cI (fun kq eU w'=> ∃(aC:Int) (aa:ByteArray) (ab:Int),eU= .int .i64 aC∧zaa (zav.l0 kq aC av aw A B ad ae ((Int.tmod I 2)==0)=some (r1,r2,r3))∧zaa (kq≤cI)∧zaa (w'.heap[D]? =some (.cells #[.string aa,.int .i64 ab] 42 (0,0)))∧zaa (w'.heap[X]? =some (.cells #[.int .i64 E,.int .i64 K,.int .u64 J] 66 (0,0)))∧zaa (w'.heap[af]? =some (.cells #[.string A,.int .i64 B,.string ad,.int .i64 ae,.bool ((Int.tmod I 2)==0)] 88 (0,0)))∧zaa (w'.heap[bO]? =some (.cells #[.string av,.int .i64 aw] 42 (0,0)))∧zaa (Below w.heap.size w w'))
       case atStart=>exact⟨(1),((⟨#[]⟩:ByteArray)),(0),rz,H',⟨Nat.le_refl _⟩,⟨bk⟩,⟨bk⟩,⟨bk⟩,⟨bk⟩,⟨bz⟩⟩
       case round=>
        clear H'
        try clear c9
        try clear ce
        try clear cy
        try clear cz
        try clear cc
        try clear an
        try clear cf
        try clear ay
        try clear az
        try clear cj
        try clear cA
        try clear cB
        try clear cm
        try clear aA
        try clear aB
        try clear cF
        try clear aE aF aG aH aI aJ
        try clear aK aL aM aN
        try clear aO aP aQ aR aS aT
        try clear aU aV aW aX
        try clear aY aZ a2 a3 a4 a5 a6 a7 a8 a9
        try clear ba bb bc bd be bf bg bh bi bj
        try clear bl bm bn bo bp bq br bu bv bw
        try clear bA bB bC bD bE bG
        try clear bH bI bJ bK bL bM
        try clear cn co cp cq cr ct cu cv cw cx
        try clear cJ cK cL cM cN cO
        try clear cP cQ cR cS
        try clear cT cV cW cX cY cZ c5 c6 c7 c8
        try clear b5 b6 b7 b8 ca cb
        obtain⟨aC,aa,ab,rfl,HA,dw,U,Y,Z,bU,HB⟩:=hrel
        cases gk with
        |zero=>exact absurd HA.out (by simp[zav.l0])
        |succ k3=>
         have H:=HA.out
         clear HA
         simp only[zav.l0] at H
         replace H:=bs H
         obtain⟨⟨dm,dn,dp⟩,eV,H⟩:=H
         dsimp only at H
         have eW:=ar.out
         have eX:=ap.out
         have eY:=bQ.out
         have eZ:=bP.out
         have e0:=bS.out
         have e1:=bR.out
         obtain⟨dx,dy,dA,dB⟩:=cz2 (W:=wr) bU
         go_upto_if 104 with(first|((with_reducible refine zac (f:=57) rfl ?_);refine zal (some 101) rfl rfl Tryz.func57 (by kernel_rfl) rfl #[.agg #[.string av,.int .i64 aw],.int .i64 aC,.func (.func 56) #[.agg #[.string A,.int .i64 B,.string ad,.int .i64 ae,.bool ((Int.tmod I 2)==0)]] #[]] rfl lz ?_;(with_reducible refine(za1.calls k3 av aw aC A B ad ae ((Int.tmod I 2)==0) dm dn dp _ eV.out).mono ?_);rintro e fD ⟨rfl,hb⟩;refine⟨_,rfl,?_⟩;replace U:=kN (g:=D) (cs:=#[.string aa,.int .i64 ab]) hb bk;replace Y:=kN (g:=X) (cs:=#[.int .i64 E,.int .i64 K,.int .u64 J]) hb bk;replace Z:=kN (g:=af) (cs:=#[.string A,.int .i64 B,.string ad,.int .i64 ae,.bool ((Int.tmod I 2)==0)]) hb bk;replace bU:=kN (g:=bO) (cs:=#[.string av,.int .i64 aw]) hb bk;replace HB:=bN bz hb;(try clear hb);(try clear cD);(try clear hk);(try clear hi))|((with_reducible refine zak (N:=15) rfl ?_);refine zaj rfl (N:=15) rfl (cs:=#[.string (⟨#[]⟩:ByteArray),.int .i64 0]) (t:=42) gz ?_;intro e2 hg dr hbox hb;have e3:=gN bz hg;have bV:=lN (g:=D) (cs:=#[.string aa,.int .i64 ab]) hg bk;have bW:=rN (g:=D) (cs:=#[.string aa,.int .i64 ab]) hg bk;have bX:=lN (g:=X) (cs:=#[.int .i64 E,.int .i64 K,.int .u64 J]) hg bk;have bY:=rN (g:=X) (cs:=#[.int .i64 E,.int .i64 K,.int .u64 J]) hg bk;have bZ:=lN (g:=af) (cs:=#[.string A,.int .i64 B,.string ad,.int .i64 ae,.bool ((Int.tmod I 2)==0)]) hg bk;have b0:=rN (g:=af) (cs:=#[.string A,.int .i64 B,.string ad,.int .i64 ae,.bool ((Int.tmod I 2)==0)]) hg bk;have b1:=lN (g:=bO) (cs:=#[.string av,.int .i64 aw]) hg bk;have b2:=rN (g:=bO) (cs:=#[.string av,.int .i64 aw]) hg bk;replace U:=kN (g:=D) (cs:=#[.string aa,.int .i64 ab]) hb bk;replace Y:=kN (g:=X) (cs:=#[.int .i64 E,.int .i64 K,.int .u64 J]) hb bk;replace Z:=kN (g:=af) (cs:=#[.string A,.int .i64 B,.string ad,.int .i64 ae,.bool ((Int.tmod I 2)==0)]) hb bk;replace bU:=kN (g:=bO) (cs:=#[.string av,.int .i64 aw]) hb bk;have da:=zaa.mk hbox;replace HB:=bN bz hb;clear hb hbox hg;have e4:=bW.out;have e5:=bV.out;have e6:=bY.out;have e7:=bX.out;have e8:=b0.out;have e9:=bZ.out;have fa:=b2.out;have fb:=b1.out;obtain⟨dC,dD,dE,dF⟩:=cz2 (W:=dr) da))
         (try simp only[Act.put,List.setIfInBounds_toArray,List.set_cons_zero,List.set_cons_succ])
         by_cases df:dp=true
         ·subst df
          replace H:=hT H
          simp only[Option.some.injEq,Prod.mk.injEq] at H
          obtain⟨rfl,rfl,rfl⟩:=H
          have fc:=bW.out
          have fe:=bV.out
          have fg:=bY.out
          have fh:=bX.out
          have fi:=b0.out
          have fj:=bZ.out
          have fk:=b2.out
          have fl:=b1.out
          obtain⟨dG,dH,dI,dJ⟩:=cz2 (W:=dr) da
          have fm:=M.out
          have fo:=O.out
          have fp:=al.out
          have fq:=am.out
          have fs:=ap.out
          have ft:=ar.out
          obtain⟨dK,dL,dM,dN⟩:=cz2 (W:=dr) U
          go_wp2
          refine bodyPost_ret (zaM rfl _ _ D 42 #[.string dm,.int .i64 dn] (0,0) _ rfl bk Tryz.underlying42 rfl (by kernel_rfl)) rfl ?_
          exact⟨by first|rfl|(simp[zan,zao]<;>rfl)|(simp only[←ax,←ak];first|rfl|(simp[zan,zao]<;>rfl))|(simp[*,zan,zao]<;>rfl),bz⟩
         replace df:=Bool.eq_false_iff.mpr df
         subst df
         replace H:=hF H
         have H':=zaa.mk H
         clear H
         go_wp2
         go_roundg k3
         case measure=>have:=cC.out;have:=dl.out;have:=dw.out;omega
         case rel=>exact⟨(wrap64 (aC+1)),(aa),(ab),rz,H',⟨by have:=cC.out;have:=dl.out;have:=dw.out;omega⟩,⟨bk⟩,⟨bk⟩,⟨bk⟩,⟨bk⟩,⟨bz⟩⟩
  replace H:=hN H ce
  exact absurd H (by simp)
 replace c9:=Bool.eq_false_iff.mpr c9
 subst c9
 replace H:=hF H
 simp only[Option.some.injEq,Prod.mk.injEq] at H
 obtain⟨rfl,rfl,rfl⟩:=H
 have fu:=M.out
 have fv:=O.out
 obtain⟨dO,dP,dQ,dR⟩:=cz2 (W:=w6) U
 go_wp2
 refine bodyPost_ret (zaM rfl _ _ D 42 #[.string (⟨#[]⟩:ByteArray),.int .i64 0] (0,0) _ rfl bk Tryz.underlying42 rfl (by kernel_rfl)) rfl ?_
 exact⟨ez,bz⟩
end Go.Proofs.YtecpgdfnamkfdaaGreatDoor.Fn
end
section
namespace Go.Proofs.YtecpgdfnamkfdaaGreatDoor.Pure
open Go.RowKit Go.Proofs.YtecpgdfnamkfdaaGreatDoorW.PrintWords Go.Proofs.YtecpgdfnamkfdaaGreatDoor.Fn
set_option linter.unusedVariables false
set_option linter.unusedSimpArgs false
theorem zg4(u:Int):(S ([49]:List UInt8),u+1)=(S (decOf 1 u).1,(decOf 1 u).2):=by
  unfold decOf
  rw[if_neg (by omega)]
  have h1:digs 1=[49]:=rfl
  rw[h1]
  have h2:rz [49]=[49]:=rfl
  rw[h2]
  simp
  omega
theorem zfa{l:List UInt8}(h:AllD l){p:Int}(hl:l.length≤2000)(hp: -5000≤p∧p≤5000):normS (S l) p=(S (decOf (val l) (p-l.length)).1,(decOf (val l) (p-l.length)).2,0):=by
  unfold normS normTail
  rw[if_neg (by rw[zaE];omega),L_S,if_pos (zf7 h),if_neg (by omega),if_neg (by omega),zci h]
  rfl
theorem zcM{n k:Nat}{e:Int}(h:n<10^k)(hk:k≤1400)(he: -3000≤e)(h2:e+k≤3000):(decOf n e).1.length≤2000∧ -5000≤(decOf n e).2∧(decOf n e).2≤5000:=by
  have:=zbT h e
  omega
structure Val (wide : Bool) (p : Nat) (v : List UInt8 × Int) : Prop where
  form : InForm v.1 v.2
  len : v.1.length ≤ 1300
  lo : -1200 ≤ v.2
  hi : v.2 ≤ 1300
def cU(v:List UInt8×Int)(n:Nat):Nat:=val (v.1.take n)
def cE(v:List UInt8×Int)(n:Nat):Int:=v.2-n
def isP(wide:Bool)(p:Nat)(n:Nat)(x:Int):Prop:=rdX wide (dX wide n x)=p
instance (wide : Bool) (p n : Nat) (x : Int) : Decidable (isP wide p n x) := by unfold isP; infer_instance
def nearU(v:List UInt8×Int)(n:Nat):Nat:=if downP v.1 n then cU v n else cU v n+1
def bestD(wide:Bool)(p:Nat)(v:List UInt8×Int)(n:Nat):Option (List UInt8×Int):=
  if v.1.length≤n then some v
  else if isP wide p (nearU v n) (cE v n) then some (decOf (nearU v n) (cE v n))
  else if isP wide p (cU v n) (cE v n) then some (decOf (cU v n) (cE v n))
  else if isP wide p (cU v n+1) (cE v n) then some (decOf (cU v n+1) (cE v n)) else none
def optD(o:Option (List UInt8×Int)):ByteArray×Int×Bool:=match o with
  |some d=>(S d.1,d.2,true)
  |none=>(⟨#[]⟩,0,false)
structure Span (wide : Bool) (p : Nat) (lo hi : List UInt8 × Int) : Prop where
  f1 : InForm lo.1 lo.2
  f2 : InForm hi.1 hi.2
  b1 : lo.1.length ≤ 2000 ∧ -5000 ≤ lo.2 ∧ lo.2 ≤ 5000
  b2 : hi.1.length ≤ 2000 ∧ -5000 ≤ hi.2 ∧ hi.2 ≤ 5000
  c1 : ∀ (n : Nat) (x : Int), -(vv : Int) ≤ x → cmpD lo.1 lo.2 (decOf n x).1 (decOf n x).2 = cmpN (loX wide p) (dX wide n x)
  c2 : ∀ (n : Nat) (x : Int), -(vv : Int) ≤ x → cmpD hi.1 hi.2 (decOf n x).1 (decOf n x).2 = cmpN (hiX wide p) (dX wide n x)
theorem zgp{wide:Bool}{p:Nat}{lo hi:List UInt8×Int}(hs:Span wide p lo hi)(hp:0<p)(A:p<ii wide){n k:Nat}{e:Int}(h:n<10^k)(hk:k≤1400)(he: -3000≤e)(h2:e+k≤3000):
    Ev (fun r=>zaF.f r (S lo.1) lo.2 (S hi.1) hi.2 (decide (p%2=0)) (S (decOf n e).1) (decOf n e).2) (decide (isP wide p n e)):=by
  have hv:=zb2
  exact ziL wide p _ rfl rfl rfl hs.f1 hs.f2 (zbr n e) hs.b1 hs.b2 (zcM h hk he h2) (hs.c1 n e (by omega)) (hs.c2 n e (by omega)) _ (by rw[decide_eq_true_iff];exact(zf8 wide hp A _).symm)
theorem zgq{wide:Bool}{p:Nat}{v:List UInt8×Int}(hv:Val wide p v)(n:Nat)(hn:n<v.1.length):cU v n<10^n:=by
  have:=zcf (hv.form.1.take n)
  rw[List.length_take,Nat.min_eq_left (by omega)] at this
  exact this
theorem zfb(v:List UInt8×Int)(n:Nat):nearU v n=cU v n∨nearU v n=cU v n+1:=by
  unfold nearU
  split
  · exact .inl rfl
  · exact .inr rfl
theorem ziM{wide:Bool}{p:Nat}{v:List UInt8×Int}(hv:Val wide p v)(n:Nat)(hn:n<v.1.length):roundN v.1 v.2 (n:Int)=decOf (nearU v n) (cE v n):=by
  unfold roundN nearU cU cE
  rw[if_neg (by omega),if_neg (by omega),Int.toNat_natCast]
  by_cases c:downP v.1 n
  · rw[if_pos c,if_pos c]
  · rw[if_neg c,if_neg c]
theorem Val.five{wide:Bool}{p:Nat}{v:List UInt8×Int}(hv:Val wide p v):v.1.length≤2000∧ -5000≤v.2∧v.2≤5000:=by
  have:=hv.len
  have:=hv.lo
  have:=hv.hi
  omega
theorem zga{wide:Bool}{p:Nat}{lo hi v:List UInt8×Int}(hs:Span wide p lo hi)(hv:Val wide p v)(hp:0<p)(A:p<ii wide)(n:Nat):
    Ev (fun k=>za1.f k (S v.1) v.2 (n:Int) (S lo.1) lo.2 (S hi.1) hi.2 (decide (p%2=0))) (optD (bestD wide p v n)):=by
  have hl:=hv.len
  have hlo:=hv.lo
  have hhi:=hv.hi
  have h5:=hv.five
  unfold za1.f bestD
  rw[zaE]
  by_cases c1:v.1.length≤n
  · rw[if_pos c1]
    exact Ev.congr (fun k=>if_pos (by omega)) (Ev.now _)
  · rw[if_neg c1]
    refine Ev.congr (fun k=>if_neg (by omega)) ?_
    have hn:n<v.1.length:=by omega
    have hu:=zgq hv n hn
    have B:cU v n+1<10^(n+1):=by
      rw[Nat.pow_succ]
      have:1≤10^n:=Nat.pow_pos (by omega)
      omega
    have hE: -3000≤cE v n∧cE v n+((n+1:Nat):Int)≤3000:=by unfold cE;omega
    have hnr:nearU v n<10^(n+1):=by rcases zfb v n with h|h<;>rw[h]<;>omega
    have hr:=ze6 (S v.1) v.2 (n:Int)
    have e1:roundS (S v.1) v.2 (fun _=>(n:Int))=(S (decOf (nearU v n) (cE v n)).1,(decOf (nearU v n) (cE v n)).2,0):=by
      unfold roundS
      rw[zb1 hv.form h5.1 h5.2,if_pos rfl]
      simp only[L_S]
      rw[ziM hv n hn]
      rfl
    rw[e1] at hr
    refine Ev.bind hr ?_
    refine Ev.bind (zgp hs hp A hnr (by omega) hE.1 hE.2) ?_
    by_cases c2:isP wide p (nearU v n) (cE v n)
    · rw[if_pos c2]
      refine Ev.congr (fun k=>if_pos (decide_eq_true c2)) (Ev.now _)
    · rw[if_neg c2]
      refine Ev.congr (fun k=>if_neg (fun h=>c2 (of_decide_eq_true h))) ?_
      refine Ev.congr (fun k=>if_pos (by omega)) ?_
      refine Ev.congr (fun k=>if_pos (by omega)) ?_
      rw[Int.toNat_natCast,zcH]
      have hnm:=zcv (S (v.1.take n)) v.2
      have htl:(v.1.take n).length=n:=by rw[List.length_take,Nat.min_eq_left (by omega)]
      rw[zfa (hv.form.1.take n) (by omega) h5.2,htl] at hnm
      rw[show val (v.1.take n)=cU v n from rfl,show v.2-(n:Int)=cE v n from rfl] at hnm
      refine Ev.bind hnm ?_
      have hw:wrap64 (wrap64 (v.2-(n:Int))+1)=cE v n+1:=by
        unfold cE
        rw[zaX (x:=v.2-(n:Int)) (by omega) (by omega),zaX (by omega) (by omega)]
      rw[hw]
      have hone:=zg4 (cE v n)
      have D:(S ([49]:List UInt8))=S (decOf 1 (cE v n)).1:=congrArg Prod.fst hone
      have E:cE v n+1=(decOf 1 (cE v n)).2:=congrArg Prod.snd hone
      have hadd:=ziC (S (decOf (cU v n) (cE v n)).1) (decOf (cU v n) (cE v n)).2 (S (decOf 1 (cE v n)).1) (decOf 1 (cE v n)).2
      have hE':cE v n+(n:Int)≤3000:=by omega
      have I:cE v n+((1:Nat):Int)≤3000:=by omega
      rw[ziD (zbr _ _) (zbr _ _) (zcM hu (by omega) hE.1 hE') (zcM (n:=1) (k:=1) (by decide) (by decide) hE.1 I)] at hadd
      have e2:addD (decOf (cU v n) (cE v n)).1 (decOf (cU v n) (cE v n)).2 (decOf 1 (cE v n)).1 (decOf 1 (cE v n)).2=(S (decOf (cU v n+1) (cE v n)).1,(decOf (cU v n+1) (cE v n)).2,0):=by
        unfold addD
        rw[zgP,if_neg (by have:=(zcM B (by omega) hE.1 hE.2).1;omega)]
        rfl
      rw[e2,←D,←E] at hadd
      refine Ev.bind (g:=fun k=>zaz.f k (S (decOf (cU v n) (cE v n)).1) (decOf (cU v n) (cE v n)).2 (⟨#[49]⟩:ByteArray) (cE v n+1)) hadd ?_
      refine Ev.step (fun k=>by simp only[za1.l0];rfl) ?_
      refine Ev.congr (fun k=>if_pos (by simp)) ?_
      refine Ev.congr (fun k=>if_pos (by simp)) ?_
      refine Ev.bind (zgp hs hp A hu (by omega) hE.1 hE') ?_
      by_cases c3:isP wide p (cU v n) (cE v n)
      · rw[if_pos c3]
        exact Ev.congr (fun k=>if_pos (decide_eq_true c3)) (Ev.now _)
      · rw[if_neg c3]
        refine Ev.congr (fun k=>if_neg (fun h=>c3 (of_decide_eq_true h))) ?_
        rw[show wrap64 ((0:Int)+1)=1 by simp[wrap64]]
        refine Ev.step (fun k=>by simp only[za1.l0];rfl) ?_
        refine Ev.congr (fun k=>if_pos (by simp)) ?_
        refine Ev.congr (fun k=>if_neg (by simp)) ?_
        refine Ev.congr (fun k=>if_pos (by simp)) ?_
        refine Ev.bind (zgp hs hp A B (by omega) hE.1 hE.2) ?_
        by_cases c4:isP wide p (cU v n+1) (cE v n)
        · rw[if_pos c4]
          exact Ev.congr (fun k=>if_pos (decide_eq_true c4)) (Ev.now _)
        · rw[if_neg c4]
          refine Ev.congr (fun k=>if_neg (fun h=>c4 (of_decide_eq_true h))) ?_
          rw[show wrap64 ((1:Int)+1)=2 by simp[wrap64]]
          refine Ev.step (fun k=>by simp only[za1.l0];rfl) ?_
          exact Ev.congr (fun k=>if_neg (by simp)) (Ev.now _)
def shortGo(wide:Bool)(p:Nat)(v:List UInt8×Int):Nat→Nat→List UInt8×Int
  |0,_=>v
  |d+1,n=>match bestD wide p v n with
    |some r=>r
    |none=>shortGo wide p v d (n+1)
theorem zei(wide:Bool)(p:Nat)(v:List UInt8×Int){n:Nat}(h:v.1.length≤n):bestD wide p v n=some v:=by
  unfold bestD
  rw[if_pos h]
theorem ziN{wide:Bool}{p:Nat}{lo hi v:List UInt8×Int}(hs:Span wide p lo hi)(hv:Val wide p v)(hp:0<p)(A:p<ii wide): ∀(d n:Nat),v.1.length≤n+d→n≤2000→
    Ev (fun k=>zav.l0 k (n:Int) (S v.1) v.2 (S lo.1) lo.2 (S hi.1) hi.2 (decide (p%2=0))) (S (shortGo wide p v d n).1,(shortGo wide p v d n).2,0):=by
  intro d
  induction d with
  |zero=>
    intro n h hn
    have hb:=zga hs hv hp A n
    rw[zei wide p v (n:=n) h] at hb
    refine Ev.step (fun k=>by simp only[zav.l0];rfl) ?_
    refine Ev.bind hb ?_
    exact Ev.congr (fun k=>if_pos rfl) (Ev.now _)
  |succ d ih=>
    intro n h hn
    have hb:=zga hs hv hp A n
    refine Ev.step (fun k=>by simp only[zav.l0];rfl) ?_
    refine Ev.bind hb ?_
    unfold shortGo
    cases hbd:bestD wide p v n with
    |some r=>exact Ev.congr (fun k=>if_pos rfl) (Ev.now _)
    |none=>
      refine Ev.congr (fun k=>if_neg (by decide)) ?_
      have hlen:=hv.len
      have B:n<v.1.length:=by
        refine Nat.lt_of_not_le fun c=>?_
        rw[zei wide p v c] at hbd
        cases hbd
      rw[zaX (by omega) (by omega),show((n:Int)+1)=((n+1:Nat):Int) by omega]
      exact ih (n+1) (by omega) (by omega)
def exV(wide:Bool)(p:Nat):List UInt8×Int:=exD (fM (ff wide) p) ((fE (ff wide) p:Int)-(ll wide:Int))
theorem zco(wide:Bool){p:Nat}(hp:p<ii wide):Val wide p (exV wide p):=by
  have h1:=fEl wide (Nat.le_of_lt hp)
  have h2:=zc9 wide (Nat.le_of_lt hp)
  have h:=zb8 (m:=fM (ff wide) p) (by omega) (e:=(fE (ff wide) p:Int)-(ll wide:Int)) (by omega)
  exact⟨zcj _ _,h.1,h.2.1,h.2.2⟩
def shortD(wide:Bool)(p:Nat):List UInt8×Int:=shortGo wide p (exV wide p) (exV wide p).1.length 1
def shortS(wide:Bool)(a:Nat):ByteArray×Int×Int:=
  if ii wide≤bareN wide a then(⟨#[]⟩,0,1) else if bareN wide a=0 then(⟨#[]⟩,0,0) else(S (shortD wide (bareN wide a)).1,(shortD wide (bareN wide a)).2,0)
theorem ziO(wide:Bool){p:Nat}(hp:0<p)(hi:p<ii wide){lo:List UInt8×Int}(f1:InForm lo.1 lo.2)(b1:lo.1.length≤2000∧ -5000≤lo.2∧lo.2≤5000)
    (c1: ∀(n:Nat) (x:Int),-(vv:Int)≤x→cmpD lo.1 lo.2 (decOf n x).1 (decOf n x).2=cmpN (loX wide p) (dX wide n x)):
    Span wide p lo (exD (2*fM (ff wide) p+1) ((fE (ff wide) p:Int)-(ll wide:Int)-1)):=by
  have h1:=fEl wide (Nat.le_of_lt hi)
  have h2:=zc9 wide (Nat.le_of_lt hi)
  have h:=zb8 (m:=2*fM (ff wide) p+1) (by omega) (e:=(fE (ff wide) p:Int)-(ll wide:Int)-1) (by omega)
  exact⟨f1,zcj _ _,b1,by omega,c1,fun n x hx=>zju wide p n x hx⟩
theorem zif{wide:Bool}{p:Nat}{lo hi:List UInt8×Int}(hs:Span wide p lo hi)(hp:0<p)(A:p<ii wide):
    Ev (fun k=>zav.j1 k (p:Int) (ff wide:Int) (-(ll wide:Int)) (ii wide:Int) (S lo.1) lo.2 (S hi.1) hi.2 (decide (p%2=0))) (S (shortD wide p).1,(shortD wide p).2,0):=by
  refine Ev.step (fun k=>by simp only[zav.j1];rfl) ?_
  have hsh:=zdG wide (Nat.le_of_lt A)
  refine Ev.bind hsh ?_
  exact ziN hs (zco wide A) hp A (exV wide p).1.length 1 (by omega) (by omega)
theorem zd4(wide:Bool)(a:Nat)(ha:a<18446744073709551616):Ev (fun k=>zav.f k (a:Int) (szB wide)) (shortS wide a):=by
  obtain⟨j,hj,ht,hw⟩:=zfy wide
  have hi:=zcE wide
  have hmt:=Nat.mod_lt a (zev wide).1
  have htt:=(zev wide).2
  unfold zav.f
  rw[zfx]
  simp only[Option.bind_some,if_true]
  rw[hw]
  refine Ev.congr (fun k=>if_pos (by omega)) ?_
  rw[zdt _ hj,zcY _ _ (by omega) ha,←ht]
  unfold shortS bareN
  obtain⟨p,hp⟩: ∃p,a%tt wide=p:=⟨_,rfl⟩
  rw[hp] at hmt ⊢
  by_cases c1:ii wide≤p
  · rw[if_pos c1]
    exact Ev.congr (fun k=>if_pos (by omega)) (Ev.now _)
  · rw[if_neg c1]
    refine Ev.congr (fun k=>if_neg (by omega)) ?_
    rw[zdu wide p (by omega)]
    simp only[Option.bind_some]
    by_cases c2:p=0
    · rw[if_pos c2]
      have h0:fM (ff wide) p=0:=by rw[c2];cases wide<;>decide
      exact Ev.congr (fun k=>if_pos (by omega)) (Ev.now _)
    · rw[if_neg c2]
      have A:0<p:=by omega
      have hlt:p<ii wide:=by omega
      have hm:=zfI (f:=ff wide) A
      refine Ev.congr (fun k=>if_neg (by omega)) ?_
      have h1:=fEl wide (Nat.le_of_lt hlt)
      have h2:=zc9 wide (Nat.le_of_lt hlt)
      obtain⟨e,he⟩: ∃e:Int,(fE (ff wide) p:Int)-(ll wide:Int)=e:=⟨_,rfl⟩
      have B:=ziK wide A
      have D:=ziJ wide A
      have hsp:=fun lo=> @ziO wide p A hlt lo
      have hll:=zg2 wide
      rw[he] at h1 D B hsp ⊢
      obtain⟨m,hmm⟩: ∃m,fM (ff wide) p=m:=⟨_,rfl⟩
      rw[hmm] at hm h2 D B hsp ⊢
      have e1:IntKind.u64.wrap (IntKind.u64.wrap (2*(m:Int))+1)=((2*m+1:Nat):Int):=by
        rw[show(2:Int)*(m:Int)=((2*m:Nat):Int) by omega,u64N _ (by omega),show(((2*m:Nat):Int)+1)=((2*m+1:Nat):Int) by omega,u64N _ (by omega)]
      have e2:IntKind.u64.wrap (IntKind.u64.wrap (2*(m:Int))-1)=((2*m-1:Nat):Int):=by
        rw[show(2:Int)*(m:Int)=((2*m:Nat):Int) by omega,u64N _ (by omega),show(((2*m:Nat):Int)-1)=((2*m-1:Nat):Int) by omega,u64N _ (by omega)]
      have e4:IntKind.u64.wrap (IntKind.u64.wrap (4*(m:Int))-1)=((4*m-1:Nat):Int):=by
        rw[show(4:Int)*(m:Int)=((4*m:Nat):Int) by omega,u64N _ (by omega),show(((4*m:Nat):Int)-1)=((4*m-1:Nat):Int) by omega,u64N _ (by omega)]
      have w1:wrap64 (e-1)=e-1:=zaX (by omega) (by omega)
      have w2:wrap64 (e-2)=e-2:=zaX (by omega) (by omega)
      have x1:=zcx (2*m+1) (e-1) (by omega)
      rw[zcc _ (by omega)] at x1
      have x2:=zcx (2*m-1) (e-1) (by omega)
      rw[zcc _ (by omega)] at x2
      have x4:=zcx (4*m-1) (e-2) (by omega)
      rw[zcc _ (by omega)] at x4
      have s2:=zb8 (m:=2*m-1) (by omega) (e:=e-1) (by omega)
      have s4:=zb8 (m:=4*m-1) (by omega) (e:=e-2) (by omega)
      rw[e1,w1,e2]
      refine Ev.bind x1 ?_
      refine Ev.bind x2 ?_
      refine Ev.congr (fun k=>if_pos (by omega)) ?_
      have hpar:(Int.tmod (m:Int) 2==0)=decide (p%2=0):=by
        rw[show(2:Int)=((2:Nat):Int) from rfl,tmodN]
        have hq:p%2=m%2:=by
          obtain⟨g1,_⟩:=fOf (ff wide) p
          rw[hmm] at g1
          obtain⟨u,hu⟩: ∃u,ff wide=u+1:=⟨ff wide-1,(Nat.sub_add_cancel (Nat.le_trans (by decide) (zjt wide).1)).symm⟩
          rw[hu,Nat.pow_succ,←Nat.mul_assoc] at g1
          generalize fE (u+1) p*2^u=G at g1
          rw[g1]
          omega
        rw[hq,Bool.eq_iff_iff]
        simp
        omega
      rw[hpar,zeJ _ (Nat.le_trans (zia wide) (by decide))]
      -- the two ways behind
      have E:m≠2^ff wide∨fE (ff wide) p=0→Ev (fun k=>zav.j1 k (p:Int) (ff wide:Int) (-(ll wide:Int)) (ii wide:Int) (S (exD (2*m-1) (e-1)).1) (exD (2*m-1) (e-1)).2 (S (exD (2*m+1) (e-1)).1) (exD (2*m+1) (e-1)).2 (decide (p%2=0))) (S (shortD wide p).1,(shortD wide p).2,0):=fun h=>
        zif (hsp _ (zcj _ _) (by omega) (fun n x hx=>D h n x hx)) A hlt
      by_cases c3:m=2^ff wide
      · refine Ev.congr (fun k=>if_pos (by rw[c3])) ?_
        by_cases c4:fE (ff wide) p=0
        · rw[show decide (e> -(ll wide:Int))=false from decide_eq_false (by omega)]
          refine Ev.step (fun k=>by simp only[zav.j0];rfl) ?_
          exact Ev.congr (fun k=>if_neg (by decide)) (E (.inr c4))
        · rw[show decide (e> -(ll wide:Int))=true from decide_eq_true (by omega)]
          refine Ev.step (fun k=>by simp only[zav.j0];rfl) ?_
          refine Ev.congr (fun k=>if_pos (by simp)) ?_
          rw[e4,w2]
          refine Ev.bind x4 ?_
          exact zif (hsp _ (zcj _ _) (by omega) (fun n x hx=>B c3 c4 n x hx)) A hlt
      · refine Ev.congr (fun k=>if_neg (fun h=>c3 (Int.ofNat.inj h))) ?_
        refine Ev.step (fun k=>by simp only[zav.j0];rfl) ?_
        exact Ev.congr (fun k=>if_neg (by decide)) (E (.inl c3))
end Go.Proofs.YtecpgdfnamkfdaaGreatDoor.Pure
end
section
namespace Go.Proofs.YtecpgdfnamkfdaaGreatDoor.Fn
open Go.RowKit Go.Proofs.YtecpgdfnamkfdaaGreatDoorW.PrintWords Go.Proofs.YtecpgdfnamkfdaaGreatDoorW.PrintLast Go.Proofs.YtecpgdfnamkfdaaGreatDoorW.PrintMore
set_option linter.unusedVariables false
set_option linter.unusedSimpArgs false
set_option maxHeartbeats 8000000
set_option maxRecDepth 100000
section
attribute [local go_sem] fnW_0 fnW_1 fnW_2 fnW_3 fnW_4 fnW_5 fnW_guard fnW_eql zaK zaL zaQ zaR
def zbc.f(k:Nat)(E:Int)(I:Int)(B:Int)(D:Int)(J:Int)(K:Bool)(M:Int):Option (ByteArray×Int):=(zaq.f k B D).bind fun A=>(some (A.1,A.2.1))
theorem zbc.calls(k:Nat)(D:Int)(E:Int)(A:Int)(B:Int)(I:Int)(J:Bool)(K:Int)(r1:ByteArray)(r2:Int)(w:World)(h:zbc.f k D E A B I J K=some (r1,r2)):
  Calls Tryz.prog 103 #[.agg #[.int .u64 D,.int .i64 E,.int .u64 A,.int .i64 B,.int .i64 I,.bool J,.int .i32 K]] w fun e w'=>e= .returned (.agg #[.string r1,.int .i64 r2])∧Below w.heap.size w w':=by
 have aO:=Tryz.underlying74
 have aP:=Tryz.underlying42
 have HB:=zaa.mk (Below.refl w.heap.size w)
 have H:((zaq.f k A B).bind fun ae=>(some (ae.1,ae.2.1)))=some (r1,r2):=h
 clear h
 replace H:=bs H
 obtain⟨⟨af,ag,ai⟩,A2,H⟩:=H
 dsimp only at H
 simp only[Option.some.injEq,Prod.mk.injEq] at H
 obtain⟨rfl,rfl⟩:=H
 go_enter Tryz.func103,Tryz.ntmps103
 go_wp2_with (first|((with_reducible refine zak (N:=1) rfl ?_);refine zaj rfl (N:=1) rfl (cs:=#[.int .u64 D,.int .i64 E,.int .u64 A,.int .i64 B,.int .i64 I,.bool J,.int .i32 K]) (t:=74) gz ?_;intro M hg w3 hbox hb;have aI:=gN bz hg;have U:=zaa.mk hbox;replace HB:=bN bz hb;clear hb hbox hg)|((with_reducible refine zak (N:=2) rfl ?_);refine zaj rfl (N:=2) rfl (cs:=#[.string (⟨#[]⟩:ByteArray),.int .i64 0]) (t:=42) gz ?_;intro O hg w4 hbox hb;have aJ:=gN bz hg;have X:=lN (g:=M) (cs:=#[.int .u64 D,.int .i64 E,.int .u64 A,.int .i64 B,.int .i64 I,.bool J,.int .i32 K]) hg bk;have Y:=rN (g:=M) (cs:=#[.int .u64 D,.int .i64 E,.int .u64 A,.int .i64 B,.int .i64 I,.bool J,.int .i32 K]) hg bk;replace U:=kN (g:=M) (cs:=#[.int .u64 D,.int .i64 E,.int .u64 A,.int .i64 B,.int .i64 I,.bool J,.int .i32 K]) hb bk;have Z:=zaa.mk hbox;replace HB:=bN bz hb;clear hb hbox hg;have aQ:=X.out;have aR:=Y.out;obtain⟨au,av,aw,ax,ay,az,aA,aB,aC,aD,aE,aF,aG,aH⟩:=cz7 (W:=w4) U)|((with_reducible refine zac (f:=29) rfl ?_);refine zal (some 10) rfl rfl Tryz.func29 (by kernel_rfl) rfl #[.int .u64 A,.int .i64 B] rfl lz ?_;(with_reducible refine(zaq.calls k A B af ag ai _ A2.out).mono ?_);rintro e w7 ⟨rfl,hb⟩;refine⟨_,rfl,?_⟩;replace U:=kN (g:=M) (cs:=#[.int .u64 D,.int .i64 E,.int .u64 A,.int .i64 B,.int .i64 I,.bool J,.int .i32 K]) hb bk;replace Z:=kN (g:=O) (cs:=#[.string (⟨#[]⟩:ByteArray),.int .i64 0]) hb bk;replace HB:=bN bz hb;(try clear hb);(try clear aU);(try clear hk);(try clear hi))|((with_reducible refine zak (N:=3) rfl ?_);refine zaj rfl (N:=3) rfl (cs:=#[.string (⟨#[]⟩:ByteArray),.int .i64 0]) (t:=42) gz ?_;intro aK hg w8 hbox hb;have aL:=gN bz hg;have aa:=lN (g:=M) (cs:=#[.int .u64 D,.int .i64 E,.int .u64 A,.int .i64 B,.int .i64 I,.bool J,.int .i32 K]) hg bk;have ab:=rN (g:=M) (cs:=#[.int .u64 D,.int .i64 E,.int .u64 A,.int .i64 B,.int .i64 I,.bool J,.int .i32 K]) hg bk;have ac:=lN (g:=O) (cs:=#[.string (⟨#[]⟩:ByteArray),.int .i64 0]) hg bk;have ad:=rN (g:=O) (cs:=#[.string (⟨#[]⟩:ByteArray),.int .i64 0]) hg bk;replace U:=kN (g:=M) (cs:=#[.int .u64 D,.int .i64 E,.int .u64 A,.int .i64 B,.int .i64 I,.bool J,.int .i32 K]) hb bk;replace Z:=kN (g:=O) (cs:=#[.string (⟨#[]⟩:ByteArray),.int .i64 0]) hb bk;have ah:=zaa.mk hbox;replace HB:=bN bz hb;clear hb hbox hg;have aS:=ab.out;have aT:=aa.out;have aM:=ad.out;have aN:=ac.out;obtain⟨aj,ak,al,am⟩:=cz2 (W:=w8) ah;obtain⟨an,ao,ap,ar⟩:=cz2 (W:=w8) Z))
 refine bodyPost_ret (results_cell_row rfl _ _ O 42 #[.string af,.int .i64 ag] (0,0) _ rfl bk Tryz.underlying42 rfl (by kernel_rfl)) rfl ?_
 exact⟨ez,bz⟩
end
end Go.Proofs.YtecpgdfnamkfdaaGreatDoor.Fn
end
