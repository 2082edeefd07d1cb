/- The law CplxSplits: the walks through its functions and its plain law (part 3). Own texts and the kit's printed words for this seat, without what the law does not use: put together by merge.py (of this work). -/
import Derived.Test.YtilidabdbhaljaaGreatDoorMCplxSplits2
import Derived.Handy
set_option linter.unusedVariables false
set_option linter.unusedSimpArgs false
section
namespace Go.Proofs.YtilidabdbhaljaaGreatDoor.Fn
open Go.RowKit Go.Proofs.YtilidabdbhaljaaGreatDoorW.PrintWords Go.Proofs.YtilidabdbhaljaaGreatDoorW.PrintLast Go.Proofs.YtilidabdbhaljaaGreatDoorW.PrintMore
set_option maxHeartbeats 8000000
set_option maxRecDepth 100000
def zcp(x:Int):List Int:=
  [48+x / 10 / 10 / 10 / 10 / 10 / 10 / 10 / 10%10,48+x / 10 / 10 / 10 / 10 / 10 / 10 / 10%10,48+x / 10 / 10 / 10 / 10 / 10 / 10%10,48+x / 10 / 10 / 10 / 10 / 10%10,
   48+x / 10 / 10 / 10 / 10%10,48+x / 10 / 10 / 10%10,48+x / 10 / 10%10,48+x / 10%10,48+x%10]
def limbsText(l:List Int):List Int:=(l.reverse.map zcp).flatten
def zbu.f(k:Nat)(l0:List Int):Option ByteArray:=
  if l0.length<=100000/\ ∀x∈l0,0<=x/\x<=999999999 then(zau.f k l0).bind λl=>if l.length<=l0.length/\ ∀x∈l,0<=x/\x<=999999999 then za0.f (strOfNums (limbsText l)) ⟨#[48]⟩ else none else none
theorem ziJ:(Tryz.prog.info? 5).map (λi=>(i.zero,i.size,i.bytes))=some (some (.int .u8 0),1,1):=by kernel_rfl
theorem zdH(l:List Int):(limbsText l).length=9*l.length:=by
 unfold limbsText;rw[List.length_flatten,List.map_map];(have:(List.length∘zcp)=λ_=>9:=by funext x;rfl);rw[this,List.map_const',List.sum_replicate_nat,List.length_reverse];omega
theorem zgv{l:List Int}(h: ∀x∈l,0<=x/\x<=999999999)(i:Int):0<=rd l i/\rd l i<=999999999:=by
 unfold rd;rw[List.getD_eq_getElem?_getD];cases hg:l[i.toNat]? with
 |none=>simp
 |some x=>exact h x (List.mem_of_getElem? hg)
theorem zf0(W:World)(x:Int)(t:TypeId):(Kd.int .u8).C (W.alloc (.cells #[.int .u8 (48+x / 10 / 10 / 10 / 10 / 10 / 10 / 10 / 10%10),.int .u8 (48+x / 10 / 10 / 10 / 10 / 10 / 10 / 10%10),.int .u8 (48+x / 10 / 10 / 10 / 10 / 10 / 10%10),.int .u8 (48+x / 10 / 10 / 10 / 10 / 10%10),.int .u8 (48+x / 10 / 10 / 10 / 10%10),.int .u8 (48+x / 10 / 10 / 10%10),.int .u8 (48+x / 10 / 10%10),.int .u8 (48+x / 10%10),.int .u8 (48+x%10)] t)) (some ⟨W.heap.size,0,none⟩) 9 (zcp x):=by
 refine Kd.C_of_reads (d:=(0:Int)) (h1:=λ_=>rfl) (⟨rfl,by decide,λ_=>⟨_,rfl,λj hj=>?_⟩⟩:ReadsInt _ .u8 _ 9 (zcp x));rw[add_plain,zab (heap_alloc_new W _) j];(rcases j with _|_|_|_|_|_|_|_|_|j);all_goals first|rfl|omega
theorem zee(l:List Int)(m:Nat)(h:m<l.length):limbsText (l.drop m)=limbsText (l.drop (m+1))++zcp (rd l m):=by
 unfold limbsText;rw[List.drop_eq_getElem_cons h];(have:rd l m=l[m]:=by simp[rd,List.getD_eq_getElem?_getD,List.getElem?_eq_getElem h]);rw[this,List.reverse_cons,List.map_append,List.flatten_append];simp only[List.map_cons,List.map_nil,List.flatten_cons,List.flatten_nil,List.append_nil]
set_option maxHeartbeats 4000000 in
set_option maxRecDepth 100000 in
theorem zbu.calls(k:Nat)(A0:Option Addr)(c0:Nat)(l0:List Int)(r:ByteArray)(w:World)(A:Kd.C (Kd.int .u64) w A0 l0.length l0)(J:l0.length<=c0)(h:zbu.f k l0=some r):
 Calls Tryz.prog 130 #[.slice A0 l0.length c0] w λe w'=>e= .returned (.string r)/\Below w.heap.size w w':=by
 unfold zbu.f at h;split at h;(case isFalse=>cases h);rename_i hl;obtain⟨hlen,hpos⟩:=hl;obtain⟨l,B,h⟩:=Option.bind_eq_some_iff.1 h;split at h;(case isFalse=>cases h);rename_i K;obtain⟨hll,hlp⟩:=K;have H1:=zaa.mk B;have H2:=zaa.mk h;have HR:=zaa.mk A;have HP:=zaa.mk hlp;clear B h A hpos hlp;go_enter Tryz.func130,Tryz.ntmps130;go_wp2_with (go_at_call 149;refine(zau.calls k (λ_=>True) A0 c0 l0 l _ ⟨A0,c0,rfl,J,λW' hW=>(Kd.heap_int .u64).C (λk hk=>hW k trivial hk) HR.out⟩ H1.out).mono ?_;rintro e w1 ⟨v0,rfl,hV,hb⟩;obtain⟨A1,c1,rfl⟩:=Kd.V_slice hV;have HV:=zaa.mk hV;have HB:=zaa.mk hb;clear hV hb);have M:=zaa.mk (Kd.V_reads' HV.out).2.2;go_loopw [3,4] (λv i wr=> ∃j:Nat,j<=l.length/\i= .int .i64 ((j:Int)-1)/\zaa (Kd.R (Kd.int .u8) 5 wr w1.heap.size (λ_=>True) v (limbsText (l.drop j)))/\zaa (Below w1.heap.size w1 wr)) (λ_ i _=>(intOf i+1).toNat);(case atStart=>exact⟨l.length,Nat.le_refl _,rfl,⟨by rw[List.drop_length];exact Kd.R_nil _ _ _ _ _⟩,⟨Below.refl _ _⟩⟩);case round=>
  obtain⟨j,hj,rfl,HO,HBR⟩:=hrel;cases j with
  |zero=>
   have hcv:=zcX (P:=Tryz.prog) (dst:=9) Tryz.underlying67 Tryz.underlying5 Tryz.underlying9 (Kd.own_of_R HO.out);rw[List.drop_zero] at hcv;go_wp2_with (go_at_call 148;refine(za0.calls (strOfNums (limbsText l)) ⟨#[48]⟩ r _ H2.out).mono ?_;rintro e w2 ⟨rfl,O⟩);go_ret;exact⟨rfl,zcW (zcW HB.out HB.out.size HBR.out) (Nat.le_trans HB.out.size HBR.out.size) O⟩
  |succ m=>
   have hm:m<l.length:=hj;obtain⟨hx,U⟩:=zgv HP.out (m:Int);obtain⟨ad,rfl,hcell⟩:=Kd.at_int M.out (m:Int) (by omega) (by omega);have hcw:wr.cell? (ad.add m)=some (.int .u64 (rd l m)):=zbJ HBR.out hcell;have hdr:=zaa.mk (zee l m hm);generalize rd l m=x at hcw hx U hdr;rw[show(((m+1:Nat):Int)-1)=(m:Int) by omega];have aa:=λo=>zbJ (zbd (Below.refl wr.heap.size wr) o) hcw;clear hcw hcell;have ab:Below w1.heap.size w1 wr:=HBR.out;go_wp2;refine wp_loop_rounds 10 ?_;(repeat any_goals(rw[rounds_succ];go_wp2_with ((with_reducible refine zde (b:=.append) (xs:=#[.tmp 33,.tmp 34]) rfl ?_);at_builtin;refine Kd.R_append_rows (Kd.int .u8) (w0:=w1) w1.heap.size rfl (.tmp 33) (.tmp 34) 67 5 (.int .u8 0) 1 rfl Tryz.underlying67 ziJ rfl (by decide) (by omega) u3 (limbsText (l.drop (m+1))) (zcp x) _ _ _ (λ_=>True) (λ_=>False) rfl rfl ?aO ?aR (λ_ _ h=>h) (λ_ h=>h.elim) (λ_ _=>trivial) ?aB ?aS ?aL ?_;(case aO=>exact Kd.R_alloc HO.out _);(case aR=>exact zf0 wr x 174);(case aB=>exact HBR.out.alloc HBR.out.size _);(case aS=>have:=HBR.out.size;simp;omega);(case aL=>rw[zdH,List.length_drop];omega);intro v1 w3 D E X I;have Y:=zaa.mk D;have Z:=zaa.mk E;clear D E X I)));go_roundw;(case rel=>exact⟨m,by omega,by go_num,⟨by rw[hdr.out];exact Y.out⟩,Z⟩);case measure=>simp[intOf]
section
attribute [local go_sem] fnW_0 fnW_1 fnW_2 fnW_3 fnW_4 fnW_5 fnW_guard fnW_eql zaB zaC zaH zaI
mutual
def zaj.j0:Nat->Int->Int->Bool->Option (ByteArray×Int×Int)
 |0,_,_,_=>none
 |k+1,x0,x1,B=>if B=true then(some ((⟨#[]⟩:ByteArray),0,1)) else((some (([Int.tmod x0 1000000000,Int.tmod (IntKind.u64.wrap (Int.tdiv x0 1000000000)) 1000000000,IntKind.u64.wrap (Int.tdiv (IntKind.u64.wrap (Int.tdiv x0 1000000000)) 1000000000)]:List Int):List Int)).bind λA=>(if x1<0 then(zaj.j1 k (wrap64 (-x1)) A 5 x1) else(zaj.j1 k x1 A 2 0)))
def zaj.j1:Nat->Int->List Int->Int->Int->Option (ByteArray×Int×Int)
 |0,_,_,_,_=>none
 |k+1,x1,x6,x7,x8=>zaj.l0 k x1 x6 x7 x8
def zaj.l0:Nat->Int->List Int->Int->Int->Option (ByteArray×Int×Int)
 |0,_,_,_,_=>none
 |k+1,x1,x6,x7,x8=>if x1>=8 then((zay.f k x6 (IntKind.u64.wrap ((IntKind.u64.wrap ((IntKind.u64.wrap ((IntKind.u64.wrap ((IntKind.u64.wrap ((IntKind.u64.wrap ((IntKind.u64.wrap (x7*x7))*x7))*x7))*x7))*x7))*x7))*x7))).bind λA=>(zaj.l0 k (wrap64 (x1-8)) A x7 x8)) else(zaj.l1 k x1 x6 x7 x8)
def zaj.l1:Nat->Int->List Int->Int->Int->Option (ByteArray×Int×Int)
 |0,_,_,_,_=>none
 |k+1,x1,x6,x7,x8=>if x1>0 then((zay.f k x6 x7).bind λD=>(zaj.l1 k (wrap64 (x1-1)) D x7 x8)) else((zbu.f k x6).bind λB=>((zaT.f B (wrap64 ((B.size:Int)+x8))).bind λA=>(some (A.1,A.2,0))))
end
def zaj.f(k:Nat)(a0:Int)(a1:Int):Option (ByteArray×Int×Int):=if a1<(-1200) then(zaj.j0 k a0 a1 true) else(zaj.j0 k a0 a1 (decide (a1>1200)))
theorem zaj.calls(k:Nat)(a0:Int)(a1:Int)(r1:ByteArray)(r2:Int)(r3:Int)(w:World)(h:zaj.f k a0 a1=some (r1,r2,r3)):
  Calls Tryz.prog 102 #[.int .u64 a0,.int .i64 a1] w λe w'=>e= .returned (.tuple #[.agg #[.string r1,.int .i64 r2],.int .i64 r3])/\Below w.heap.size w w':=by
 have a8:=Tryz.underlying74;have HB:=zaa.mk (Below.refl w.heap.size w);have H:(if a1<(-1200) then(zaj.j0 k a0 a1 true) else(zaj.j0 k a0 a1 (decide (a1>1200))))=some (r1,r2,r3):=h;clear h;have aE:=zaa.mk H;clear H;go_enter Tryz.func102,Tryz.ntmps102;(go_upto_region 1 with(first|((with_reducible refine zai (N:=4) rfl ?_);refine zah rfl (N:=4) rfl (cs:=#[.string (⟨#[]⟩:ByteArray),.int .i64 0]) (t:=74) gz ?_;intro E hg w4 hbox hb;have ak:=gN bz hg;have A:=zaa.mk hbox;replace HB:=bN bz hb;clear hb hbox hg)));(try simp only[Act.put,List.setIfInBounds_toArray,List.set_cons_zero,List.set_cons_succ]);go_cut [15] (λa3 wc=> ∃(kq:Nat) (ab:Bool),a3= .bool ab/\zaa (zaj.j0 kq a0 a1 ab=some (r1,r2,r3))/\zaa (kq<=k)/\zaa (wc.heap[E]? =some (.cells #[.string (⟨#[]⟩:ByteArray),.int .i64 0] 74 (0,0)))/\zaa (Below w.heap.size w wc));case first=>
  have H:=aE.out;clear aE;by_cases c5:a1<(-1200)
  (·replace H:=hE H c5;have al:=decide_eq_true c5;clear c5;(try rw[al]);have H':=zaa.mk H;clear H;go_wp2;go_meet;case rel=>exact⟨_,(true),rz,H',⟨by first|omega|exact Nat.le_refl _⟩,⟨bk⟩,⟨bz⟩⟩);replace H:=hN H c5;have al:=decide_eq_false c5;clear c5;(try rw[al]);have H':=zaa.mk H;clear H;go_wp2;go_meet;case rel=>exact⟨_,(decide (a1>1200)),rz,H',⟨by first|omega|exact Nat.le_refl _⟩,⟨bk⟩,⟨bz⟩⟩
 case rest=>
  clear aE;obtain⟨kq,ab,rfl,HA,ah,A,HB⟩:=hcut;cases kq with
  |zero=>exact absurd HA.out (by simp[zaj.j0])
  |succ aF=>
   have H:=HA.out;clear HA;simp only[zaj.j0] at H;by_cases c6:ab=true
   (·subst c6;replace H:=hT H;obtain⟨rfl,rfl,rfl⟩:=o3 H;obtain⟨aX,aY,aZ,a2⟩:=cz2 A;go_wp2;refine bodyPost_ret (zaJ rfl _ _ E 74 #[.string (⟨#[]⟩:ByteArray),.int .i64 0] (0,0) _ rfl bk Tryz.underlying74 rfl (by kernel_rfl)) rfl ?_;exact⟨ez,bz⟩);replace c6:=Bool.eq_false_iff.mpr c6;subst c6;replace H:=hF H;obtain⟨ac,Y⟩: ∃y_:List Int,y_=(([Int.tmod a0 1000000000,Int.tmod (IntKind.u64.wrap (Int.tdiv a0 1000000000)) 1000000000,IntKind.u64.wrap (Int.tdiv (IntKind.u64.wrap (Int.tdiv a0 1000000000)) 1000000000)]:List Int)):=⟨_,rfl⟩;(replace H:(if a1<0 then(zaj.j1 aF (wrap64 (-a1)) ac 5 a1) else(zaj.j1 aF a1 ac 2 0))=some (r1,r2,r3):=by first|(rw[Y];with_reducible exact H)|(have aG:=(Option.bind_some _ _).symm.trans H;rw[Y];with_reducible exact aG)|(have aG:=(Option.bind_some _ _).symm.trans H;with_reducible exact aG)|with_reducible exact H|(rw[Y];exact H)|exact H);have am:=zaa.mk Y;clear Y;have aH:=zaa.mk H;clear H;(go_upto_if 27 with(first|((with_reducible refine zai (N:=25) rfl ?_);refine Kd.R_lit (Kd.int .u64) _ 22 ?hg (N:=25) ?hd (xs:=([Int.tmod a0 1000000000,Int.tmod (IntKind.u64.wrap (Int.tdiv a0 1000000000)) 1000000000,IntKind.u64.wrap (Int.tdiv (IntKind.u64.wrap (Int.tdiv a0 1000000000)) 1000000000)]:List Int)) (inner:=[.int .u64 (Int.tmod a0 1000000000),.int .u64 (Int.tmod (IntKind.u64.wrap (Int.tdiv a0 1000000000)) 1000000000),.int .u64 (IntKind.u64.wrap (Int.tdiv (IntKind.u64.wrap (Int.tdiv a0 1000000000)) 1000000000))]) (ok:=λ_=>True) (okp:=λ_=>True) ?hr ?hp (λ_ hk=>hk) trivial (Below.refl _ _) (Nat.le_refl _) (by simp) ?_;(case hd=>rfl);(case hg=>rfl);(case hr=>first|(go_simp;done)|(go_simp;rfl));(case hp=>exact(Reps.one (show Kd.M (Kd.int .u64) _ _ _ (Int.tmod a0 1000000000) [.int .u64 (Int.tmod a0 1000000000)] from rfl) (Reps.one (show Kd.M (Kd.int .u64) _ _ _ (Int.tmod (IntKind.u64.wrap (Int.tdiv a0 1000000000)) 1000000000) [.int .u64 (Int.tmod (IntKind.u64.wrap (Int.tdiv a0 1000000000)) 1000000000)] from rfl) (Reps.one (show Kd.M (Kd.int .u64) _ _ _ (IntKind.u64.wrap (Int.tdiv (IntKind.u64.wrap (Int.tdiv a0 1000000000)) 1000000000)) [.int .u64 (IntKind.u64.wrap (Int.tdiv (IntKind.u64.wrap (Int.tdiv a0 1000000000)) 1000000000))] from rfl) (Reps.none _ _)))));intro aL w9 ad hb hg_ hnew_;clear hg_ hnew_;(first|rw[<-am.out] at ad|(simp only[Int.reduceToNat] at ad;rw[<-am.out] at ad));have I:=zaa.mk (Kd.R_lower ad (zaF bz));have J:=kN (g:=E) (cs:=#[.string (⟨#[]⟩:ByteArray),.int .i64 0]) hb bk;have K:=bN bz hb;clear A;clear HB;have an:=I;have A:=J;have HB:=K;clear I J K;clear hb ad)));(try simp only[Act.put,List.setIfInBounds_toArray,List.set_cons_zero,List.set_cons_succ]);go_cut [1,7,8] (λv1 v7 v8 wc=> ∃(kq:Nat) (ag:Int) (B:Int) (aa:Int),v1= .int .i64 ag/\v7= .int .u64 B/\v8= .int .i64 aa/\zaa (zaj.j1 kq ag ac B aa=some (r1,r2,r3))/\zaa (kq<=aF)/\zaa (Kd.R (Kd.int .u64) 22 wc w.heap.size (λ_=>True) aL ac)/\zaa (wc.heap[E]? =some (.cells #[.string (⟨#[]⟩:ByteArray),.int .i64 0] 74 (0,0)))/\zaa (Below w.heap.size w wc));case first=>
    have H:=aH.out;clear aH;by_cases ai:a1<0
    (·replace H:=hE H ai;have ae:=decide_eq_true ai;clear ai;(try rw[ae]);have H':=zaa.mk H;clear H;go_wp2;go_meet;case rel=>exact⟨_,(wrap64 (-a1)),(5),(a1),rz,rz,rz,H',⟨by have:=ah.out;first|omega|exact Nat.le_refl _⟩,⟨by(with_reducible repeat(first|apply Kd.R_alloc|apply Kd.R_drewN|apply Kd.R_drew));exact an.out⟩,⟨bk⟩,⟨bz⟩⟩);replace H:=hN H ai;have ae:=decide_eq_false ai;clear ai;(try rw[ae]);have H':=zaa.mk H;clear H;go_wp2;go_meet;case rel=>exact⟨_,(a1),(2),(0),rz,rz,rz,H',⟨by have:=ah.out;first|omega|exact Nat.le_refl _⟩,⟨by(with_reducible repeat(first|apply Kd.R_alloc|apply Kd.R_drewN|apply Kd.R_drew));exact an.out⟩,⟨bk⟩,⟨bz⟩⟩
   case rest=>
    clear aH;(try clear c6);obtain⟨kq,ag,B,aa,rfl,rfl,rfl,HA,ay,D,A,HB⟩:=hcut;cases kq with
    |zero=>exact absurd HA.out (by simp[zaj.j1])
    |succ aM=>
     have H:=HA.out;clear HA;simp only[zaj.j1] at H;have H':=zaa.mk H;clear H;go_wp2;go_loopg [1,6] aM (λkq v1 v6 w'=> ∃(U:Int) (X:List Int),v1= .int .i64 U/\zaa (zaj.l0 kq U X B aa=some (r1,r2,r3))/\zaa (kq<=aM)/\zaa (Kd.R (Kd.int .u64) 22 w' w.heap.size (λ_=>True) v6 X)/\zaa (w'.heap[E]? =some (.cells #[.string (⟨#[]⟩:ByteArray),.int .i64 0] 74 (0,0)))/\zaa (Below w.heap.size w w'));(case atStart=>exact⟨(ag),(ac),rz,H',⟨Nat.le_refl _⟩,⟨by(with_reducible repeat(first|apply Kd.R_alloc|apply Kd.R_drewN|apply Kd.R_drew));exact D.out⟩,⟨bk⟩,⟨bz⟩⟩);case round=>
      clear H';(try clear c6);obtain⟨U,X,rfl,HA,az,D,A,HB⟩:=hrel;cases gk with
      |zero=>exact absurd HA.out (by simp[zaj.l0])
      |succ k3=>
       have H:=HA.out;clear HA;simp only[zaj.l0] at H;by_cases af:U>=8
       (·replace H:=hE H af;have ao:decide (8<=U)=true:=decide_eq_true af;clear af;replace H:=bs H;obtain⟨aA,a4,H⟩:=H;have H':=zaa.mk H;clear H;obtain⟨ap,ar,aN⟩:=Kd.R_slice D.out;subst aN;go_wp2_with (first|((with_reducible refine zac (f:=129) rfl ?_);refine zaO (some 51) rfl rfl Tryz.func129 (by kernel_rfl) rfl #[.slice ap X.length ar,.int .u64 (IntKind.u64.wrap ((IntKind.u64.wrap ((IntKind.u64.wrap ((IntKind.u64.wrap ((IntKind.u64.wrap ((IntKind.u64.wrap ((IntKind.u64.wrap (B*B))*B))*B))*B))*B))*B))*B))] rfl lz ?_;(with_reducible refine(zay.calls k3 (λk_=>some k_=(.slice ap X.length ar:Value).ownBlock) (.slice ap X.length ar) X (IntKind.u64.wrap ((IntKind.u64.wrap ((IntKind.u64.wrap ((IntKind.u64.wrap ((IntKind.u64.wrap ((IntKind.u64.wrap ((IntKind.u64.wrap (B*B))*B))*B))*B))*B))*B))*B)) aA w _ ?side1 ?side2 a4.out).mono ?_);(case side1=>repeat(first|(with_reducible first|exact HB.out|apply zbd|apply zbm|apply zaG|refine zbt ?_ ak.out)|exact HB.out));(case side2=>exact Kd.R_tight rfl D.out);rintro e bb ⟨a9,rfl,au,hb,hkp⟩;refine⟨_,rfl,?_⟩;have I:=zaa.mk (zeU bk hkp (λhs_=>(λe_=>(Kd.R_ne D.out A.out (by decide)) e_) hs_));have J:=zaa.mk (Kd.R_mono (ok':=λk_=>True) au (λk_ hk_=>trivial));have K:=zaa.mk (hb);clear A;clear HB;clear D;have A:=I;have aI:=J;have HB:=K;clear I J K;(try clear hb);(try clear hkp);(try clear au)));go_roundg k3;(case measure=>have:=ah.out;have:=ay.out;have:=az.out;omega);case rel=>exact⟨(wrap64 (U-8)),(aA),rz,H',⟨by have:=ah.out;have:=ay.out;have:=az.out;omega⟩,⟨by(with_reducible repeat(first|apply Kd.R_alloc|apply Kd.R_drewN|apply Kd.R_drew));exact aI.out⟩,⟨bk⟩,⟨bz⟩⟩);replace H:=hN H af;have ao:decide (8<=U)=false:=decide_eq_false af;clear af;have H':=zaa.mk H;clear H;go_wp2;go_loopg [1,6] k3 (λkq v1 v6 w'=> ∃(Z:Int) (O:List Int),v1= .int .i64 Z/\zaa (zaj.l1 kq Z O B aa=some (r1,r2,r3))/\zaa (kq<=k3)/\zaa (Kd.R (Kd.int .u64) 22 w' w.heap.size (λ_=>True) v6 O)/\zaa (w'.heap[E]? =some (.cells #[.string (⟨#[]⟩:ByteArray),.int .i64 0] 74 (0,0)))/\zaa (Below w.heap.size w w'));(case atStart=>exact⟨(U),(X),rz,H',⟨Nat.le_refl _⟩,⟨by(with_reducible repeat(first|apply Kd.R_alloc|apply Kd.R_drewN|apply Kd.R_drew));exact D.out⟩,⟨bk⟩,⟨bz⟩⟩);case round=>
        clear H';(try clear c6);(try clear af);(try clear ao);obtain⟨Z,O,rfl,HA,aO,D,A,HB⟩:=hrel;cases gk with
        |zero=>exact absurd HA.out (by simp[zaj.l1])
        |succ k4=>
         have H:=HA.out;clear HA;simp only[zaj.l1] at H;by_cases aj:Z>0
         (·replace H:=hE H aj;have aJ:decide (0<Z)=true:=decide_eq_true aj;clear aj;replace H:=bs H;obtain⟨aB,a5,H⟩:=H;have H':=zaa.mk H;clear H;obtain⟨av,aw,aP⟩:=Kd.R_slice D.out;subst aP;go_wp2_with (first|((with_reducible refine zac (f:=129) rfl ?_);refine zaO (some 58) rfl rfl Tryz.func129 (by kernel_rfl) rfl #[.slice av O.length aw,.int .u64 B] rfl lz ?_;(with_reducible refine(zay.calls k4 (λk_=>some k_=(.slice av O.length aw:Value).ownBlock) (.slice av O.length aw) O B aB w _ ?side1 ?side2 a5.out).mono ?_);(case side1=>repeat(first|(with_reducible first|exact HB.out|apply zbd|apply zbm|apply zaG|refine zbt ?_ ak.out)|exact HB.out));(case side2=>exact Kd.R_tight rfl D.out);rintro e bd ⟨ba,rfl,au,hb,hkp⟩;refine⟨_,rfl,?_⟩;have I:=zaa.mk (zeU bk hkp (λhs_=>(λe_=>(Kd.R_ne D.out A.out (by decide)) e_) hs_));have J:=zaa.mk (Kd.R_mono (ok':=λk_=>True) au (λk_ hk_=>trivial));have K:=zaa.mk (hb);clear A;clear HB;clear D;have A:=I;have aK:=J;have HB:=K;clear I J K;(try clear hb);(try clear hkp);(try clear au)));go_roundg k4;(case measure=>have:=ah.out;have:=ay.out;have:=az.out;have:=aO.out;omega);case rel=>exact⟨(wrap64 (Z-1)),(aB),rz,H',⟨by have:=ah.out;have:=ay.out;have:=az.out;have:=aO.out;omega⟩,⟨by(with_reducible repeat(first|apply Kd.R_alloc|apply Kd.R_drewN|apply Kd.R_drew));exact aK.out⟩,⟨bk⟩,⟨bz⟩⟩);replace H:=hN H aj;have aJ:decide (0<Z)=false:=decide_eq_false aj;clear aj;replace H:=bs H;obtain⟨ax,a6,H⟩:=H;replace H:=bs H;obtain⟨⟨aC,aD⟩,a7,H⟩:=H;dsimp only at H;obtain⟨rfl,rfl,rfl⟩:=o3 H;obtain⟨aQ,aR,aS⟩:=Kd.R_slice D.out;subst aS;go_wp2_with (first|((with_reducible refine zac (f:=130) rfl ?_);refine zaO (some 60) rfl rfl Tryz.func130 (by kernel_rfl) rfl #[.slice aQ O.length aR] rfl lz ?_;(with_reducible refine(zbu.calls k4 _ _ O ax _ ?side1 ?side2 a6.out).mono ?_);(case side1=>repeat(first|exact(Kd.R_reads' D.out).2.2|(with_reducible refine Kd.C_alloc ?_ _)|(with_reducible refine Kd.C_drewN ?_ _)|(with_reducible refine Kd.C_drew ?_)));(case side2=>exact(Kd.R_reads' D.out).2.1);rintro e be ⟨rfl,hb⟩;refine⟨_,rfl,?_⟩;have I:=zaa.mk (Kd.R_below (by(with_reducible repeat(first|apply Kd.R_alloc|apply Kd.R_drewN|apply Kd.R_drew));exact D.out) hb);have J:=kN (g:=E) (cs:=#[.string (⟨#[]⟩:ByteArray),.int .i64 0]) hb bk;have K:=bN bz hb;clear D;clear A;clear HB;have D:=I;have A:=J;have HB:=K;clear I J K;(try clear hb);(try clear bf);(try clear hk);(try clear hi))|((with_reducible refine zac (f:=127) rfl ?_);refine gB Tryz.func127 (zaT.calls ax (wrap64 ((ax.size:Int)+aa)) aC aD _ a7.out) ?_;intro bg hb;have I:=zaa.mk (Kd.R_below (by(with_reducible repeat(first|apply Kd.R_alloc|apply Kd.R_drewN|apply Kd.R_drew));exact D.out) hb);have J:=kN (g:=E) (cs:=#[.string (⟨#[]⟩:ByteArray),.int .i64 0]) hb bk;have K:=bN bz hb;clear D;clear A;clear HB;have D:=I;have A:=J;have HB:=K;clear I J K;clear hb;obtain⟨aT,aU,aV,aW⟩:=cz2 A));refine bodyPost_ret (zaJ rfl _ _ E 74 #[.string aC,.int .i64 aD] (0,0) _ rfl bk Tryz.underlying74 rfl (by kernel_rfl)) rfl ?_;exact⟨ez,bz⟩
end
end Go.Proofs.YtilidabdbhaljaaGreatDoor.Fn
end
section
namespace Go.Proofs.YtilidabdbhaljaaGreatDoor.Pure
open Go.RowKit Go.Proofs.YtilidabdbhaljaaGreatDoorW.PrintWords Go.Proofs.YtilidabdbhaljaaGreatDoor.Fn
theorem zhi(xs:List Int)(c:Nat)(hc:c<1000000000)(hl:xs.length<=100000):Ev (λk=>zay.l1 k xs (c:Int)) (xs++if c=0 then [] else [(c:Int)]):=by
 have base: ∀ys:List Int,Ev (λk=>zay.l1 k ys ((0:Nat):Int)) ys:=λys=>Ev.step (f:=λ_=>some ys) (λk=>by simp only[zay.l1];rw[if_neg (by omega)]) (Ev.now _);by_cases h:c=0
 ·rw[if_pos h,h,List.append_nil];exact base xs
 ·rw[if_neg h];refine Ev.step (f:=λk=>zay.l1 k (xs++[(c:Int)]) ((0:Nat):Int)) (λk=>?_) (base _);simp only[zay.l1];rw[if_pos (by omega),if_pos (by omega),zcT (by omega),zdq (by omega)];(have e1:(c:Int)%1000000000=c:=by omega);(have e2:(c:Int) / 1000000000=((0:Nat):Int):=by omega);rw[e1,e2];rfl
theorem zhj(by_:Nat)(hby:by_<=400000): ∀(rest:List Int) (done:List Int) (c n:Nat),n=done.length+rest.length->n<=50000->InB 1000000000 rest->c<=by_->
 Ev (λk=>zay.l0 k (done++rest) (by_:Int) (c:Int) (n:Int) (done.length:Int)) (done++mulGo 1000000000 by_ rest c):=by
 intro rest;induction rest with
 |nil=>
  intro done c n hn hs _ hc;refine Ev.step (f:=λk=>zay.l1 k done (c:Int)) (λk=>?_) (zhi done c (by omega) (by simp at hn;omega));simp only[zay.l0];simp only[List.length_nil] at hn;rw[if_neg (by omega),List.append_nil]
 |cons x rest ih=>
  intro done c n hn hs hin hc;have hx:=hin.cons.1;simp only[List.length_cons] at hn;have hcar:=zeX (B:=1000000000) (x:=x.toNat) (by omega) hc (by omega);have hxm:x.toNat*by_<=1000000000*400000:=Nat.mul_le_mul (by omega) hby;(have hxe:x=(x.toNat:Int):=by omega);have:=ih (done++[(((x.toNat*by_+c)%1000000000:Nat):Int)]) ((x.toNat*by_+c) / 1000000000) n (by simp;omega) hs hin.cons.2 hcar;unfold mulGo;rw[List.append_assoc,List.append_assoc] at this;simp only[List.singleton_append] at this;refine Ev.step (f:=λk=>zay.l0 k (done++(((x.toNat*by_+c)%1000000000:Nat):Int)::rest) (by_:Int) (((x.toNat*by_+c) / 1000000000:Nat):Int) (n:Int) ((done++[(((x.toNat*by_+c)%1000000000:Nat):Int)]).length:Int)) (λk=>?_) this;simp only[zay.l0];have em:(IntKind.u64.wrap ((IntKind.u64.wrap ((rd (done++x::rest) (done.length:Int))*(by_:Int)))+(c:Int)))=((x.toNat*by_+c:Nat):Int):=by
   rw[zdX,hxe];(have h1:(x.toNat:Int)*(by_:Int)=((x.toNat*by_:Nat):Int):=by omega);rw[Int.toNat_natCast,h1,zcj (x:=((x.toNat*by_:Nat):Int)) (by omega) (by omega),zcj (by omega) (by omega)];omega
  rw[if_pos (by omega),if_pos (by omega),if_pos (by rw[List.length_append,List.length_cons];omega),em,zcT (by omega),zdq (by omega),Int.toNat_natCast,set_mid];(have e1:(((x.toNat*by_+c:Nat):Int)%1000000000)=(((x.toNat*by_+c)%1000000000:Nat):Int):=by omega);(have e2:(((x.toNat*by_+c:Nat):Int) / 1000000000)=(((x.toNat*by_+c) / 1000000000:Nat):Int):=by omega);rw[e1,e2,zcj (by omega) (by omega),zaL (by omega) (by omega)];congr 1;simp
theorem zeZ(xs:List Int)(by_:Nat)(hby:by_<=400000)(hin:InB 1000000000 xs)(hl:xs.length<=50000):Ev (λk=>zay.f k xs (by_:Int)) (mulGo 1000000000 by_ xs 0):=by
 have:=zhj by_ hby xs [] 0 xs.length (by simp) hl hin (by omega);simpa [zay.f] using this
theorem zf1: ∀(n:Nat) (l:List Int),l.length=n->n<=100000-> ∃l',Ev (λk=>zau.f k l) l'/\lv 1000000000 l'=lv 1000000000 l/\l'.length<=l.length/\ ∀x∈l',x∈l:=by
 intro n;induction n with
 |zero=>
  intro l hl _;refine⟨l,Ev.step (f:=λ_=>some l) (λk=>?_) (Ev.now _),rfl,Nat.le_refl _,λx h=>h⟩;simp only[zau.f,zau.l0];rw[if_neg (by omega)]
 |succ n ih=>
  intro l hl hn;obtain⟨t,c,rfl⟩: ∃t c,l=t++[c]:=by
   rcases List.eq_nil_or_concat l with h|⟨t,c,h⟩
   ·rw[h] at hl;cases hl
   ·exact⟨t,c,by rw[h,List.concat_eq_append]⟩
  (have htl:t.length=n:=by simpa using hl);(have hw:wrap64 (((t++[c]).length:Int)-1)=(t.length:Int):=by rw[zaL (by omega) (by omega)];omega);have hrd:rd (t++[c]) (t.length:Int)=c:=zdX t c [];by_cases h:c=0
  ·obtain⟨l',h1,h2,h3,h4⟩:=ih t htl (by omega);refine⟨l',Ev.step (f:=λk=>zau.f k t) (λk=>?_) h1,by rw[h2,zgq,h];simp[lv],by simp;omega,λx hx=>List.mem_append_left _ (h4 x hx)⟩;simp only[zau.f,zau.l0];rw[if_pos (by omega),hw,if_pos (by omega),if_pos (by omega),hrd,if_pos h,if_pos (by omega)];simp
  ·refine⟨t++[c],Ev.step (f:=λ_=>some (t++[c])) (λk=>?_) (Ev.now _),rfl,Nat.le_refl _,λx hx=>hx⟩;simp only[zau.f,zau.l0];rw[if_pos (by omega),hw,if_pos (by omega),if_pos (by omega),hrd,if_neg h]
def b9(x:Nat):List UInt8:=
  [ch (x / 10 / 10 / 10 / 10 / 10 / 10 / 10 / 10%10),ch (x / 10 / 10 / 10 / 10 / 10 / 10 / 10%10),ch (x / 10 / 10 / 10 / 10 / 10 / 10%10),ch (x / 10 / 10 / 10 / 10 / 10%10),
   ch (x / 10 / 10 / 10 / 10%10),ch (x / 10 / 10 / 10%10),ch (x / 10 / 10%10),ch (x / 10%10),ch (x%10)]
theorem ziK{x:Nat}(h:x<1000000000):val (b9 x)=x:=by
 unfold b9 val;simp only[List.foldl_cons,List.foldl_nil];rw[zbK (by omega),zbK (by omega),zbK (by omega),zbK (by omega),zbK (by omega),zbK (by omega),zbK (by omega),zbK (by omega),zbK (by omega)];omega
theorem ziL(x:Nat):AllD (b9 x):=by
 intro c hc;unfold b9 at hc;simp only[List.mem_cons,List.not_mem_nil,or_false] at hc;rcases hc with rfl|rfl|rfl|rfl|rfl|rfl|rfl|rfl|rfl<;>(rw[zbH (by omega)];omega)
theorem zhk{x:Int}(h0:0<=x):(zcp x).map (λn=>UInt8.ofNat n.toNat)=b9 x.toNat:=by
 obtain⟨n,rfl⟩:=Int.eq_ofNat_of_zero_le h0;unfold zcp b9 ch;simp only[List.map_cons,List.map_nil,Int.toNat_natCast];congr 2<;>omega
theorem zf2{l:List Int}(h:InB 1000000000 l):val (L (strOfNums (limbsText l)))=lv 1000000000 l/\AllD (L (strOfNums (limbsText l))):=by
 rw[zdy];induction l with
 |nil=>exact⟨rfl,AllD.nil⟩
 |cons x l ih=>
  have hx:=h.cons.1;obtain⟨h1,h2⟩:=ih h.cons.2;have e:limbsText (x::l)=limbsText l++zcp x:=by
   unfold limbsText;rw[List.reverse_cons,List.map_append,List.flatten_append];simp
  rw[e,List.map_append,zhk hx.1];refine⟨?_,h2.append (ziL _)⟩;rw[val_append,h1,ziK (by omega),lv];have:(b9 x.toNat).length=9:=rfl;rw[this];omega
theorem zh6(l:List Int)(h:InB 1000000000 l)(hl:l.length<=100000):Ev (λk=>zbu.f k l) (S (digs (lv 1000000000 l))):=by
 obtain⟨l',h1,h2,h3,h4⟩:=zf1 l.length l rfl hl;have h5:InB 1000000000 l':=λx hx=>h x (h4 x hx);obtain⟨h6,h7⟩:=zf2 h5;unfold zbu.f;refine Ev.congr (f:=λk=>(zau.f k l).bind ((λ(_:Nat) (lx:List Int)=>if lx.length<=l.length/\ ∀x∈lx,0<=x/\x<=999999999 then za0.f (strOfNums (limbsText lx)) ⟨#[48]⟩ else none) k)) (λk=>?_) (Ev.bind h1 ?_)
 ·rw[if_pos ⟨hl,λx hx=>by have:=h x hx;omega⟩]
 ·refine Ev.congr (λk=>?_) (Ev.now _);show(if l'.length<=l.length/\ ∀x∈l',0<=x/\x<=999999999 then za0.f (strOfNums (limbsText l')) ⟨#[48]⟩ else none)=some (S (digs (lv 1000000000 l)));rw[if_pos ⟨h3,λx hx=>by have:=h5 x hx;omega⟩,trimL,zhC h7,h6,h2]
def eLim(e:Int):Int:=if e<0 then e else 0
def eBase(e:Int):Nat:=if e<0 then 5 else 2
def exactS(m:Nat)(e:Int):ByteArray×Int×Int:=
  if e< -1200\/1200<e then(⟨#[]⟩,0,1) else((decS (decOf (m*eBase e^e.natAbs) (eLim e))).1,(decS (decOf (m*eBase e^e.natAbs) (eLim e))).2,0)
theorem zgw(l:List Int)(pt:Int)(h:InB 1000000000 l)(hl:l.length<=20000)(hp: -5000<=pt/\pt<=5000):
 Ev (λk=>(zbu.f k l).bind λt=>(zaT.f t (wrap64 ((t.size:Int)+pt))).bind λbt=>some (bt.1,bt.2,(0:Int))) ((decS (decOf (lv 1000000000 l) pt)).1,(decS (decOf (lv 1000000000 l) pt)).2,0):=by
 refine Ev.bind (zh6 l h (by omega)) (Ev.congr (λk=>?_) (Ev.now _));have hlt:=zi2 h;have hd:(digs (lv 1000000000 l)).length<=9*l.length:=zdD _ _ (by rw[Nat.pow_mul];exact hlt);generalize lv 1000000000 l=n at hd ⊢;rw[zat,zaL (by omega) (by omega),zcR _ _ (by rw[zat];omega) (by omega) (by omega),L_S,zbT (zen n),zc0,Option.bind_some];(have:((digs n).length:Int)+pt-((digs n).length:Int)=pt:=by omega);rw[this]
theorem zhl(b:Nat)(hb:b=2\/b=5)(pt:Int)(hp: -5000<=pt/\pt<=5000): ∀(e:Nat) (l:List Int),InB 1000000000 l->l.length+e<=20000->
 Ev (λk=>zaj.l1 k (e:Int) l (b:Int) pt) ((decS (decOf (lv 1000000000 l*b^e) pt)).1,(decS (decOf (lv 1000000000 l*b^e) pt)).2,0):=by
 intro e;induction e with
 |zero=>
  intro l h hl;rw[Nat.pow_zero,Nat.mul_one];refine Ev.step (λk=>?_) (zgw l pt h (by omega) hp);simp only[zaj.l1];rw[if_neg (by omega)]
 |succ e ih=>
  intro l h hl;(have A:b<=5:=by omega);have h1:=zeZ l b (by omega) h (by omega);have h2:=ih (mulGo 1000000000 b l 0) (zdC (by omega) l 0 h (by omega)) (by have:=zdi (B:=1000000000) (by_:=b) l 0;omega);rw[zdW (by omega),Nat.mul_assoc,<-Nat.pow_succ'] at h2;refine Ev.step (λk=>?_) (Ev.bind (f:=λk t=>zaj.l1 k (e:Int) t (b:Int) pt) h1 h2);simp only[zaj.l1];rw[if_pos (by omega)];(have:wrap64 (((e+1:Nat):Int)-1)=(e:Int):=by rw[zaL (by omega) (by omega)];omega);rw[this]
theorem pow8(b:Nat)(hb:b=2\/b=5):(IntKind.u64.wrap ((IntKind.u64.wrap ((IntKind.u64.wrap ((IntKind.u64.wrap ((IntKind.u64.wrap ((IntKind.u64.wrap ((IntKind.u64.wrap ((b:Int)*b))*b))*b))*b))*b))*b))*b))=((b^8:Nat):Int):=by
 rcases hb with rfl|rfl<;>rfl
theorem zhm(b:Nat)(hb:b=2\/b=5)(pt:Int)(hp: -5000<=pt/\pt<=5000): ∀(e:Nat) (l:List Int),InB 1000000000 l->l.length+e<=20000->
 Ev (λk=>zaj.l0 k (e:Int) l (b:Int) pt) ((decS (decOf (lv 1000000000 l*b^e) pt)).1,(decS (decOf (lv 1000000000 l*b^e) pt)).2,0):=by
 intro e;induction e using Nat.strongRecOn with
 |_ e ih=>
  intro l h hl;(have A:b^8<=390625:=by rcases hb with rfl|rfl<;>decide);by_cases he:e>=8
  ·have h1:=zeZ l (b^8) (by omega) h (by omega);have h2:=ih (e-8) (by omega) (mulGo 1000000000 (b^8) l 0) (zdC (by omega) l 0 h (by omega)) (by have:=zdi (B:=1000000000) (by_:=b^8) l 0;omega);rw[zdW (by omega),Nat.mul_assoc,<-Nat.pow_add,show 8+(e-8)=e by omega] at h2;refine Ev.step (λk=>?_) (Ev.bind (f:=λk t=>zaj.l0 k ((e-8:Nat):Int) t (b:Int) pt) h1 h2);simp only[zaj.l0];rw[if_pos (by omega),pow8 b hb];(have:wrap64 ((e:Int)-8)=((e-8:Nat):Int):=by rw[zaL (by omega) (by omega)];omega);rw[this]
  ·refine Ev.step (λk=>?_) (zhl b hb pt hp e l h hl);simp only[zaj.l0];rw[if_neg (by omega)]
theorem zcw(m:Nat)(e:Int)(hm:m<18446744073709551616):Ev (λk=>zaj.f k (m:Int) e) (exactS m e):=by
 unfold exactS;by_cases h1:e< -1200
 ·rw[if_pos (.inl h1)];refine Ev.congr (f:=λk=>zaj.j0 k (m:Int) e true) (λk=>?_) (Ev.step (f:=λ_=>some ((⟨#[]⟩:ByteArray),(0:Int),(1:Int))) (λk=>rfl) (Ev.now _));unfold zaj.f;rw[if_pos h1]
 ·by_cases h2:1200<e
  ·rw[if_pos (.inr h2)];refine Ev.congr (f:=λk=>zaj.j0 k (m:Int) e true) (λk=>?_) (Ev.step (f:=λ_=>some ((⟨#[]⟩:ByteArray),(0:Int),(1:Int))) (λk=>rfl) (Ev.now _));unfold zaj.f;rw[if_neg h1,decide_eq_true (by omega)]
  ·rw[if_neg (by omega)]
   have hin:InB 1000000000 [((m%1000000000:Nat):Int),((m / 1000000000%1000000000:Nat):Int),((m / 1000000000 / 1000000000:Nat):Int)]:=
    InB.mk ⟨by omega,by omega⟩ (InB.mk ⟨by omega,by omega⟩ (InB.mk ⟨by omega,by omega⟩ (InB.nil _)))
   have hv:lv 1000000000 [((m%1000000000:Nat):Int),((m / 1000000000%1000000000:Nat):Int),((m / 1000000000 / 1000000000:Nat):Int)]=m:=by
    simp only[lv,Int.toNat_natCast];omega
   have key:=zhm (eBase e) (by unfold eBase;split<;>omega) (eLim e) (by unfold eLim;split<;>omega) e.natAbs _ hin (by simp;omega);rw[hv] at key;have hl:([Int.tmod (m:Int) 1000000000,Int.tmod (IntKind.u64.wrap (Int.tdiv (m:Int) 1000000000)) 1000000000,IntKind.u64.wrap (Int.tdiv (IntKind.u64.wrap (Int.tdiv (m:Int) 1000000000)) 1000000000)]:List Int)=[((m%1000000000:Nat):Int),((m / 1000000000%1000000000:Nat):Int),((m / 1000000000 / 1000000000:Nat):Int)]:=by
    rw[zcT (by omega),zdq (by omega),zcj (by omega) (by omega),zcT (by omega),zdq (by omega),zcj (by omega) (by omega)];congr 2
   refine Ev.congr (f:=λk=>zaj.j0 k (m:Int) e false) (λk=>?_) (Ev.step (f:=λk=>zaj.j1 k (e.natAbs:Int) [((m%1000000000:Nat):Int),((m / 1000000000%1000000000:Nat):Int),((m / 1000000000 / 1000000000:Nat):Int)] (eBase e:Int) (eLim e)) (λk=>?_) (Ev.step (λk=>rfl) key))
   ·unfold zaj.f;rw[if_neg h1,decide_eq_false (by omega)]
   ·simp only[zaj.j0];rw[if_neg (by simp),hl,Option.bind_some];unfold eBase eLim;by_cases h3:e<0
    ·rw[if_pos h3,if_pos h3,if_pos h3,zaL (by omega) (by omega)];(have:(-e:Int)=(e.natAbs:Int):=by omega);rw[this];rfl
    ·rw[if_neg h3,if_neg h3,if_neg h3];(have:(e:Int)=(e.natAbs:Int):=by omega);rw[<-this];rfl
def sumD(a:List UInt8)(p:Int)(b:List UInt8)(q:Int):List UInt8×Int:=
  decOf (sv a p (min (p-a.length) (q-b.length))+sv b q (min (p-a.length) (q-b.length))) (min (p-a.length) (q-b.length))
theorem zcU{a b:List UInt8}{p q E:Int}(h1:E<=p-a.length)(h2:E<=q-b.length):sumD a p b q=decOf (sv a p E+sv b q E) E:=by
 unfold sumD;obtain⟨k,hk⟩: ∃k:Nat,E=min (p-(a.length:Int)) (q-b.length)-k:=⟨(min (p-(a.length:Int)) (q-b.length)-E).toNat,by omega⟩;rw[hk,zc2 a p _ (by omega),zc2 b q _ (by omega),<-Nat.add_mul,zcO]
theorem zes(a:List UInt8)(p:Int)(b:List UInt8)(q:Int):sumD a p b q=sumD b q a p:=by
 rw[zcU (a:=a) (b:=b) (E:=min (p-(a.length:Int)) (q-b.length)) (by omega) (by omega),zcU (a:=b) (b:=a) (E:=min (p-(a.length:Int)) (q-b.length)) (by omega) (by omega),Nat.add_comm]
theorem zcl{b:List UInt8}{q:Int}(hb:InForm b q)(p:Int):sumD [] p b q=(b,q):=by
 rw[zcU (E:=min (p-(([]:List UInt8).length:Int)) (q-b.length)) (by omega) (by omega)];(have:sv [] p (min (p-(([]:List UInt8).length:Int)) (q-b.length))=0:=by unfold sv;rw[zba,Nat.zero_mul]);rw[this,Nat.zero_add,zhh hb (by omega)]
theorem zef{a:List UInt8}{p:Int}(ha:InForm a p)(q:Int):sumD a p [] q=(a,p):=by rw[zes,zcl ha]
theorem zhn{A B v c m:Nat}(h:v+c*10^m=A%10^m+B%10^m):
 v+(c+A / 10^m%10+B / 10^m%10)%10*10^m+(c+A / 10^m%10+B / 10^m%10) / 10*10^(m+1)=A%10^(m+1)+B%10^(m+1):=by
 have e1:=Nat.mod_pow_succ (x:=A) (b:=10) (k:=m);have e2:=Nat.mod_pow_succ (x:=B) (b:=10) (k:=m);rw[e1,e2];generalize hs:c+A / 10^m%10+B / 10^m%10=s;have hd:=Nat.div_add_mod s 10;(have e3:s / 10*10^(m+1)=10*(s / 10)*10^m:=by rw[Nat.pow_succ,Nat.mul_comm (10^m) 10,<-Nat.mul_assoc,Nat.mul_comm (s / 10) 10]);rw[e3];(have e4:s%10*10^m+10*(s / 10)*10^m=s*10^m:=by rw[<-Nat.add_mul];congr 1;omega);(have e5:s*10^m=c*10^m+10^m*(A / 10^m%10)+10^m*(B / 10^m%10):=by rw[<-hs,Nat.add_mul,Nat.add_mul,Nat.mul_comm (A / 10^m%10),Nat.mul_comm (B / 10^m%10)]);omega
def toI(l:List UInt8):List Int:=l.map λb=>(b.toNat:Int)
theorem zbs(a b:List UInt8):toI (a++b)=toI a++toI b:=List.map_append
theorem zbO(a:List UInt8):(toI a).length=a.length:=List.length_map _
theorem zet(l:List UInt8):bytesOf (S l)=toI l:=rfl
theorem zcH(l:List UInt8):strOfNums (toI l)=S l:=by
 rw[<-S_L (strOfNums (toI l)),zdy];congr 1;unfold toI;rw[List.map_map];have:List.map ((λn:Int=>UInt8.ofNat n.toNat)∘λb:UInt8=>(b.toNat:Int)) l=List.map id l:=by
  apply List.map_congr_left;intro c _;simp[Function.comp]
 rw[this,List.map_id]
theorem zh7(A:ByteArray)(p:Int)(B:ByteArray)(q:Int)(n:Nat)(hn:n<=100000)(h2:2<=n)(hA:A.size+1<=n)(r:ByteArray×Int×Int)
 (h:Ev (λk=>zao.j2 k (cpyAt (List.replicate n 48) 1 A) A p B q) r):
 ∀(d i:Nat),i+d=n->Ev (λk=>zao.l0 k (List.replicate i 48++List.replicate d 0) (n:Int) (i:Int) A p B q) r:=by
 intro d;induction d with
 |zero=>
  intro i hi;refine Ev.step (λk=>?_) h;(have e:i=n:=by omega);subst e;simp only[zao.l0];rw[if_neg (by omega),List.replicate_zero,List.append_nil,if_pos (by rw[List.length_replicate];omega),if_pos (by rw[List.length_replicate];omega),if_pos (by rw[List.length_replicate];omega)]
 |succ d ih=>
  intro i hi;refine Ev.step (λk=>?_) (ih (i+1) (by omega));simp only[zao.l0];have e:(List.replicate i (48:Int)++List.replicate (d+1) 0).set i 48=List.replicate (i+1) 48++List.replicate d 0:=by
   have:=set_mid (List.replicate i (48:Int)) 0 48 (List.replicate d 0);rw[List.length_replicate] at this;rw[List.replicate_succ,this,List.replicate_succ' (n:=i)];simp
  rw[if_pos (by omega),if_pos (by omega),if_pos (by simp;omega),Int.toNat_natCast,e,zaL (by omega) (by omega)];rfl
theorem ziM{a b:List UInt8}{p q E:Int}{n:Nat}(orig:List UInt8)(ho:AllD orig)(hol:orig.length=n)(hn:(n:Int)=p+1-E)(hov:val orig=sv a p E)(ha:AllD a)(hb:AllD b)
    (h1:E<=p-a.length) (h2:E<=q-b.length) (hqp:q<=p)
    (hba:a.length<=4000/\ -10000<=p/\p<=10000) (hbb:b.length<=4000/\ -10000<=q/\q<=10000) (hE: -20000<=E) (hEp:E<p):
    ∀(j:Nat) (done:List UInt8) (c:Nat),j+done.length=n->AllD done->c<=1->val done+c*10^done.length=sv a p E%10^done.length+sv b q E%10^done.length->
      Ev (λk=>zao.l1 k (toI (orig.take j)++toI done) (c:Int) ((j:Int)-1) (S a) p (S b) q)
        (if(decOf (sv a p E+sv b q E) E).1.length>2000 then((⟨#[]⟩:ByteArray),0,2) else((decS (decOf (sv a p E+sv b q E) E)).1,(decS (decOf (sv a p E+sv b q E) E)).2,0)):=by
  intro j;induction j with
  |zero=>
    intro done c hd hin hc hv;have hla:=zdr ha h1;have hlb:=zdr hb h2;have hA:10^(p-E).toNat<=10^(done.length-1):=Nat.pow_le_pow_right (by omega) (by omega);have hB:10^(q-E).toNat<=10^(done.length-1):=Nat.pow_le_pow_right (by omega) (by omega);(have hpw:10^done.length=10^(done.length-1)*10:=by rw[<-Nat.pow_succ];congr 1;omega);rw[Nat.mod_eq_of_lt (by omega),Nat.mod_eq_of_lt (by omega)] at hv;have B:c=0:=by
      rcases Nat.eq_zero_or_pos c with h|h
      ·exact h
      ·(have:c=1:=by omega);subst this;omega
    rw[B,Nat.zero_mul,Nat.add_zero] at hv;have hf:=zcR (S done) (p+1) (by rw[zat];omega) (by omega) (by omega);rw[L_S,zbT hin,hv] at hf;(have e:p+1-(done.length:Int)=E:=by omega);rw[e] at hf;refine Ev.step (λk=>?_) (Ev.now _);simp only[zao.l1];rw[if_neg (by omega),List.take_zero];have e2:toI []++toI done=toI done:=rfl;rw[e2,zcH,zaL (by omega) (by omega),hf,Option.bind_some];(have e3:((decS (decOf (sv a p E+sv b q E) E)).1.size:Int)=((decOf (sv a p E+sv b q E) E).1.length:Int):=by unfold decS;rw[zat]);rw[e3];by_cases h5:(decOf (sv a p E+sv b q E) E).1.length>2000
    ·rw[if_pos h5,if_pos (by omega)]
    ·rw[if_neg h5,if_neg (by omega)]
  |succ i ih=>
    intro done c hd hin hc hv;(have hil:i<orig.length:=by omega);(have hm:done.length=n-1-i:=by omega);have hx:=ho orig[i] (List.getElem_mem hil);have hda:dig orig[i]=sv a p E / 10^done.length%10:=by
      rw[<-hov,hm,<-hol,zer ho i hil]
    have hst:=zhn hv;rw[<-hda] at hst;generalize hs:c+dig orig[i]+sv b q E / 10^done.length%10=s at hst;(have hdl:dig orig[i]<=9:=by unfold dig;omega);have I:s<=19:=by omega
    have:=ih (ch (s%10)::done) (s / 10) (by simp;omega) (by
      intro c' hc'
      rcases List.mem_cons.1 hc' with rfl|h'
      ·rw[zbH (by omega)];omega
      ·exact hin c' h') (by omega) (by
      rw[zbo,List.length_cons,zbK (by omega)]
      omega)
    have etk:orig.take (i+1)=orig.take i++[orig[i]]:=List.take_succ_eq_append_getElem hil;(have hti:(toI (orig.take i)).length=i:=by rw[zbO,List.length_take];omega);have erd:rd (toI (orig.take (i+1))++toI done) (i:Int)=(orig[i].toNat:Int):=by
      have h3:=zdX (toI (orig.take i)) (orig[i].toNat:Int) (toI done);rw[hti] at h3;rw[etk,zbs,List.append_assoc];exact h3
    have est: ∀v:Int,(toI (orig.take (i+1))++toI done).set i v=toI (orig.take i)++v::toI done:=by
      intro v;have h3:=set_mid (toI (orig.take i)) (orig[i].toNat:Int) v (toI done);rw[hti] at h3;rw[etk,zbs,List.append_assoc];exact h3
    have ecur:toI (orig.take i)++toI (ch (s%10)::done)=toI (orig.take i)++(48+((s%10:Nat):Int))::toI done:=by
      unfold toI;rw[List.map_cons,zbH (by omega)];congr 2
    rw[ecur] at this;(have edig:((orig[i].toNat:Int)-48)%256=(dig orig[i]:Int):=by unfold dig;omega);refine Ev.step (λk=>?_) this;(have ei:(((i+1:Nat):Int)-1)=(i:Int):=by omega);simp only[zao.l1];(have hll:((toI (orig.take (i+1))++toI done).length:Int)=(n:Int):=by rw[List.length_append,zbO,zbO,List.length_take];omega);have ew:(wrap64 ((wrap64 ((i:Int)-1))-(wrap64 (p-q))))=(i:Int)-1-(p-q):=by
      rw[zaL (x:=(i:Int)-1) (by omega) (by omega),zaL (x:=p-q) (by omega) (by omega),zaL (by omega) (by omega)]
    rw[ei,if_pos (by omega),if_pos (by omega),if_pos (by rw[hll];omega),ew,Int.toNat_natCast,erd,edig,zaL (x:=(i:Int)-1) (by omega) (by omega)];simp only[est,zat]
    -- the other one's digit at this place
    have hdb: ∀r:Option (ByteArray×Int×Int),True:=λ_=>trivial;have A:=digit_eq (x:=p-i) hb h2 (by omega) (by omega);(have en:(p-(i:Int)-E).toNat=done.length:=by omega);rw[en] at A;unfold zbQ.f at A;have D:(wrap64 ((wrap64 (q-1))-(p-(i:Int))))=(i:Int)-1-(p-q):=by
      rw[zaL (x:=q-1) (by omega) (by omega),zaL (by omega) (by omega)];omega
    rw[D,zat] at A;by_cases c1:(i:Int)-1-(p-q)>=0
    ·rw[if_pos c1];rw[if_neg (by omega)] at A;by_cases c2:(i:Int)-1-(p-q)<(b.length:Int)
     ·rw[if_pos c2,if_pos c1];rw[if_neg (by omega),if_pos c1,if_pos c2] at A;(injection A with A);rw[A];(have e1:(((dig orig[i]:Int)+(c:Int))%256+((sv b q E / 10^done.length%10:Nat):Int))%256=(s:Int):=by omega);rw[e1];(have e2:(s:Int)%10=((s%10:Nat):Int):=by omega);(have e3:(s:Int) / 10=((s / 10:Nat):Int):=by omega);rw[e2,e3]
     ·rw[if_neg c2];rw[if_pos (by omega)] at A;(injection A with A);(have e1:(((dig orig[i]:Int)+(c:Int))%256)=(s:Int):=by omega);rw[e1];(have e2:(s:Int)%10=((s%10:Nat):Int):=by omega);(have e3:(s:Int) / 10=((s / 10:Nat):Int):=by omega);rw[e2,e3]
    ·rw[if_neg c1];rw[if_pos (by omega)] at A;(injection A with A);(have e1:(((dig orig[i]:Int)+(c:Int))%256)=(s:Int):=by omega);rw[e1];(have e2:(s:Int)%10=((s%10:Nat):Int):=by omega);(have e3:(s:Int) / 10=((s / 10:Nat):Int):=by omega);rw[e2,e3]
def addD(a:List UInt8)(p:Int)(b:List UInt8)(q:Int):ByteArray×Int×Int:=
  if(sumD a p b q).1.length>2000 then((⟨#[]⟩:ByteArray),0,2) else((decS (sumD a p b q)).1,(decS (sumD a p b q)).2,0)
theorem zeu(a:List UInt8)(p:Int)(b:List UInt8)(q:Int):addD a p b q=addD b q a p:=by unfold addD;rw[zes]
theorem zdc{b:List UInt8}{q:Int}(hb:InForm b q)(hl:b.length<=2000)(p:Int):addD [] p b q=(S b,q,0):=by
 unfold addD;rw[zcl hb,if_neg (show¬(b,q).1.length>2000 from by show¬b.length>2000;omega)];rfl
theorem ze0{a b:List UInt8}{p q:Int}(ha:InForm a p)(hb:InForm b q)(hn:b≠[])(h:p<q):cmpD a p b q= -1:=by
 have h1:=zdr (E:=min (p-(a.length:Int)) (q-b.length)) (p:=p) ha.1 (by omega);have h2:=zfW (E:=min (p-(a.length:Int)) (q-b.length)) (p:=q) hb.1 hb.2.1 hn (by omega);have h3:10^(p-min (p-(a.length:Int)) (q-b.length)).toNat<=10^(q-1-min (p-(a.length:Int)) (q-b.length)).toNat:=Nat.pow_le_pow_right (by omega) (by omega);unfold cmpD;exact zb9 (by omega)
theorem zdj(a:List UInt8)(p:Int)(b:List UInt8)(q:Int):cmpD a p b q= -cmpD b q a p:=by
 (have h:min (q-(b.length:Int)) (p-a.length)=min (p-(a.length:Int)) (q-b.length):=by omega);unfold cmpD;rw[h];unfold cmpN;split<;>split<;>(try split)<;>omega
theorem zfB(a:List UInt8)(n:Nat)(h:a.length+1<=n):cpyAt (List.replicate n 48) 1 (S a)=toI (48::(a++List.replicate (n-1-a.length) 48)):=by
 unfold cpyAt;rw[zet,zat];have e1:(List.replicate n (48:Int)).take 1=toI [48]:=by
  rw[List.take_replicate,Nat.min_eq_left (by omega)];rfl
 have e2:(List.replicate n (48:Int)).drop (1+a.length)=toI (List.replicate (n-1-a.length) 48):=by
  rw[List.drop_replicate];unfold toI;rw[List.map_replicate,show n-(1+a.length)=n-1-a.length by omega];rfl
 rw[e1,e2,<-zbs,<-zbs,List.append_assoc];rfl
theorem zgx{a b:List UInt8}{p q:Int}(ha:InForm a p)(hb:InForm b q)(hna:a≠[])(hqp:q<=p)
 (hba:a.length<=4000/\ -10000<=p/\p<=10000) (hbb:b.length<=4000/\ -10000<=q/\q<=10000):Ev (λk=>zao.j0 k (S a) p (S b) q) (addD a p b q):=by
 have hal:0<a.length:=List.length_pos_iff.2 hna;obtain⟨E,hE⟩: ∃E:Int,E=min (p-(a.length:Int)) (q-b.length):=⟨_,rfl⟩;obtain⟨n,hn⟩: ∃n:Nat,(n:Int)=p+1-E:=⟨(p+1-E).toNat,by omega⟩;have hall:AllD (48::(a++List.replicate (n-1-a.length) 48)):=by
  intro c hc;rcases List.mem_cons.1 hc with rfl|h'
  ·exact⟨by decide,by decide⟩
  ·rcases List.mem_append.1 h' with h'|h'
   ·exact ha.1 c h'
   ·rw[List.eq_of_mem_replicate h'];exact⟨by decide,by decide⟩
 have hlen:(48::(a++List.replicate (n-1-a.length) (48:UInt8))).length=n:=by
  rw[List.length_cons,List.length_append,List.length_replicate];omega
 have hval:val (48::(a++List.replicate (n-1-a.length) 48))=sv a p E:=by
  rw[zbo,val_append,zcG,List.length_replicate];unfold sv;rw[show(p-(a.length:Int)-E).toNat=n-1-a.length by omega,show dig 48=0 from rfl];omega
 have h1:=ziM (E:=E) (p:=p) (q:=q) (n:=n) (a:=a) (b:=b) _ hall hlen hn hval ha.1 hb.1 (by omega) (by omega) hqp hba hbb (by omega) (by omega) n [] 0 (by simp) AllD.nil (by omega) (by simp[Nat.mod_one,zba]);rw[List.take_of_length_le (by rw[hlen];omega)] at h1;have e0:toI ([]:List UInt8)=[]:=rfl;rw[e0,List.append_nil,<-zfB a n (by omega),<-zcU (E:=E) (p:=p) (q:=q) (by omega) (by omega)] at h1;have h2:Ev (λk=>zao.j2 k (cpyAt (List.replicate n 48) 1 (S a)) (S a) p (S b) q) (addD a p b q):=by
  refine Ev.step (λk=>?_) h1;simp only[zao.j2];(have e:(cpyAt (List.replicate n 48) 1 (S a)).length=n:=by rw[zfB a n (by omega),zbO,hlen]);rw[e,zaL (x:=(n:Int)-1) (by omega) (by omega)];rfl
 have h3:=zh7 (S a) p (S b) q n (by omega) (by omega) (by rw[zat];omega) _ h2 n 0 (by omega);rw[List.replicate_zero,List.nil_append] at h3;refine Ev.step (λk=>?_) h3;simp only[zao.j0];have em:wrap64 (wrap64 (p-mn (wrap64 (p-((S a).size:Int))) (wrap64 (q-((S b).size:Int))))+1)=(n:Int):=by
  rw[zat,zat,zaL (x:=p-(a.length:Int)) (by omega) (by omega),zaL (x:=q-(b.length:Int)) (by omega) (by omega)];(have e2:mn (p-(a.length:Int)) (q-b.length)=E:=by unfold mn;split<;>omega);rw[e2,zaL (x:=p-E) (by omega) (by omega),zaL (x:=p-E+1) (by omega) (by omega)];omega
 rw[em,if_pos (by omega),Int.toNat_natCast,if_pos (by omega),Option.bind_some,List.length_replicate];rfl
def addS(s:ByteArray)(p:Int)(t:ByteArray)(q:Int):ByteArray×Int×Int:=
  if(normS s p).2.2=0 then(if(normS t q).2.2=0 then addD (L (normS s p).1) (normS s p).2.1 (L (normS t q).1) (normS t q).2.1 else((⟨#[]⟩:ByteArray),0,(normS t q).2.2)) else((⟨#[]⟩:ByteArray),0,(normS s p).2.2)
theorem zh8(s:ByteArray)(p:Int)(t:ByteArray)(q:Int):Ev (λk=>zao.f k s p t q) (addS s p t q):=by
 unfold zao.f addS;refine Ev.bind (zgr s p t q) ?_;rcases zbL s p with⟨e,h1,h2,_⟩|⟨l,u,h1,A,b1,b2,b3,_⟩
 ·rw[h1,if_neg h2,if_neg h2];exact Ev.congr (λk=>by rw[if_neg h2]) (Ev.now _)
 ·rw[h1,if_pos rfl,if_pos rfl];rcases zbL t q with⟨e,h3,h4,_⟩|⟨m,v,h3,B,c1,c2,c3,_⟩
  ·rw[h3,if_neg h4];exact Ev.congr (λk=>by rw[if_neg h4]) (Ev.now _)
  ·rw[h3,if_pos rfl];show Ev _ (addD (L (S l)) u (L (S m)) v);rw[L_S,L_S];by_cases n1:l=[]
   ·subst n1;rw[zdc B c1];exact Ev.congr (λk=>by rw[if_pos rfl,zbe,L_S,if_pos rfl]) (Ev.now _)
   ·by_cases n2:m=[]
    ·subst n2;rw[zeu,zdc A b1];exact Ev.congr (λk=>by rw[if_pos rfl,zbe,L_S,if_neg n1,zbe,L_S,if_pos rfl]) (Ev.now _)
    ·refine Ev.congr (λk=>by rw[if_pos rfl,zbe,L_S,if_neg n1,zbe,L_S,if_neg n2]) (Ev.bind (cmp_eq A B) ?_);by_cases n3:cmpD l u m v<0
     ·refine Ev.congr (λk=>by rw[if_pos n3]) ?_;rw[zeu];refine zgx (a:=m) (p:=v) (b:=l) (q:=u) B A n2 ?_ (by omega) (by omega);by_cases n4:u<=v
      ·exact n4
      ·have h5:=ze0 B A n1 (show v<u by omega);have h6:=zdj l u m v;omega
     ·refine Ev.congr (λk=>by rw[if_neg n3]) ?_;refine zgx (a:=l) (p:=u) (b:=m) (q:=v) A B n1 ?_ (by omega) (by omega);by_cases n4:v<=u
      ·exact n4
      ·have h5:=ze0 A B n2 (show u<v by omega);omega
theorem zcI{n:Nat}(h:n≠0)(e:Int):e<=(decOf n e).2-(decOf n e).1.length:=by
 unfold decOf;rw[if_neg h];have:=zbY (digs n);show e<=((digs n).length:Int)+e-(rz (digs n)).length;omega
theorem zcx(n:Nat)(e:Int):sv (decOf n e).1 (decOf n e).2 e=n:=by
 by_cases h:n=0
 ·subst h;unfold sv;rw[zco];show val []*_=0;rw[zba,Nat.zero_mul]
 ·unfold sv decOf;rw[if_neg h];obtain⟨k,hk⟩:=zcF (digs n);have hv:=zc0 n;have hlen:=congrArg List.length hk;rw[List.length_append,List.length_replicate] at hlen;rw[hk,val_append,zcG,List.length_replicate] at hv;show val (rz (digs n))*10^(((digs n).length:Int)+e-(rz (digs n)).length-e).toNat=n;rw[show(((digs n).length:Int)+e-(rz (digs n)).length-e).toNat=k by omega];omega
theorem zev{n:Nat}{e:Int}:(decOf n e).1=[]↔n=0:=by
 constructor
 ·intro h;have:=zcx n e;unfold sv at this;rw[h,zba,Nat.zero_mul] at this;exact this.symm
 ·intro h;subst h;rfl
theorem zgy(m n:Nat)(e:Int):sumD (decOf m e).1 (decOf m e).2 (decOf n e).1 (decOf n e).2=decOf (m+n) e:=by
 by_cases hm:m=0
 ·subst hm;rw[zco,Nat.zero_add];exact zcl (zbc n e) 0
 ·by_cases hn:n=0
  ·subst hn;rw[zco,Nat.add_zero];exact zef (zbc m e) 0
  ·rw[zcU (E:=e) (zcI hm e) (zcI hn e),zcx,zcx]
theorem zho(p q:Int):cmpD [] p [] q=0:=by
 unfold cmpD sv;rw[zba,Nat.zero_mul,Nat.zero_mul,zeq]
theorem zgz(m n:Nat)(e:Int):cmpD (decOf m e).1 (decOf m e).2 (decOf n e).1 (decOf n e).2=cmpN m n:=by
 by_cases hm:m=0
 ·subst hm;by_cases hn:n=0
  ·subst hn;rw[zco];exact zho 0 0
  ·rw[zb9 (show 0<n by omega)];exact zeH (zbc n e) (mt zev.1 hn) _
 ·by_cases hn:n=0
  ·subst hn;rw[zcr (show 0<m by omega)];exact zec (zbc m e) (mt zev.1 hm) _
  ·rw[zhY (E:=e) (zcI hm e) (zcI hn e),zcx,zcx]
theorem zbS{n m:Nat}(h:n<10^m)(e:Int):(decOf n e).1.length<=m/\(decOf n e).2<=max 0 (e+m)/\min 0 e<=(decOf n e).2:=by
 unfold decOf;have h1:=zdD m n h;have h2:=zbY (digs n);by_cases h0:n=0
 ·rw[if_pos h0];refine⟨Nat.zero_le _,?_,?_⟩
  ·show(0:Int)<=_;omega
  ·show _<=(0:Int);omega
 ·rw[if_neg h0];refine⟨?_,?_,?_⟩
  ·show(rz (digs n)).length<=m;omega
  ·show((digs n).length:Int)+e<=_;omega
  ·show _<=((digs n).length:Int)+e;omega
def downP(a:List UInt8)(n:Nat):Prop:=2*val (a.drop n)<10^(a.length-n)\/(2*val (a.drop n)=10^(a.length-n)/\val (a.take n)%2=0)
instance (a : List UInt8) (n : Nat) : Decidable (downP a n) := by unfold downP; infer_instance
def roundN(a:List UInt8)(p n:Int):List UInt8×Int:=
  if n<0 then([],0) else if(a.length:Int)<=n then(a,p) else if downP a n.toNat then decOf (val (a.take n.toNat)) (p-n) else decOf (val (a.take n.toNat)+1) (p-n)
theorem zfC: ∀(n:Nat) (a:List UInt8),rz a=a->rz (a.drop n)=a.drop n
 |0,a,h=>h
 |n+1,[],_=>zgo
 |n+1,c::t,h=>zfC n t (zds h)
theorem zhp(u:List UInt8):Op.bytesLess u []=false:=by cases u<;>rfl
theorem zi3{t:List UInt8}(h:AllD t)(hr:rz t=t)(hn:t≠[]):(Op.bytesLess t [53]=true↔2*val t<10^t.length)/\(t=[53]↔2*val t=10^t.length):=by
 cases t with
 |nil=>exact absurd rfl hn
 |cons c u=>
  have hc:=h.cons.1;have hv:=zcv h.cons.2;have A:(53:UInt8).toNat=53:=rfl;have e1:Op.bytesLess (c::u) [53]=(decide (c<53)):=by
   show(decide (c<53)||(c==53&&Op.bytesLess u []))=_;rw[zhp];simp
  (have e2:(c<53)↔dig c<5:=by rw[UInt8.lt_iff_toNat_lt,A];unfold dig;omega);rw[e1,zbo,List.length_cons,Nat.pow_succ,decide_eq_true_iff,e2];generalize hP:10^u.length=P at*
  by_cases c1:dig c<5
  ·have h4:dig c*P<=4*P:=Nat.mul_le_mul_right P (by omega);refine⟨⟨λ_=>by omega,λ_=>c1⟩,⟨λh5=>?_,λh5=>?_⟩⟩
   ·injection h5 with h6 h7;rw[h6] at c1;exact absurd c1 (by decide)
   ·omega
  ·have h4:5*P<=dig c*P:=Nat.mul_le_mul_right P (by omega);refine⟨⟨λh5=>absurd h5 c1,λh5=>by omega⟩,⟨λh5=>?_,λh5=>?_⟩⟩
   ·(injection h5 with h6 h7);subst h6;subst h7;rw[List.length_nil] at hP;rw[zba,<-hP];rfl
   ·(have h6:val u=0:=by omega);have hu:u=[]:=by
     by_cases hu:u=[]
     ·exact hu
     ·exact absurd h6 (zeb h.cons.2 (zds hr) hu)
    subst hu;rw[List.length_nil] at hP;(have h7:dig c=5:=by rw[<-hP,zba] at h5;omega);congr 1;apply UInt8.toNat_inj.1;unfold dig at h7;rw[A];omega
theorem zhG: ∀(m:Nat) (l:List UInt8) (k:Nat),l.length=m->AllD l-> ∃r,upGo (toI (l++List.replicate k 48)) m=toI r/\AllD r/\val r=(val l+1)*10^k/\r.length<=m+k+1
 |0,l,k,hl,h=>by
  have:l=[]:=List.length_eq_zero_iff.1 hl
  subst this
  refine⟨49::List.replicate k 48,rfl,?_,?_,?_⟩
  ·intro c hc
   rcases List.mem_cons.1 hc with rfl|h'
   ·exact⟨by decide,by decide⟩
   ·rw[List.eq_of_mem_replicate h'];exact⟨by decide,by decide⟩
  ·rw[zbo,zcG,List.length_replicate,zba];rfl
  ·rw[List.length_cons,List.length_replicate];omega
 |m+1,l,k,hl,h=>by
  rcases List.eq_nil_or_concat l with rfl|⟨t,c,rfl⟩
  ·simp at hl
  ·rw[List.concat_eq_append] at*
   have htl:t.length=m:=by simpa using hl
   have hc:=h.last
   have e0:toI (t++[c]++List.replicate k 48)=toI t++(c.toNat:Int)::toI (List.replicate k 48):=by
    rw[zbs,zbs,List.append_assoc];rfl
   have e1:rd (toI (t++[c]++List.replicate k 48)) (m:Int)=(c.toNat:Int):=by
    have:=zdX (toI t) (c.toNat:Int) (toI (List.replicate k 48))
    rw[zbO,htl] at this
    rw[e0,this]
   have e2: ∀v:Int,(toI (t++[c]++List.replicate k 48)).set m v=toI t++v::toI (List.replicate k 48):=by
    intro v
    have:=set_mid (toI t) (c.toNat:Int) v (toI (List.replicate k 48))
    rw[zbO,htl] at this
    rw[e0,this]
   unfold upGo
   rw[e1,e2,e2]
   by_cases h9:(c.toNat:Int)<57
   ·rw[if_pos h9]
    have hd:dig c+1<10:=by unfold dig;omega
    refine⟨t++[ch (dig c+1)]++List.replicate k 48,?_,?_,?_,?_⟩
    ·have e5:((ch (dig c+1)).toNat:Int)=c.toNat+1:=by rw[zbH hd];unfold dig;omega
     rw[zbs,zbs,List.append_assoc]
     show _=toI t++((ch (dig c+1)).toNat:Int)::toI (List.replicate k 48)
     rw[e5]
    ·intro x hx
     rcases List.mem_append.1 hx with h'|h'
     ·rcases List.mem_append.1 h' with h'|h'
      ·exact h.left x h'
      ·rw[List.mem_singleton.1 h',zbH hd];omega
     ·rw[List.eq_of_mem_replicate h'];exact⟨by decide,by decide⟩
    ·rw[val_append,zcG,zbG,zbG,zbK hd,List.length_replicate];rfl
    ·simp;omega
   ·rw[if_neg h9]
    obtain⟨r,r1,r2,r3,r4⟩:=zhG m t (k+1) htl h.left
    have e6:toI t++(48:Int)::toI (List.replicate k 48)=toI (t++List.replicate (k+1) 48):=by rw[zbs,List.replicate_succ];rfl
    refine⟨r,by rw[e6,r1],r2,?_,by omega⟩
    have e7:dig c=9:=by unfold dig;omega
    rw[r3,zbG,e7,Nat.pow_succ,Nat.mul_comm (10^k) 10,<-Nat.mul_assoc]
    congr 1
    omega
theorem zi4{l:List UInt8}(h:AllD l)(hl:l.length<=100000): ∃r,zbx.f (S l)=some (S r)/\AllD r/\val r=val l+1/\r.length<=l.length+1:=by
 obtain⟨r,r1,r2,r3,r4⟩:=zhG l.length l 0 rfl h;rw[List.replicate_zero,List.append_nil] at r1;refine⟨r,?_,r2,by rw[r3,Nat.pow_zero,Nat.mul_one],by omega⟩;unfold zbx.f;rw[zet,zat,r1,if_pos hl,zcH]
theorem zb2(a:List UInt8)(n:Nat):(S a).extract 0 n=S (a.take n):=by
 rw[<-S_L ((S a).extract 0 n),zdh,L_S,List.drop_zero,Nat.sub_zero]
theorem zgl(a:List UInt8)(n:Nat):(S a).extract n (S a).size=S (a.drop n):=by
 rw[<-S_L ((S a).extract n (S a).size),zdh,L_S,zat];congr 1;apply List.take_of_length_le;rw[List.length_drop];omega
theorem zdI{a:List UInt8}{p:Int}(ha:AllD a)(hl:a.length<=4000)(hp: -100000<=p/\p<=100000)(n:Nat)(hn:n<a.length)(b:Bool)(hb:b=decide (downP a n)):
 Ev (λk=>zaz.j1 k (n:Int) (S (a.take n)) b (S a) p) (decS (roundN a p n)):=by
 (have hlen:(a.take n).length=n:=by rw[List.length_take];omega);unfold roundN;rw[if_neg (show¬(n:Int)<0 by omega),if_neg (show¬(a.length:Int)<=n by omega),Int.toNat_natCast];by_cases hd:downP a n
 ·rw[if_pos hd];have hf:=zcR (S (a.take n)) p (by rw[zat];omega) (by omega) (by omega);rw[L_S,zbT (ha.take n),hlen] at hf;refine Ev.step (λk=>?_) (Ev.now _);simp only[zaz.j1];rw[if_pos (by rw[hb];exact decide_eq_true hd),hf,Option.bind_some]
 ·rw[if_neg hd];obtain⟨r,r1,r2,r3,r4⟩:=zi4 (ha.take n) (by omega);have hf:=zcR (S r) (p+r.length-n) (by rw[zat];omega) (by omega) (by omega);rw[L_S,zbT r2,r3,show p+(r.length:Int)-n-r.length=p-n by omega] at hf;refine Ev.step (λk=>?_) (Ev.now _);simp only[zaz.j1];rw[if_neg (by rw[hb,decide_eq_false hd];exact λh=>by cases h),r1,Option.bind_some,zat,zaL (x:=p+(r.length:Int)) (by omega) (by omega),zaL (x:=p+(r.length:Int)-n) (by omega) (by omega),hf,Option.bind_some]
theorem zhq{a:List UInt8}{p:Int}(ha:InForm a p)(hl:a.length<=4000)(hp: -100000<=p/\p<=100000)(n:Nat)(hn:n<a.length)(odd:Bool)(ho:odd=decide (val (a.take n)%2=1)):
 Ev (λk=>zaz.j0 k (n:Int) (S (a.take n)) (S (a.drop n)) odd (S a) p) (decS (roundN a p n)):=by
 have hdl:(a.drop n).length=a.length-n:=List.length_drop;have h5:=zi3 (ha.1.drop n) (zfC n a ha.2.2.1) (λe=>by rw[e,List.length_nil] at hdl;omega);rw[hdl] at h5;by_cases c1:Op.bytesLess (a.drop n) [53]=true
 ·refine Ev.step (λk=>?_) (zdI ha.1 hl hp n hn true (by symm;exact decide_eq_true (.inl (h5.1.1 c1))));simp only[zaz.j0];rw[zbe,L_S,if_pos c1]
 ·by_cases c2:a.drop n=[53]
  ·refine Ev.step (λk=>?_) (zdI ha.1 hl hp n hn (!odd) ?_)
   ·simp only[zaz.j0];rw[zbe,L_S,if_neg c1,if_pos c2]
   ·have h6:=h5.2.1 c2;by_cases c3:val (a.take n)%2=1
    ·rw[ho,decide_eq_true c3,decide_eq_false]
     ·rfl
     ·rintro(h7|⟨_,h7⟩)<;>omega
    ·rw[ho,decide_eq_false c3,decide_eq_true (show downP a n from .inr ⟨h6,by omega⟩)];rfl
  ·refine Ev.step (λk=>?_) (zdI ha.1 hl hp n hn false ?_)
   ·simp only[zaz.j0];rw[zbe,L_S,if_neg c1,if_neg c2]
   ·rw[decide_eq_false];rintro(h7|⟨h7,_⟩)
    ·exact c1 (h5.1.2 h7)
    ·exact c2 (h5.2.2 h7)
theorem round_eq{a:List UInt8}{p:Int}(ha:InForm a p)(hl:a.length<=4000)(hp: -100000<=p/\p<=100000)(n:Int):Ev (λk=>zaz.f k (S a) p n) (decS (roundN a p n)):=by
 unfold zaz.f;by_cases c1:n<0
 ·(have e:roundN a p n=([],0):=by unfold roundN;rw[if_pos c1]);rw[e];exact Ev.congr (λk=>by rw[if_pos c1];rfl) (Ev.now _)
 ·by_cases c2:n>=(a.length:Int)
  ·(have e:roundN a p n=(a,p):=by unfold roundN;rw[if_neg c1,if_pos c2]);rw[e];exact Ev.congr (λk=>by rw[if_neg c1,zat,if_pos c2];rfl) (Ev.now _)
  ·obtain⟨m,rfl⟩: ∃m:Nat,n=(m:Int):=⟨n.toNat,by omega⟩;(have hm:m<a.length:=by omega);have key: ∀odd:Bool,odd=decide (val (a.take m)%2=1)->Ev (λk=>zaz.j0 k (m:Int) ((S a).extract 0 m) ((S a).extract m (S a).size) odd (S a) p) (decS (roundN a p m)):=by
    intro odd ho;rw[zb2,zgl];exact zhq ha hl hp m hm odd ho
   by_cases c3:(m:Int)>0
   ·refine Ev.congr (λk=>?_) (key (((((bt ((S a).extract 0 m) ((m:Int)-1))-48)%256)%2)==1) ?_)
    ·rw[if_neg c1,if_neg (by rw[zat];omega),if_pos (by omega),if_pos (by rw[zat];omega),if_pos c3,zaL (x:=(m:Int)-1) (by omega) (by omega),if_pos (by omega),Int.toNat_natCast,if_pos (by rw[zb2,zat,List.length_take];omega)]
    ·rw[zb2];obtain⟨j,rfl⟩: ∃j,m=j+1:=⟨m-1,by omega⟩;(have ej:((j+1:Nat):Int)-1=(j:Int):=by omega);(have hj:j<a.length:=by omega);rw[ej,bt_L _ j (by rw[zat,List.length_take];omega)];simp only[L_S,List.getElem_take];have etk:a.take (j+1)=a.take j++[a[j]]:=List.take_succ_eq_append_getElem hj;have hx:=ha.1 a[j] (List.getElem_mem hj);(have ev:val (a.take (j+1))=10*val (a.take j)+dig a[j]:=by rw[etk,zbG]);rw[ev];(have e3:((a[j].toNat:Int)-48)%256%2=(((10*val (a.take j)+dig a[j])%2:Nat):Int):=by unfold dig;omega);rw[e3];by_cases c4:(10*val (a.take j)+dig a[j])%2=1
     ·rw[c4];rfl
     ·rw[show(10*val (a.take j)+dig a[j])%2=0 by omega];rfl
   ·(have h0:m=0:=by omega);subst h0;refine Ev.congr (λk=>?_) (key false (by rw[List.take_zero,zba];rfl));rw[if_neg c1,if_neg (by rw[zat];omega),if_pos (by omega),if_pos (by rw[zat];omega),if_neg c3];rfl
def roundS(s:ByteArray)(p:Int)(n:Int->Int):ByteArray×Int×Int:=
  if(normS s p).2.2=0 then((decS (roundN (L (normS s p).1) (normS s p).2.1 (n (normS s p).2.1))).1,(decS (roundN (L (normS s p).1) (normS s p).2.1 (n (normS s p).2.1))).2,0) else((⟨#[]⟩:ByteArray),0,(normS s p).2.2)
theorem zew(s:ByteArray)(p n:Int):Ev (λk=>za7.f k s p n) (roundS s p λ_=>n):=by
 unfold za7.f roundS;refine Ev.bind (zcS s p) ?_;rcases zbL s p with⟨e,h1,h2,_⟩|⟨l,u,h1,A,b1,b2,b3,_⟩
 ·rw[h1,if_neg h2];exact Ev.congr (λk=>by rw[if_neg h2]) (Ev.now _)
 ·rw[h1,if_pos rfl];exact Ev.congr (λk=>by rw[if_pos rfl]) (Ev.bind (f:=λ_ bt=>some (bt.1,bt.2,0)) (round_eq A (by omega) (by omega) n) (Ev.now _))
theorem ziN(n:Int):mx (-20000) (mn n 20000)=max (-20000) (min n 20000):=by
 unfold mx mn;split<;>split<;>omega
theorem zf3(s:ByteArray)(p n:Int):Ev (λk=>zbp.f k s p n) (roundS s p λu=>u+max (-20000) (min n 20000)):=by
 unfold zbp.f roundS;refine Ev.bind (zcS s p) ?_;rcases zbL s p with⟨e,h1,h2,_⟩|⟨l,u,h1,A,b1,b2,b3,_⟩
 ·rw[h1,if_neg h2];exact Ev.congr (λk=>by rw[if_neg h2]) (Ev.now _)
 ·rw[h1,if_pos rfl];refine Ev.congr (λk=>by rw[if_pos rfl,ziN,zaL (x:=u+max (-20000) (min n 20000)) (by omega) (by omega)]) (Ev.bind (f:=λ_ bt=>some (bt.1,bt.2,0)) (round_eq A (by omega) (by omega) (u+max (-20000) (min n 20000))) (Ev.now _))
end Go.Proofs.YtilidabdbhaljaaGreatDoor.Pure
end
section
namespace Go.Proofs.YtilidabdbhaljaaGreatDoor.Pure
open Go.RowKit Go.Proofs.YtilidabdbhaljaaGreatDoorW.PrintWords
def Asc(l:List UInt8):Prop:= ∀c∈l,c.toNat<128
instance (l : List UInt8) : Decidable (Asc l) := by unfold Asc; infer_instance
theorem Asc.nil:Asc []:=λc h=>by cases h
theorem Asc.app{a b:List UInt8}(ha:Asc a)(hb:Asc b):Asc (a++b):=λc h=>(List.mem_append.1 h).elim (ha c) (hb c)
theorem Asc.cons{a:UInt8}{b:List UInt8}(ha:a.toNat<128)(hb:Asc b):Asc (a::b):=λc h=>(List.mem_cons.1 h).elim (λe=>e▸ha) (hb c)
theorem Asc.take{a:List UInt8}(h:Asc a)(n:Nat):Asc (a.take n):=λc hc=>h c (List.mem_of_mem_take hc)
theorem Asc.drop{a:List UInt8}(h:Asc a)(n:Nat):Asc (a.drop n):=λc hc=>h c (List.mem_of_mem_drop hc)
theorem Asc.rep(n:Nat){a:UInt8}(ha:a.toNat<128):Asc (List.replicate n a):=λc hc=>by rw[(List.mem_replicate.1 hc).2];exact ha
theorem AllD.asc{l:List UInt8}(h:AllD l):Asc l:=λc hc=>by have:=h c hc;omega
def zsL(n:Nat):List UInt8:=List.replicate n 48
theorem zcs(n:Nat):Asc (zsL n):=Asc.rep n (by decide)
theorem zbk(n:Nat):(zsL n).length=n:=List.length_replicate
def dch(n:Nat):UInt8:=if n<10 then UInt8.ofNat (48+n) else UInt8.ofNat (87+n)
theorem zfD{n:Nat}(h:n<16):(dch n).toNat<128:=by
 unfold dch;split<;>rw[UInt8.toNat_ofNat']<;>omega
def bF(b:Nat):Nat->Nat->List UInt8
  |0,n=>[dch (n%b)]
  |k+1,n=>if n / b=0 then [dch (n%b)] else bF b k (n / b)++[dch (n%b)]
def bT(b n:Nat):List UInt8:=bF b 63 n
theorem zgA{b:Nat}(h:0<b/\b<=16): ∀k n,Asc (bF b k n)
 |0,n=>Asc.cons (zfD (Nat.lt_of_lt_of_le (Nat.mod_lt _ h.1) h.2)) Asc.nil
 |k+1,n=>by
  have hd:=zfD (Nat.lt_of_lt_of_le (Nat.mod_lt n h.1) h.2)
  unfold bF
  split
  ·exact Asc.cons hd Asc.nil
  ·exact(zgA h k _).app (Asc.cons hd Asc.nil)
theorem ze1{b:Nat}(h:0<b/\b<=16)(n:Nat):Asc (bT b n):=zgA h 63 n
theorem zgB(b:Nat): ∀k n,(bF b k n).length<=k+1
 |0,n=>Nat.le_refl _
 |k+1,n=>by
  unfold bF
  split
  ·exact Nat.le_add_left _ _
  ·rw[List.length_append];exact Nat.succ_le_succ (zgB b k _)
theorem ze2(b:Nat): ∀k n j,n<b^(j+1)->(bF b k n).length<=j+1
 |0,n,j,h=>Nat.le_add_left _ _
 |k+1,n,j,h=>by
  unfold bF
  by_cases c:n / b=0
  ·rw[if_pos c];exact Nat.le_add_left _ _
  ·rw[if_neg c,List.length_append]
   cases j with
   |zero=>
    rw[Nat.pow_one] at h
    exact absurd (Nat.div_eq_of_lt h) c
   |succ j=>
    refine Nat.succ_le_succ (ze2 b k _ j ?_)
    rw[Nat.pow_succ] at h
    exact Nat.div_lt_of_lt_mul (by rw[Nat.mul_comm];exact h)
def fillL(l:List UInt8)(n:Int):List UInt8:=l++zsL (n-l.length).toNat
theorem zbE{l:List UInt8}(h:Asc l)(n:Int):Asc (fillL l n):=h.app (zcs _)
theorem zbj(l:List UInt8)(n:Int):((fillL l n).length:Int)=max (l.length:Int) n:=by
 unfold fillL;rw[List.length_append,zbk];omega
def powL(sign:List UInt8)(e:Int)(least:Int):List UInt8:=sign++((if e<0 then [45] else [43])++(zsL (least-(bT 10 e.natAbs).length).toNat++bT 10 e.natAbs))
theorem zc5{s:List UInt8}(h:Asc s)(e least:Int):Asc (powL s e least):=by
 unfold powL;refine h.app (Asc.app ?_ ((zcs _).app (ze1 (by decide) _)));split<;>exact Asc.cons (by decide) Asc.nil
def ptL(dot:Bool)(a b:List UInt8):List UInt8:=if b=[]/\dot=false then a else a++(46::b)
theorem zca{a b:List UInt8}(ha:Asc a)(hb:Asc b)(dot:Bool):Asc (ptL dot a b):=by
 unfold ptL;split
 ·exact ha
 ·exact ha.app (Asc.cons (by decide) hb)
def eMark(big:Bool):List UInt8:=if big then [69] else [101]
theorem zgC(big:Bool):Asc (eMark big):=by cases big<;>exact Asc.cons (by decide) Asc.nil
def sciL(dot big:Bool)(l:List UInt8)(e:Int):List UInt8:=ptL dot (l.take 1) (l.drop 1)++powL (eMark big) e 2
theorem zhr{l:List UInt8}(h:Asc l)(dot big:Bool)(e:Int):Asc (sciL dot big l e):=(zca (h.take 1) (h.drop 1) dot).app (zc5 (zgC big) e 2)
def firstL(d:List UInt8×Int):Int:=if d.1=[] then 0 else d.2-1
def aroundL(dot:Bool)(l:List UInt8)(p:Int):List UInt8:=if p<=0 then ptL dot [48] (zsL (-p).toNat++l) else ptL dot ((fillL l p).take p.toNat) ((fillL l p).drop p.toNat)
theorem zfm{l:List UInt8}(h:Asc l)(dot:Bool)(p:Int):Asc (aroundL dot l p):=by
 unfold aroundL;split
 ·exact zca (Asc.cons (by decide) Asc.nil) ((zcs _).app h) dot
 ·exact zca ((zbE h p).take _) ((zbE h p).drop _) dot
def scaledL(dot big:Bool)(v:List UInt8×Int)(p:Int):List UInt8:=sciL dot big (fillL (roundN v.1 v.2 (p+1)).1 (p+1)) (firstL (roundN v.1 v.2 (p+1)))
def fixedL(dot:Bool)(v:List UInt8×Int)(p:Int):List UInt8:=
  if(roundN v.1 v.2 (v.2+p)).1=[] then ptL dot [48] (zsL p.toNat)
  else if(roundN v.1 v.2 (v.2+p)).2<=0 then ptL dot [48] (fillL (zsL (-(roundN v.1 v.2 (v.2+p)).2).toNat++(roundN v.1 v.2 (v.2+p)).1) p)
  else aroundL dot (fillL (roundN v.1 v.2 (v.2+p)).1 ((roundN v.1 v.2 (v.2+p)).2+p)) (roundN v.1 v.2 (v.2+p)).2
def genL(dot big:Bool)(d:List UInt8×Int)(keep top:Int):List UInt8:=
  let l:=if d.1=[] then [48] else d.1
  let m:=if dot then fillL l keep else l
  if firstL d< -4\/firstL d>=top then sciL dot big m (firstL d) else aroundL dot m (firstL d+1)
def binL(m:Nat)(e:Int):List UInt8:=bT 10 m++powL [112] e 1
end Go.Proofs.YtilidabdbhaljaaGreatDoor.Pure
end
section
namespace Go.Proofs.YtilidabdbhaljaaGreatDoor.Pure
open Go.RowKit Go.Proofs.YtilidabdbhaljaaGreatDoorW.PrintWords Go.Proofs.YtilidabdbhaljaaGreatDoorW.PrintLast Go.Proofs.YtilidabdbhaljaaGreatDoorW.PrintMore Go.Proofs.YtilidabdbhaljaaGreatDoor.Fn
theorem zbC(a b:List UInt8):S a++S b=S (a++b):=by
 rw[<-S_L (S a++S b)];congr 1
theorem zeg(a:List UInt8)(n:Nat):(S a).extract n (S a).size=S (a.drop n):=by
 rw[<-S_L ((S a).extract n (S a).size)];congr 1;unfold L;rw[ByteArray.data_extract,Array.toList_extract,zat];simp[S,List.extract_eq_take_drop,List.take_of_length_le]
theorem zcJ(a b:Int):mx a b=max a b:=by unfold mx;omega
theorem zeP(a b:Int):mn a b=min a b:=by unfold mn;omega
theorem zhH(c:UInt8): ∀n,Lib.repeatL [c] n=List.replicate n c
 |0=>rfl
 |n+1=>by rw[Lib.repeatL,zhH c n,List.replicate_succ];rfl
theorem zex(c:UInt8){n:Int}(h0:0<=n)(h1:n<=1000000):strings_Repeat.f (S [c]) n=some (S (List.replicate n.toNat c)):=by
 unfold strings_Repeat.f;rw[if_pos ⟨h0,h1,by rw[zat];exact(show(1:Nat)<=1000000 by decide)⟩];have:(S [c]).data.toList=[c]:=rfl;rw[this,zhH];rfl
theorem zcb{n:Int}(h0:0<=n)(h1:n<=1000000):strings_Repeat.f (⟨#[48]⟩:ByteArray) n=some (S (zsL n.toNat)):=zex 48 h0 h1
theorem zgD: ∀i:Nat,i<16->bt (⟨#[48,49,50,51,52,53,54,55,56,57,97,98,99,100,101,102]⟩:ByteArray) (i:Int)=((dch i).toNat:Int):=by decide
theorem zhI{b:Nat}(hb:0<b/\b<=16): ∀(k m:Nat) (l:List Int),
 dgF (⟨#[48,49,50,51,52,53,54,55,56,57,97,98,99,100,101,102]⟩:ByteArray) b (k+1) m l=toI (bF b k m)++l
 |0,m,l=>by
  have h:=zgD (m%b) (Nat.lt_of_lt_of_le (Nat.mod_lt _ hb.1) hb.2)
  rw[dgF]
  split
  ·rw[h];rfl
  ·rw[dgF,h];rfl
 |k+1,m,l=>by
  have h:=zgD (m%b) (Nat.lt_of_lt_of_le (Nat.mod_lt _ hb.1) hb.2)
  rw[dgF,bF]
  by_cases c:m / b=0
  ·rw[if_pos c,if_pos c,h];rfl
  ·rw[if_neg c,if_neg c,zhI hb k,h]
   unfold toI
   rw[List.map_append,List.append_assoc]
   rfl
theorem zey{b:Nat}(hb:2<=b/\b<=16){n:Nat}(hn:n<=18446744073709551615):
 zaZ.f (n:Int) (b:Int) (⟨#[48,49,50,51,52,53,54,55,56,57,97,98,99,100,101,102]⟩:ByteArray)=some (S (bT b n)):=by
 unfold zaZ.f;have hs:(⟨#[48,49,50,51,52,53,54,55,56,57,97,98,99,100,101,102]⟩:ByteArray).size=16:=rfl;rw[if_pos ⟨by omega,by omega,by omega,by rw[hs];omega,by rw[hs];decide⟩,Int.toNat_natCast,Int.toNat_natCast,zhI ⟨by omega,hb.2⟩,List.append_nil,zcH];rfl
theorem u64c(n:Nat)(h:n<=18446744073709551615):IntKind.u64.wrap (n:Int)=(n:Int):=IntWalk.u64_in _ ⟨by omega,by omega⟩
theorem zdJ{n:Nat}(hn:n<=18446744073709551615):zaV.f (n:Int) 10=some (S (bT 10 n)):=by
 unfold zaV.f;rw[if_neg (by decide),if_neg (by decide),if_pos rfl,show IntKind.u64.wrap (10:Int)=((10:Nat):Int) from u64c 10 (by decide),zey (by decide) hn];rfl
theorem zhs{n:Nat}(hn:n<=18446744073709551615):zaV.f (n:Int) 16=some (S (bT 16 n)):=by
 unfold zaV.f;rw[if_neg (by decide),if_neg (by decide),if_neg (by decide),if_pos rfl,show IntKind.u64.wrap (16:Int)=((16:Nat):Int) from u64c 16 (by decide),zey (by decide) hn];rfl
theorem zd0(b n:Nat):(bT b n).length<=64:=zgB b 63 n
theorem zgE(l:List (List UInt8))(h:l.length<=1000)(h2:l.flatten.length<=1000000):strings_Join.f (l.map S) (⟨#[]⟩:ByteArray)=some (S l.flatten):=by
 have e:Lib.join ((l.map S).map (·.data.toList)) (⟨#[]⟩:ByteArray).data.toList=l.flatten:=by
  have e1:(l.map S).map (·.data.toList)=l:=by
   rw[List.map_map];exact List.map_id l
  rw[e1];unfold Lib.join;have e2:(⟨#[]⟩:ByteArray).data.toList=([]:List UInt8):=rfl;rw[e2];clear h h2 e1 e2;induction l with
  |nil=>rfl
  |cons a t ih=>
   cases t with
   |nil=>simp[List.intercalate]
   |cons b u=> 
    rw[List.flatten_cons,<-ih];simp[List.intercalate,List.intersperse]
 unfold strings_Join.f;rw[if_pos ⟨by rw[List.length_map];exact h,by rw[e];exact h2⟩,e];rfl
theorem zdk(l:List (List UInt8))(h:l.length<=1000)(h2:l.flatten.length<=1000000):zas.f (l.map S)=some (S l.flatten):=by
 unfold zas.f;rw[zgE l h h2];rfl
theorem zeh{a b:List UInt8}(h:a.length+b.length<=1000000):zas.f [S a,S b]=some (S (a++b)):=by
 have:=zdk [a,b] (by simp) (by simp;omega);simpa using this
theorem zfE{a b c:List UInt8}(h:a.length+b.length+c.length<=1000000):zas.f [S a,S b,S c]=some (S (a++(b++c))):=by
 have:=zdk [a,b,c] (by simp) (by simp;omega);simpa using this
theorem zfF{a b c d:List UInt8}(h:a.length+b.length+c.length+d.length<=1000000):zas.f [S a,S b,S c,S d]=some (S (a++(b++(c++d)))):=by
 have:=zdk [a,b,c,d] (by simp) (by simp;omega);simpa using this
theorem w64{x:Int}(h1: -9223372036854775808<=x)(h2:x<=9223372036854775807):wrap64 x=x:=by unfold wrap64;omega
theorem zbZ{l:List UInt8}{n:Int}(hl:l.length<=100000)(hn: -100000<=n/\n<=100000):zaQ.f (S l) n=some (S (fillL l n)):=by
 unfold zaQ.f;rw[zat,w64 (by omega) (by omega),zcJ,zcb (by omega) (by omega),Option.bind_some,zat,zbk,if_pos (by omega),zbC];unfold fillL;rw[show(max 0 (n-(l.length:Int))).toNat=(n-(l.length:Int)).toNat by omega]
theorem zdK{s:List UInt8}{e least:Int}(hs:s.length<=1000)(he: -100000<=e/\e<=100000)(hl:0<=least/\least<=1000):za8.f (S s) e least=some (S (powL s e least)):=by
 have hb:=zd0 10 e.natAbs;unfold za8.f powL;by_cases c:e<0
 ·rw[if_pos c,if_pos c,w64 (by omega) (by omega),show(-e)=((e.natAbs:Nat):Int) by omega,u64c _ (by omega),zdJ (by omega)];simp only[Option.bind_some];rw[zat,w64 (by omega) (by omega),zcJ,zcb (by omega) (by omega)];simp only[Option.bind_some];rw[show(⟨#[45]⟩:ByteArray)=S [45] from rfl,zfF (by rw[zbk];simp;omega)];rw[show(max 0 (least-((bT 10 e.natAbs).length:Int))).toNat=(least-((bT 10 e.natAbs).length:Int)).toNat by omega];rfl
 ·rw[if_neg c,if_neg c,show e=((e.natAbs:Nat):Int) by omega,u64c _ (by omega),Int.natAbs_natCast,zdJ (by omega)];simp only[Option.bind_some];rw[zat,w64 (by omega) (by omega),zcJ,zcb (by omega) (by omega)];simp only[Option.bind_some];rw[show(⟨#[43]⟩:ByteArray)=S [43] from rfl,zfF (by rw[zbk];simp;omega)];rw[show(max 0 (least-((bT 10 e.natAbs).length:Int))).toNat=(least-((bT 10 e.natAbs).length:Int)).toNat by omega];rfl
theorem zbF(l:List UInt8):(S l).toList=([]:List UInt8)↔l=[]:=by rw[zbe,L_S]
theorem zbP(x0 x1 x2 x3 x4 x6:Int)(dot:Bool){a b:List UInt8}(h:a.length+b.length<=500000):zax.f x0 x1 x2 x3 x4 dot x6 (S a) (S b)=some (S (ptL dot a b)):=by
 have hj:zas.f [S a,(⟨#[46]⟩:ByteArray),S b]=some (S (a++(46::b))):=by
  rw[show(⟨#[46]⟩:ByteArray)=S [46] from rfl,zfE (by simp;omega)];rfl
 unfold zax.f ptL;by_cases c:b=[]
 ·rw[if_pos ((zbF b).2 c)];cases dot with
  |true=>rw[if_pos rfl,hj,if_neg (by simp)];rfl
  |false=>rw[if_neg (by simp),if_pos ⟨c,rfl⟩]
 ·rw[if_neg (λe=>c ((zbF b).1 e)),hj,if_neg (λe=>c e.1)];rfl
theorem zb0(dot:Bool)(a b:List UInt8):(ptL dot a b).length<=a.length+b.length+1:=by
 unfold ptL;split
 ·omega
 ·simp;omega
theorem zcc(s:List UInt8){e least:Int}(hl:0<=least/\least<=1000):(powL s e least).length<=s.length+1100:=by
 have hb:=zd0 10 e.natAbs;unfold powL;rw[List.length_append,List.length_append,List.length_append,zbk];(have:(if e<0 then([45]:List UInt8) else [43]).length=1:=by split<;>rfl);omega
def bigV(v:Int):Bool:=v==69||v==71
theorem zgF(x0 x1 x2 x3 x4 v:Int)(dot:Bool){l:List UInt8}{e:Int}(hn:l≠[])(hl:l.length<=100000)(he: -100000<=e/\e<=100000):
 Ev (λk=>zak.f k x0 x1 x2 x3 x4 dot v (S l) e) (S (sciL dot (bigV v) l e)):=by
 have h1:1<=l.length:=Nat.succ_le_of_lt (List.length_pos_iff.2 hn);have hp:=zbP x0 x1 x2 x3 x4 v dot (a:=l.take 1) (b:=l.drop 1) (by rw[List.length_take,List.length_drop];omega);have hlen:=zb0 dot (l.take 1) (l.drop 1);rw[List.length_take,List.length_drop] at hlen;have key: ∀big:Bool,Ev (λk=>zak.j0 k (S l) e (⟨#[101]⟩:ByteArray) big x0 x1 x2 x3 x4 dot v) (S (sciL dot big l e)):=by
  intro big;have hw:=zcc (eMark big) (e:=e) (least:=2) (by decide);(have hm:(eMark big).length=1:=by cases big<;>rfl);have hq:=zdK (s:=eMark big) (e:=e) (least:=2) (by omega) he (by decide);refine Ev.step (f:=λ_=>some (S (sciL dot big l e))) (λk=>?_) (Ev.now _);simp only[zak.j0];rw[zat,zb2,<-zat l,zeg,zat,hp];cases big with
  |true=>
   rw[if_pos rfl,if_pos (by decide),if_pos (by omega)];simp only[Option.bind_some];rw[show(⟨#[69]⟩:ByteArray)=S (eMark true) from rfl,hq];simp only[Option.bind_some];rw[zeh (by omega)];rfl
  |false=>
   rw[if_neg (by simp),if_pos (by decide),if_pos (by omega)];simp only[Option.bind_some];rw[show(⟨#[101]⟩:ByteArray)=S (eMark false) from rfl,hq];simp only[Option.bind_some];rw[zeh (by omega)];rfl
 unfold zak.f;by_cases c:v=69
 ·refine Ev.congr (λk=>if_pos c) ?_;(have:bigV v=true:=by unfold bigV;rw[c];rfl);rw[this];exact key true
 ·refine Ev.congr (λk=>if_neg c) ?_;(have:bigV v=(v==71):=by unfold bigV;rw[beq_eq_false_iff_ne.mpr c];rfl);rw[this];exact key _
theorem zdL(l:List UInt8){p:Int}(hp: -100000<=p/\p<=100000):zbg.f (S l) p=some (firstL (l,p)):=by
 unfold zbg.f firstL;by_cases c:l=[]
 ·rw[if_pos ((zbF l).2 c),if_pos c]
 ·rw[if_neg (λe=>c ((zbF l).1 e)),if_neg c,w64 (by omega) (by omega)]
theorem zez(x0 x1 x2 x3 x4 x6:Int)(dot:Bool){l:List UInt8}{p:Int}(hl:l.length<=100000)(hp: -100000<=p/\p<=100000):zar.f x0 x1 x2 x3 x4 dot x6 (S l) p=some (S (aroundL dot l p)):=by
 unfold zar.f aroundL;by_cases c:p<=0
 ·rw[if_pos c,if_pos c,w64 (by omega) (by omega),zcb (by omega) (by omega)];simp only[Option.bind_some];rw[zat,zat,zbk,if_pos (by omega),zbC,show(⟨#[48]⟩:ByteArray)=S [48] from rfl,zbP _ _ _ _ _ _ _ (by rw[List.length_append,zbk];simp;omega)];rfl
 ·have hf:=zbj l p;rw[if_neg c,if_neg c,zbZ hl hp];simp only[Option.bind_some];rw[zat,if_pos (by omega),if_pos (by omega),zb2,<-zat (fillL l p),zeg,zbP _ _ _ _ _ _ _ (by rw[List.length_take,List.length_drop];omega)];rfl
theorem zgG(x0 x1 x4 x6:Int)(dot:Bool){m:Nat}{e:Int}(hm:m<=18446744073709551615)(he: -100000<=e/\e<=100000):zaE.f x0 x1 (m:Int) e x4 dot x6=some (S (binL m e)):=by
 have hb:=zd0 10 m;have hw:=zcc ([112]:List UInt8) (e:=e) (least:=1) (by decide);unfold zaE.f binL;rw[zdJ hm];simp only[Option.bind_some];rw[show(⟨#[112]⟩:ByteArray)=S [112] from rfl,zdK (by decide) he (by decide)];simp only[Option.bind_some];rw[zeh (by simp at hw;omega)];rfl
def sixL(n:Nat):List UInt8:=zsL (16-(bT 16 n).length)++bT 16 n
theorem ze3{n:Nat}(hn:n<=18446744073709551615):(bT 16 n).length<=16:=ze2 16 63 n 15 (by omega)
theorem zdM{n:Nat}(hn:n<=18446744073709551615):(sixL n).length=16:=by
 have:=ze3 hn;unfold sixL;rw[List.length_append,zbk];omega
theorem ze4{n:Nat}(hn:n<=18446744073709551615):zaR.f (n:Int)=some (S (sixL n)):=by
 have hb:=ze3 hn;unfold zaR.f sixL;rw[zhs hn];simp only[Option.bind_some];rw[zat,w64 (by omega) (by omega),zcb (by omega) (by omega)];simp only[Option.bind_some];rw[zat,zbk,if_pos (by omega),zbC,show((16:Int)-((bT 16 n).length:Int)).toNat=16-(bT 16 n).length by omega]
theorem zfG(c:UInt8)(n:Int):zbh.f (c.toNat:Int) n=some (S (List.replicate (min n 1000).toNat c)):=by
 unfold zbh.f;have e:strOfNums [(c.toNat:Int)]=S [c]:=zcH [c];rw[e,zcJ,zeP,zex c (by omega) (by omega),show(max 0 (min n 1000)).toNat=(min n 1000).toNat by omega];rfl
def padL(l:List UInt8)(minus zero:Bool)(wid:Int):List UInt8:=
  if minus then l++List.replicate (max 0 (min wid 1000)-l.length).toNat 32 else if zero then List.replicate (max 0 (min wid 1000)-l.length).toNat 48++l else List.replicate (max 0 (min wid 1000)-l.length).toNat 32++l
theorem zht{l:List UInt8}(h:Asc l)(hl:l.length<=1000000):zbD.f (S l)=some (l.length:Int):=by
 have ha:(S l).data.toList.all (λb=>b.toNat<128)=true:=List.all_eq_true.2 (λc hc=>decide_eq_true (h c hc));unfold zbD.f;rw[if_pos ⟨by rw[zat];exact hl,ha⟩,zat]
theorem zgH{l:List UInt8}(h:Asc l)(hl:l.length<=900000)(p m s sp z:Bool)(wid prec v:Int):zbi.f (S l) p m s sp z wid prec v=some (S (padL l m z wid)):=by
 unfold zbi.f padL;rw[zht h (by omega)];simp only[Option.bind_some];rw[zcJ,zeP,w64 (by omega) (by omega)];have hf:=λc:UInt8=>zfG c (max 0 (min wid 1000)-(l.length:Int));(have hm:(min (max 0 (min wid 1000)-(l.length:Int)) 1000).toNat=(max 0 (min wid 1000)-(l.length:Int)).toNat:=by omega);rw[hm] at hf;have A:=hf 32;have B:=hf 48;rw[show(((32:UInt8).toNat:Nat):Int)=32 from rfl] at A;rw[show(((48:UInt8).toNat:Nat):Int)=48 from rfl] at B;by_cases c:max 0 (min wid 1000)-(l.length:Int)<=0
 ·(have e0:(max 0 (min wid 1000)-(l.length:Int)).toNat=0:=by omega);rw[if_pos c,e0];simp
 ·rw[if_neg c,A,B];simp only[Option.bind_some,zat,List.length_replicate];cases m with
  |true=>rw[if_pos rfl,if_pos (by omega),zbC];simp
  |false=>
   cases z with
   |true=>rw[if_neg (by simp),if_pos rfl,if_pos (by omega),zbC];simp
   |false=>rw[if_neg (by simp),if_neg (by simp),if_pos (by omega),zbC];simp
end Go.Proofs.YtilidabdbhaljaaGreatDoor.Pure
end
section
namespace Go.Proofs.YtilidabdbhaljaaGreatDoor.Pure
open Go.RowKit Go.Proofs.YtilidabdbhaljaaGreatDoorW.PrintWords Go.Proofs.YtilidabdbhaljaaGreatDoor.Fn
theorem zfH{l:List UInt8}(h:AllD l):l.all isD=true:=List.all_eq_true.2 λc hc=>(zdp c).2 (h c hc)
theorem zf4{l:List UInt8}{p:Int}(h:InForm l p):formL l p=(l,p):=by rw[zbT h.1,zdg h]
theorem zbU{l:List UInt8}{p:Int}(h:InForm l p)(hl:l.length<=2000)(hp: -5000<=p/\p<=5000):normS (S l) p=(S l,p,0):=by
 unfold normS normTail;rw[if_neg (by rw[zat];omega),L_S,if_pos (zfH h.1),if_neg (by omega),if_neg (by omega),zf4 h];rfl
theorem zh9{a b:List UInt8}{p q:Int}(ha:InForm a p)(hb:InForm b q)(h1:a.length<=2000/\ -5000<=p/\p<=5000)(h2:b.length<=2000/\ -5000<=q/\q<=5000):addS (S a) p (S b) q=addD a p b q:=by
 unfold addS;rw[zbU ha h1.1 h1.2,zbU hb h2.1 h2.2,if_pos rfl,if_pos rfl];show addD (L (S a)) p (L (S b)) q=_;rw[L_S,L_S]
theorem zia{a b:List UInt8}{p q:Int}(ha:InForm a p)(hb:InForm b q)(h1:a.length<=2000/\ -5000<=p/\p<=5000)(h2:b.length<=2000/\ -5000<=q/\q<=5000):cmpS (S a) p (S b) q=(cmpD a p b q,0):=by
 unfold cmpS;rw[zbU ha h1.1 h1.2,zbU hb h2.1 h2.2,if_pos rfl,if_pos rfl];show(cmpD (L (S a)) p (L (S b)) q,(0:Int))=_;rw[L_S,L_S]
theorem zgI(k j:Nat):(10:Nat)^(k+j)=10^k*(2^j*5^j):=by
 rw[Nat.pow_add,<-Nat.mul_pow]
theorem ze5(n:Nat)(x:Int)(V:Nat)(h: -(V:Int)<=x):decOf n x=decOf (n*10^(x+V).toNat) (-(V:Int)):=by
 have:=zcO n (x+V).toNat x;rw[<-this];congr 1;omega
theorem zcK(m n U V:Nat)(e x:Int)(hU: -(U:Int)<=e)(hV:U<=V)(hx: -(V:Int)<=x):
 cmpD (decOf (m*eBase e^e.natAbs) (eLim e)).1 (decOf (m*eBase e^e.natAbs) (eLim e)).2 (decOf n x).1 (decOf n x).2=cmpN (m*2^(e+U).toNat*10^V) (n*10^(x+V).toNat*2^U):=by
 (have he: -(V:Int)<=eLim e:=by unfold eLim;split<;>omega);rw[ze5 _ (eLim e) V he,ze5 n x V hx,zgz,<-zeY _ _ (2^U) (Nat.pow_pos (by omega))];congr 1;unfold eLim eBase;by_cases c:e<0
 ·rw[if_pos c,if_pos c];obtain⟨j,rfl⟩: ∃j:Nat,e= -(j:Int):=⟨e.natAbs,by omega⟩;(have e1:(-(j:Int)).natAbs=j:=by omega);(have e2:(-(j:Int)+(V:Int)).toNat=V-j:=by omega);(have e3:(-(j:Int)+(U:Int)).toNat=U-j:=by omega);rw[e1,e2,e3];obtain⟨u,rfl⟩: ∃u,U=u+j:=⟨U-j,by omega⟩;obtain⟨v,rfl⟩: ∃v,V=v+j:=⟨V-j,by omega⟩;rw[Nat.add_sub_cancel,Nat.add_sub_cancel,zgI,Nat.pow_add];simp only[Nat.mul_assoc,Nat.mul_comm,Nat.mul_left_comm]
 ·rw[if_neg c,if_neg c];obtain⟨j,rfl⟩: ∃j:Nat,e=(j:Int):=⟨e.natAbs,by omega⟩;(have e1:((j:Int)).natAbs=j:=by omega);(have e2:((0:Int)+(V:Int)).toNat=V:=by omega);(have e3:((j:Int)+(U:Int)).toNat=j+U:=by omega);rw[e1,e2,e3,Nat.pow_add];simp only[Nat.mul_assoc,Nat.mul_comm,Nat.mul_left_comm]
def vvGo(n:Nat):Nat:=if n=0 then 20000 else vvGo (n / 2)
def vv:Nat:=vvGo 0
theorem zdu:vv=20000:=by unfold vv;rw[vvGo];rfl
def CC:Nat:=10^vv
theorem ze6:0<CC:=Nat.pow_pos (by omega)
def uu(wide:Bool):Nat:=ll wide+1
def dX(wide:Bool)(n:Nat)(x:Int):Nat:=n*10^(x+vv).toNat*2^uu wide
def flo(wide:Bool)(X:Nat):Nat:=if fW (ff wide) (ii wide)*(2*CC)<=X then ii wide else fFind (ff wide) X (2*CC) 64 0
def rdX(wide:Bool)(X:Nat):Nat:=fNear (ff wide) (ii wide) X (2*CC) (flo wide X)
theorem ze7(wide:Bool)(X:Nat):fFloor (ff wide) (ii wide) X (2*CC) (flo wide X):=by
 unfold flo;by_cases c:fW (ff wide) (ii wide)*(2*CC)<=X
 ·rw[if_pos c];exact⟨Nat.le_refl _,c,λh=>absurd h (Nat.lt_irrefl _)⟩
 ·rw[if_neg c];obtain⟨h1,h2,h3,h4⟩:=zc3 (ff wide) X (2*CC) 64 0 (by rw[zh5];omega);have hi:=(zeN wide).2.2;(have e:(2:Nat)^64=18446744073709551616:=by decide);have h5:fW (ff wide) (ii wide)*(2*CC)<=fW (ff wide) (0+2^64)*(2*CC):=Nat.mul_le_mul_right _ (zfZ (by omega));have h6:=h2 (by omega);generalize fFind (ff wide) X (2*CC) 64 0=q at*
  refine⟨?_,h1,λ_=>h6⟩;by_cases c2:ii wide<=q
  ·have:=Nat.mul_le_mul_right (2*CC) (zfZ (f:=ff wide) c2);omega
  ·omega
end Go.Proofs.YtilidabdbhaljaaGreatDoor.Pure
end
section
namespace Go.Proofs.YtilidabdbhaljaaGreatDoor.Fn
open Go.RowKit Go.Proofs.YtilidabdbhaljaaGreatDoorW.PrintWords Go.Proofs.YtilidabdbhaljaaGreatDoorW.PrintLast Go.Proofs.YtilidabdbhaljaaGreatDoorW.PrintMore
set_option maxHeartbeats 8000000
set_option maxRecDepth 100000
section
attribute [local go_sem] fnW_0 fnW_1 fnW_2 fnW_3 fnW_4 fnW_5 fnW_guard fnW_eql zaB zaC zaH zaI
def zbl.f(k:Nat)(D:Int)(E:Int)(I:Int)(a1:Int):Option (ByteArray×Int):=(zaP.f D E I a1).bind λA=>((zaj.f k A.1 A.2).bind λB=>(some (B.1,B.2.1)))
theorem zbl.calls(k:Nat)(I:Int)(J:Int)(K:Int)(a1:Int)(r1:ByteArray)(r2:Int)(w:World)(h:zbl.f k I J K a1=some (r1,r2)):
 Calls Tryz.prog 103 #[.agg #[.int .i64 I,.int .i64 J,.int .u64 K],.int .u64 a1] w λe w'=>e= .returned (.agg #[.string r1,.int .i64 r2])/\Below w.heap.size w w':=by
 have aH:=Tryz.underlying60;have aI:=Tryz.underlying74;have HB:=zaa.mk (Below.refl w.heap.size w);have H:((zaP.f I J K a1).bind λaa=>((zaj.f k aa.1 aa.2).bind λab=>(some (ab.1,ab.2.1))))=some (r1,r2):=h;clear h;replace H:=bs H;obtain⟨⟨ac,ad⟩,A3,H⟩:=H;dsimp only at H;replace H:=bs H;obtain⟨⟨ae,af,ah⟩,A4,H⟩:=H;dsimp only at H;obtain⟨rfl,rfl⟩:=o2 H;go_enter Tryz.func103,Tryz.ntmps103;go_wp2_with (first|((with_reducible refine zai (N:=2) rfl ?_);refine zah rfl (N:=2) rfl (cs:=#[.int .i64 I,.int .i64 J,.int .u64 K]) (t:=60) gz ?_;intro A hg w5 hbox hb;have az:=gN bz hg;have D:=zaa.mk hbox;replace HB:=bN bz hb;clear hb hbox hg)|((with_reducible refine zai (N:=4) rfl ?_);refine zah rfl (N:=4) rfl (cs:=#[.string (⟨#[]⟩:ByteArray),.int .i64 0]) (t:=74) gz ?_;intro B hg w6 hbox hb;have aA:=gN bz hg;have M:=lN (g:=A) hg bk;have O:=rN (g:=A) hg bk;replace D:=kN (g:=A) hb bk;have E:=zaa.mk hbox;replace HB:=bN bz hb;clear hb hbox hg;have aJ:=M.out;have aK:=O.out;obtain⟨ar,au,av,aw,ax,ay⟩:=cz3 D)|((with_reducible refine zac (f:=38) rfl ?_);refine gB Tryz.func38 (zaP.calls I J K a1 ac ad _ A3.out) ?_;intro w9 hb;replace D:=kN (g:=A) hb bk;replace E:=kN (g:=B) hb bk;replace HB:=bN bz hb;clear hb)|((with_reducible refine zac (f:=102) rfl ?_);refine gB Tryz.func102 (zaj.calls k ac ad ae af ah _ A4.out) ?_;intro aL hb;replace D:=kN (g:=A) hb bk;replace E:=kN (g:=B) hb bk;replace HB:=bN bz hb;clear hb)|((with_reducible refine zai (N:=5) rfl ?_);refine zah rfl (N:=5) rfl (cs:=#[.string (⟨#[]⟩:ByteArray),.int .i64 0]) (t:=74) gz ?_;intro aB hg aM hbox hb;have aC:=gN bz hg;have U:=lN (g:=A) hg bk;have X:=rN (g:=A) hg bk;have Y:=lN (g:=B) hg bk;have Z:=rN (g:=B) hg bk;replace D:=kN (g:=A) hb bk;replace E:=kN (g:=B) hb bk;have ag:=zaa.mk hbox;replace HB:=bN bz hb;clear hb hbox hg;have aD:=X.out;have aE:=U.out;have aF:=Z.out;have aG:=Y.out;obtain⟨ai,aj,ak,al⟩:=cz2 ag;obtain⟨am,an,ao,ap⟩:=cz2 E));refine bodyPost_ret (results_cell_row rfl _ _ B 74 #[.string ae,.int .i64 af] (0,0) _ rfl bk Tryz.underlying74 rfl (by kernel_rfl)) rfl ?_;exact⟨ez,bz⟩
end
end Go.Proofs.YtilidabdbhaljaaGreatDoor.Fn
end
section
namespace Go.Proofs.YtilidabdbhaljaaGreatDoor.Pure
open Go.RowKit Go.Proofs.YtilidabdbhaljaaGreatDoorW.PrintWords Go.Proofs.YtilidabdbhaljaaGreatDoor.Fn
def exD(m:Nat)(e:Int):List UInt8×Int:=decOf (m*eBase e^e.natAbs) (eLim e)
theorem zcy(m:Nat)(e:Int):InForm (exD m e).1 (exD m e).2:=zbc _ _
theorem zb6(m:Nat){e:Int}(h: -1200<=e/\e<=1200):exactS m e=(S (exD m e).1,(exD m e).2,0):=by
 unfold exactS;rw[if_neg (by omega)];rfl
theorem zck{m:Nat}(hm:m<18446744073709551616){e:Int}(h: -1200<=e/\e<=1200):(exD m e).1.length<=1300/\ -1200<=(exD m e).2/\(exD m e).2<=1300:=by
 obtain⟨T,hT⟩: ∃T:Nat,T=1200:=⟨_,rfl⟩;have hb:eBase e^e.natAbs<=10^T:=by
  refine Nat.le_trans (Nat.pow_le_pow_left (show eBase e<=10 by unfold eBase;split<;>omega) _) (Nat.pow_le_pow_right (by omega) (by omega))
 have hlt:m*eBase e^e.natAbs<10^(20+T):=by
  rw[Nat.pow_add];(have A:(10:Nat)^20=100000000000000000000:=by decide);generalize eBase e^e.natAbs=B at*
  have hp:0<10^T:=Nat.pow_pos (by omega);generalize 10^T=P at*
  exact Nat.lt_of_le_of_lt (Nat.mul_le_mul_left _ hb) (Nat.mul_lt_mul_of_pos_right (by omega) hp)
 have:=zbS hlt (eLim e);unfold exD;unfold eLim at*
 (split at this<;>rename_i c);all_goals(first|rw[if_pos c]|rw[if_neg c]);omega
theorem zgJ{a b:List UInt8}{p q:Int}(ha:InForm a p)(hb:InForm b q)(h1:a.length<=2000/\ -5000<=p/\p<=5000)(h2:b.length<=2000/\ -5000<=q/\q<=5000):Ev (λk=>zaW.f k (S a) p (S b) q) (cmpD a p b q):=by
 unfold zaW.f;have h:=zhZ (S a) p (S b) q;rw[zia ha hb h1 h2] at h;exact Ev.bind (f:=λ_ bt=>some bt.1) h (Ev.now _)
theorem zc6(wide:Bool){p:Nat}(hp:p<=ii wide):fE (ff wide) p<=2046/\fM (ff wide) p<9007199254740992:=by
 have h1:=zfY (ff wide) p;have hd:p / 2^ff wide<=ii wide / 2^ff wide:=Nat.div_le_div_right hp;(have h2:ii wide / 2^ff wide<=2047/\2^(ff wide+1)<=9007199254740992:=by cases wide<;>decide);unfold fE;omega
theorem zgK(wide:Bool):149<=ll wide/\ll wide<=1074:=by cases wide<;>simp[ll]
theorem fEl(wide:Bool){p:Nat}(hp:p<=ii wide): -1074<=(fE (ff wide) p:Int)-(ll wide:Int)/\(fE (ff wide) p:Int)-(ll wide:Int)<=1100:=by
 have h1:=(zc6 wide hp).1;have h2:=zgK wide;cases wide
 ·(have:ii false / 2^ff false=255:=by decide);have hd:p / 2^ff false<=ii false / 2^ff false:=Nat.div_le_div_right hp;unfold fE at*
  omega
 ·have:ll true=1074:=rfl;omega
theorem zeI(wide:Bool){p:Nat}(hp:p<=ii wide):
 Ev (λk=>zbl.f k (ff wide:Int) (-(ll wide:Int)) (ii wide:Int) (p:Int)) (decS (exD (fM (ff wide) p) ((fE (ff wide) p:Int)-(ll wide:Int)))):=by
 unfold zbl.f;have hi:=zeN wide;rw[zdG wide p (by omega)];simp only[Option.bind_some];have h:=zcw (fM (ff wide) p) ((fE (ff wide) p:Int)-(ll wide:Int)) (by have:=(zc6 wide hp).2;omega);rw[zb6 _ (by have:=fEl wide hp;omega)] at h;exact Ev.bind (f:=λ_ bt=>some (bt.1,bt.2.1)) h (Ev.now _)
theorem ze8(a b:Nat):cmpN a b>0↔b<a:=by
 unfold cmpN;by_cases h1:a<b
 ·rw[if_pos h1];omega
 ·rw[if_neg h1];by_cases h2:b<a
  ·rw[if_pos h2];omega
  ·rw[if_neg h2];omega
theorem zdl(a b:Nat):cmpN a b=0↔a=b:=by
 unfold cmpN;by_cases h1:a<b
 ·rw[if_pos h1];omega
 ·rw[if_neg h1];by_cases h2:b<a
  ·rw[if_pos h2];omega
  ·rw[if_neg h2];omega
theorem zeA(a b:Nat):cmpN a b= -cmpN b a:=by
 unfold cmpN;by_cases h1:a<b
 ·rw[if_pos h1,if_neg (by omega),if_pos h1]
 ·rw[if_neg h1];by_cases h2:b<a
  ·rw[if_pos h2,if_pos h2];rfl
  ·rw[if_neg h2,if_neg h2,if_neg h1];rfl
theorem zfn(wide:Bool){p:Nat}(hp:p<=ii wide){l:List UInt8}{q:Int}(hl:InForm l q)(hx: -(vv:Int)<=q-l.length):
 cmpD (exD (fM (ff wide) p) ((fE (ff wide) p:Int)-(ll wide:Int))).1 (exD (fM (ff wide) p) ((fE (ff wide) p:Int)-(ll wide:Int))).2 l q=cmpN (fW (ff wide) p*(2*CC)) (dX wide (val l) (q-l.length)):=by
 have h:=zcK (fM (ff wide) p) (val l) (uu wide) vv ((fE (ff wide) p:Int)-(ll wide:Int)) (q-l.length) (by unfold uu;omega) (by have:=zeO wide;have:=zdu;unfold uu;omega) hx;rw[zdg hl] at h;unfold exD;rw[h];unfold dX;congr 1;(have e:((fE (ff wide) p:Int)-(ll wide:Int)+(uu wide:Int)).toNat=fE (ff wide) p+1:=by unfold uu;omega);rw[e,Nat.pow_succ];unfold fW CC;rw[Nat.mul_assoc,Nat.mul_assoc,Nat.mul_assoc]
theorem zhJ(wide:Bool){X p:Nat}(h:fFloor (ff wide) (ii wide) X (2*CC) p):rdX wide X=if p=ii wide then ii wide else if X>(fW (ff wide) p+fW (ff wide) (p+1))*CC\/(X=(fW (ff wide) p+fW (ff wide) (p+1))*CC/\p%2=1) then p+1 else p:=by
 have e:=zdY (by have:=ze6;omega) (ze7 wide X) h;unfold rdX;rw[e];unfold fNear;by_cases c:p=ii wide
 ·rw[if_pos c,if_pos c]
 ·rw[if_neg c,if_neg c];have hu:fUp (ff wide) X (2*CC) p↔(X>(fW (ff wide) p+fW (ff wide) (p+1))*CC\/(X=(fW (ff wide) p+fW (ff wide) (p+1))*CC/\p%2=1)):=by
   unfold fUp;rw[show(fW (ff wide) p+fW (ff wide) (p+1))*(2*CC)=2*((fW (ff wide) p+fW (ff wide) (p+1))*CC) by rw[Nat.mul_left_comm]];omega
  by_cases c2:fUp (ff wide) X (2*CC) p
  ·rw[if_pos c2,if_pos (hu.1 c2)]
  ·rw[if_neg c2,if_neg (λh=>c2 (hu.2 h))]
def Nm(n K:Nat)(xs:List Int):Prop:=InB 10 xs/\lv 10 xs=n/\xs.length<=K
def Tab(n K:Nat)(tabs:List (List Int)):Prop:= ∀i:Nat,i<tabs.length->Nm (n*2^i) (K+i) (zeK tabs (i:Int))
theorem ze9(tabs:List (List Int))(y:List Int)(i:Nat)(h:i<tabs.length+1):zeK (tabs++[y]) (i:Int)=if i<tabs.length then zeK tabs (i:Int) else y:=by
 unfold zeK;rw[Int.toNat_natCast,List.getD_eq_getElem?_getD,List.getD_eq_getElem?_getD];by_cases c:i<tabs.length
 ·rw[if_pos c,List.getElem?_append_left c]
 ·rw[if_neg c];(obtain rfl:i=tabs.length:=by omega);simp
theorem Tab.snoc{n K:Nat}{tabs:List (List Int)}{y:List Int}(h:Tab n K tabs)(hy:Nm (n*2^tabs.length) (K+tabs.length) y):Tab n K (tabs++[y]):=by
 intro i hi;rw[List.length_append,List.length_singleton] at hi;rw[ze9 tabs y i hi];by_cases c:i<tabs.length
 ·rw[if_pos c];exact h i c
 ·rw[if_neg c];(obtain rfl:i=tabs.length:=by omega);exact hy
theorem ziO(wide:Bool):23<=ff wide/\ff wide<=52:=by cases wide<;>simp[ff]
def loX(wide:Bool)(p:Nat):Nat:=(fW (ff wide) (p-1)+fW (ff wide) p)*CC
def hiX(wide:Bool)(p:Nat):Nat:=(fW (ff wide) p+fW (ff wide) (p+1))*CC
def inX(wide:Bool)(p X:Nat):Prop:=(loX wide p<X/\X<hiX wide p)\/(p%2=0/\loX wide p<=X/\X<=hiX wide p)
theorem zcP{u v C:Nat}(h:u<v)(hC:0<C):u*(2*C)<(u+v)*C/\(u+v)*C<v*(2*C):=by
 (have e1:u*(2*C)=u*C+u*C:=by rw[Nat.mul_left_comm];omega);(have e2:v*(2*C)=v*C+v*C:=by rw[Nat.mul_left_comm];omega);have h3:u*C<v*C:=Nat.mul_lt_mul_of_pos_right h hC;rw[e1,e2,Nat.add_mul];omega
theorem zib(wide:Bool){p:Nat}(hp:0<p)(hi:p<ii wide)(X:Nat):inX wide p X↔rdX wide X=p:=by
 have hC:=ze6;obtain⟨a,rfl⟩: ∃a,p=a+1:=⟨p-1,by omega⟩;have m1:=zcP (zeL (f:=ff wide) (Nat.lt_succ_self a)) hC;have m2:=zcP (zeL (f:=ff wide) (Nat.lt_succ_self (a+1))) hC;have hat:=λq=> @zhJ wide X q;have hfl:=ze7 wide X;have hun:=λq (h:fFloor (ff wide) (ii wide) X (2*CC) q)=>zdY (by omega) hfl h;unfold inX loX hiX;rw[Nat.add_sub_cancel];simp only[Nat.succ_eq_add_one] at m1 m2;constructor
 ·intro h;by_cases c:fW (ff wide) (a+1)*(2*CC)<=X
  ·have hf:fFloor (ff wide) (ii wide) X (2*CC) (a+1):=⟨by omega,c,λ_=>by omega⟩;rw[hat _ hf,if_neg (by omega),if_neg (by omega)]
  ·have hf:fFloor (ff wide) (ii wide) X (2*CC) a:=⟨by omega,by omega,λ_=>by omega⟩;rw[hat _ hf,if_neg (by omega),if_pos (by omega)]
 ·intro h;have hr:=hat _ hfl;rw[h] at hr;by_cases c1:flo wide X=ii wide
  ·rw[if_pos c1] at hr;omega
  ·rw[if_neg c1] at hr;obtain⟨g1,g2,g3⟩:=hfl;have A:=g3 (by omega);by_cases c2:X>(fW (ff wide) (flo wide X)+fW (ff wide) (flo wide X+1))*CC\/(X=(fW (ff wide) (flo wide X)+fW (ff wide) (flo wide X+1))*CC/\flo wide X%2=1)
   ·rw[if_pos c2] at hr;(have e:flo wide X=a:=by omega);rw[e] at c2 g2 A;omega
   ·rw[if_neg c2] at hr;(have e:flo wide X=a+1:=by omega);rw[e] at c2 g2 A;omega
theorem zic{f p:Nat}(hp:0<p)(h:fM f p≠2^f\/fE f p=0):fE f (p-1)=fE f p:=by
 obtain⟨e1,e2⟩:=fOf f p;have hlt:=zfY f p;have h2:=zbM f;by_cases c:fE f p=0
 ·rw[c,Nat.zero_mul,Nat.zero_add] at e1;have:=(fParts f 0 (p-1) (by omega) (.inr rfl)).2;rw[Nat.zero_mul,Nat.zero_add] at this;rw[this,c]
 ·have h3:=h.resolve_right c;have h4:=e2.resolve_right c;have:=(fParts f (fE f p) (fM f p-1) (by omega) (.inl (by omega))).2;rw[show fE f p*2^f+(fM f p-1)=p-1 by omega] at this;exact this
theorem zhu{f p:Nat}(h:fM f p=2^f)(h2:fE f p≠0):fE f (p-1)+1=fE f p:=by
 obtain⟨e1,e2⟩:=fOf f p;have hp:=zbM f;obtain⟨k,hk⟩:=Nat.exists_eq_succ_of_ne_zero h2;rw[Nat.succ_eq_add_one] at hk;have:=(fParts f k (2^(f+1)-1) (by rw[Nat.pow_succ];omega) (.inl (by rw[Nat.pow_succ];omega))).2;rw[hk,h,Nat.add_mul,Nat.one_mul] at e1;rw[show k*2^f+(2^(f+1)-1)=p-1 by rw[Nat.pow_succ];omega] at this;rw[this,hk]
theorem zfI{f p:Nat}(hp:0<p):fW f (p-1)+2^fE f (p-1)=fW f p:=by
 have:=zdt f (p-1);rw[Nat.sub_add_cancel hp] at this;exact this.symm
theorem zfa{f p:Nat}(hp:0<p):0<fM f p:=by
 obtain⟨e1,e2⟩:=fOf f p;have h2:=zbM f;rcases e2 with h|h
 ·omega
 ·rw[h,Nat.zero_mul,Nat.zero_add] at e1;omega
theorem ziP(wide:Bool)(p n:Nat)(x:Int)(hx: -(vv:Int)<=x):
 cmpD (exD (2*fM (ff wide) p+1) ((fE (ff wide) p:Int)-(ll wide:Int)-1)).1 (exD (2*fM (ff wide) p+1) ((fE (ff wide) p:Int)-(ll wide:Int)-1)).2 (decOf n x).1 (decOf n x).2=cmpN (hiX wide p) (dX wide n x):=by
 unfold exD;rw[zcK (2*fM (ff wide) p+1) n (uu wide) vv _ x (by unfold uu;omega) (by have:=zeO wide;have:=zdu;unfold uu;omega) hx];unfold dX hiX;congr 1;(have e:((fE (ff wide) p:Int)-(ll wide:Int)-1+(uu wide:Int)).toNat=fE (ff wide) p:=by unfold uu;omega);rw[e,zdt];unfold fW CC;congr 1;rw[Nat.add_mul,Nat.one_mul,Nat.mul_assoc];omega
theorem zid(wide:Bool){p:Nat}(hp:0<p)(h:fM (ff wide) p≠2^ff wide\/fE (ff wide) p=0)(n:Nat)(x:Int)(hx: -(vv:Int)<=x):
 cmpD (exD (2*fM (ff wide) p-1) ((fE (ff wide) p:Int)-(ll wide:Int)-1)).1 (exD (2*fM (ff wide) p-1) ((fE (ff wide) p:Int)-(ll wide:Int)-1)).2 (decOf n x).1 (decOf n x).2=cmpN (loX wide p) (dX wide n x):=by
 have h1:=zfI (f:=ff wide) hp;have h2:=zfa (f:=ff wide) hp;rw[zic hp h] at h1;unfold exD;rw[zcK (2*fM (ff wide) p-1) n (uu wide) vv _ x (by unfold uu;omega) (by have:=zeO wide;have:=zdu;unfold uu;omega) hx];unfold dX loX;congr 1;(have e:((fE (ff wide) p:Int)-(ll wide:Int)-1+(uu wide:Int)).toNat=fE (ff wide) p:=by unfold uu;omega);rw[e];have h3:fW (ff wide) p=fM (ff wide) p*2^fE (ff wide) p:=rfl;have h4:(2*fM (ff wide) p-1)*2^fE (ff wide) p+2^fE (ff wide) p=2*(fM (ff wide) p*2^fE (ff wide) p):=by
  rw[<-Nat.succ_mul,<-Nat.mul_assoc];congr 1;omega
 unfold CC;congr 1;omega
theorem zie(wide:Bool){p:Nat}(hp:0<p)(h:fM (ff wide) p=2^ff wide)(h0:fE (ff wide) p≠0)(n:Nat)(x:Int)(hx: -(vv:Int)<=x):
 cmpD (exD (4*fM (ff wide) p-1) ((fE (ff wide) p:Int)-(ll wide:Int)-2)).1 (exD (4*fM (ff wide) p-1) ((fE (ff wide) p:Int)-(ll wide:Int)-2)).2 (decOf n x).1 (decOf n x).2=cmpN (loX wide p) (dX wide n x):=by
 have h1:=zfI (f:=ff wide) hp;have h2:=zfa (f:=ff wide) hp;have h5:=zhu h h0;obtain⟨k,hk⟩: ∃k,fE (ff wide) (p-1)=k:=⟨_,rfl⟩;rw[hk] at h1 h5;unfold exD;rw[zcK (4*fM (ff wide) p-1) n (uu wide) vv _ x (by unfold uu;omega) (by have:=zeO wide;have:=zdu;unfold uu;omega) hx];unfold dX loX;congr 1;(have e:((fE (ff wide) p:Int)-(ll wide:Int)-2+(uu wide:Int)).toNat=k:=by unfold uu;omega);rw[e];(have h3:fW (ff wide) p=fM (ff wide) p*2^(k+1):=by rw[h5];rfl);have h4:(4*fM (ff wide) p-1)*2^k+2^k=2*(fM (ff wide) p*2^(k+1)):=by
  rw[<-Nat.succ_mul,Nat.pow_succ];rw[show(4*fM (ff wide) p-1).succ=4*fM (ff wide) p by omega];rw[Nat.mul_comm (2^k) 2,<-Nat.mul_assoc,<-Nat.mul_assoc];congr 1;omega
 unfold CC;congr 1;omega
theorem zif{lo hi d:List UInt8×Int}{L H X:Nat}(wide:Bool)(p:Nat)(ends:Bool)(he:ends=decide (p%2=0))(hL:L=loX wide p)(hH:H=hiX wide p)(f1:InForm lo.1 lo.2)(f2:InForm hi.1 hi.2)(f3:InForm d.1 d.2)
 (b1:lo.1.length<=2000/\ -5000<=lo.2/\lo.2<=5000) (b2:hi.1.length<=2000/\ -5000<=hi.2/\hi.2<=5000) (b3:d.1.length<=2000/\ -5000<=d.2/\d.2<=5000)
 (c1:cmpD lo.1 lo.2 d.1 d.2=cmpN L X) (c2:cmpD hi.1 hi.2 d.1 d.2=cmpN H X) (t:Bool) (ht:t=true↔inX wide p X):
 Ev (λk=>zav.f k (S lo.1) lo.2 (S hi.1) hi.2 ends (S d.1) d.2) t:=by
 have k1:=zgJ f3 f1 b3 b1;have k2:=zgJ f3 f2 b3 b2;rw[zdj,c1,<-zeA] at k1;rw[zdj,c2,<-zeA] at k2;unfold zav.f;refine Ev.bind k1 (Ev.bind k2 (Ev.congr (λk=>?_) (Ev.now _)));unfold inX at ht;rw[<-hL,<-hH] at ht;have p1:=ze8 X L;have p2:=zdl X L;have p3:=ze8 X H;have p4:=zdl X H;generalize cmpN X L=u at*
 generalize cmpN X H=v at*
 (have q1:u>=0↔L<=X:=by omega);(have q2:v<=0↔X<=H:=by omega);(have q3:v<0↔X<H:=by omega);(have hee:ends=true↔p%2=0:=by rw[he];exact decide_eq_true_iff);have key:(if u>0 then(if v<0 then some true else(if ends=true then(if u>=0 then some (decide (v<=0)) else some false) else some false)) else(if ends=true then(if u>=0 then some (decide (v<=0)) else some false) else some false))=some (decide ((u>0/\v<0)\/(ends=true/\u>=0/\v<=0))):=by
  by_cases a1:u>0
  ·rw[if_pos a1];by_cases a2:v<0
   ·rw[if_pos a2,decide_eq_true (.inl ⟨a1,a2⟩)]
   ·rw[if_neg a2];by_cases a3:ends=true
    ·rw[if_pos a3,if_pos (by omega)];congr 1;exact decide_eq_decide.2 ⟨λh=>.inr ⟨a3,by omega,h⟩,λh=>h.elim (λh=>absurd h.2 a2) (λh=>h.2.2)⟩
    ·rw[if_neg a3,decide_eq_false (λh=>h.elim (λh=>a2 h.2) (λh=>a3 h.1))]
  ·rw[if_neg a1];by_cases a3:ends=true
   ·rw[if_pos a3];by_cases a4:u>=0
    ·rw[if_pos a4];congr 1;exact decide_eq_decide.2 ⟨λh=>.inr ⟨a3,a4,h⟩,λh=>h.elim (λh=>absurd h.1 a1) (λh=>h.2.2)⟩
    ·rw[if_neg a4,decide_eq_false (λh=>h.elim (λh=>a1 h.1) (λh=>a4 h.2.1))]
   ·rw[if_neg a3,decide_eq_false (λh=>h.elim (λh=>a1 h.1) (λh=>a3 h.1))]
 rw[key];congr 1;rw[Bool.eq_iff_iff,ht,decide_eq_true_iff,p1,q3,q1,q2,hee]
end Go.Proofs.YtilidabdbhaljaaGreatDoor.Pure
end
section
namespace Go.Proofs.YtilidabdbhaljaaGreatDoor.Fn
open Go.RowKit Go.Proofs.YtilidabdbhaljaaGreatDoorW.PrintWords Go.Proofs.YtilidabdbhaljaaGreatDoorW.PrintLast Go.Proofs.YtilidabdbhaljaaGreatDoorW.PrintMore
set_option maxHeartbeats 8000000
set_option maxRecDepth 100000
section
attribute [local go_sem] fnW_0 fnW_1 fnW_2 fnW_3 fnW_4 fnW_5 fnW_guard fnW_eql zaB zaC zaH zaI
mutual
def zaq.j0:Nat->Int->Int->Int->Bool->Int->Int->Int->ByteArray->Int->ByteArray->Int->Bool->Option (ByteArray×Int×Int)
 |0,_,_,_,_,_,_,_,_,_,_,_,_=>none
 |k+1,x8,x9,U,X,A,B,D,K,M,E,I,J=>if X=true then((zaj.f k (IntKind.u64.wrap ((IntKind.u64.wrap (4*x9))-1)) (wrap64 (U-2))).bind λO=>(zaq.j1 k x8 A B D O.1 O.2.1 E I J)) else(zaq.j1 k x8 A B D K M E I J)
def zaq.j1:Nat->Int->Int->Int->Int->ByteArray->Int->ByteArray->Int->Bool->Option (ByteArray×Int×Int)
 |0,_,_,_,_,_,_,_,_,_=>none
 |k+1,x8,A,B,D,E,I,J,K,M=>(zbl.f k A B D x8).bind λO=>(zaq.l0 k 1 O.1 O.2 E I J K M)
def zaq.l0:Nat->Int->ByteArray->Int->ByteArray->Int->ByteArray->Int->Bool->Option (ByteArray×Int×Int)
 |0,_,_,_,_,_,_,_,_=>none
 |k+1,O,A,B,D,E,I,J,K=>(zaK.f k A B O D E I J K).bind λM=>(if M.2.2=true then(some (M.1,M.2.1,0)) else(zaq.l0 k (wrap64 (O+1)) A B D E I J K))
end
def zaq.f(k:Nat)(a0:Int)(a1:Int):Option (ByteArray×Int×Int):=(zby.f a1).bind λA=>(if A.2.2.2=true then(if 0<=(wrap64 (a1-1)) then(if(Go.bits .and .u64 a0 (IntKind.u64.wrap ((shl .u64 1 (wrap64 (a1-1)))-1)))>=A.2.2.1 then(some ((⟨#[]⟩:ByteArray),0,1)) else((zaP.f A.1 A.2.1 A.2.2.1 (Go.bits .and .u64 a0 (IntKind.u64.wrap ((shl .u64 1 (wrap64 (a1-1)))-1)))).bind λB=>(if B.1=0 then(some ((⟨#[]⟩:ByteArray),0,0)) else((zaj.f k (IntKind.u64.wrap ((IntKind.u64.wrap (2*B.1))+1)) (wrap64 (B.2-1))).bind λD=>((zaj.f k (IntKind.u64.wrap ((IntKind.u64.wrap (2*B.1))-1)) (wrap64 (B.2-1))).bind λE=>(if 0<=A.1 then(if B.1=(shl .u64 1 A.1) then(zaq.j0 k (Go.bits .and .u64 a0 (IntKind.u64.wrap ((shl .u64 1 (wrap64 (a1-1)))-1))) B.1 B.2 (decide (B.2>A.2.1)) A.1 A.2.1 A.2.2.1 E.1 E.2.1 D.1 D.2.1 ((Int.tmod B.1 2)==0)) else(zaq.j0 k (Go.bits .and .u64 a0 (IntKind.u64.wrap ((shl .u64 1 (wrap64 (a1-1)))-1))) B.1 B.2 false A.1 A.2.1 A.2.2.1 E.1 E.2.1 D.1 D.2.1 ((Int.tmod B.1 2)==0))) else(none))))))) else(none)) else(some ((⟨#[]⟩:ByteArray),0,1)))
theorem zaq.calls(k:Nat)(a0:Int)(a1:Int)(r1:ByteArray)(r2:Int)(r3:Int)(w:World)(h:zaq.f k a0 a1=some (r1,r2,r3)):
  Calls Tryz.prog 73 #[.int .u64 a0,.int .i64 a1] w λe w'=>e= .returned (.tuple #[.agg #[.string r1,.int .i64 r2],.int .i64 r3])/\Below w.heap.size w w':=by
 have fs:=Tryz.underlying74;have ft:=Tryz.underlying60;have dS:=Tryz.underlying120;have HB:=zaa.mk (Below.refl w.heap.size w);have H:((zby.f a1).bind λac=>(if ac.2.2.2=true then(if 0<=(wrap64 (a1-1)) then(if(Go.bits .and .u64 a0 (IntKind.u64.wrap ((shl .u64 1 (wrap64 (a1-1)))-1)))>=ac.2.2.1 then(some ((⟨#[]⟩:ByteArray),0,1)) else((zaP.f ac.1 ac.2.1 ac.2.2.1 (Go.bits .and .u64 a0 (IntKind.u64.wrap ((shl .u64 1 (wrap64 (a1-1)))-1)))).bind λag=>(if ag.1=0 then(some ((⟨#[]⟩:ByteArray),0,0)) else((zaj.f k (IntKind.u64.wrap ((IntKind.u64.wrap (2*ag.1))+1)) (wrap64 (ag.2-1))).bind λbw=>((zaj.f k (IntKind.u64.wrap ((IntKind.u64.wrap (2*ag.1))-1)) (wrap64 (ag.2-1))).bind λbA=>(if 0<=ac.1 then(if ag.1=(shl .u64 1 ac.1) then(zaq.j0 k (Go.bits .and .u64 a0 (IntKind.u64.wrap ((shl .u64 1 (wrap64 (a1-1)))-1))) ag.1 ag.2 (decide (ag.2>ac.2.1)) ac.1 ac.2.1 ac.2.2.1 bA.1 bA.2.1 bw.1 bw.2.1 ((Int.tmod ag.1 2)==0)) else(zaq.j0 k (Go.bits .and .u64 a0 (IntKind.u64.wrap ((shl .u64 1 (wrap64 (a1-1)))-1))) ag.1 ag.2 false ac.1 ac.2.1 ac.2.2.1 bA.1 bA.2.1 bw.1 bw.2.1 ((Int.tmod ag.1 2)==0))) else(none))))))) else(none)) else(some ((⟨#[]⟩:ByteArray),0,1))))=some (r1,r2,r3):=h;clear h;replace H:=bs H;obtain⟨⟨E,Y,I,cu⟩,A3,H⟩:=H;dsimp only at H;go_enter Tryz.func73,Tryz.ntmps73;(go_upto_if 23 with(first|((with_reducible refine zai (N:=4) rfl ?_);refine zah rfl (N:=4) rfl (cs:=#[.string (⟨#[]⟩:ByteArray),.int .i64 0]) (t:=74) gz ?_;intro D hg w4 hbox hb;have dT:=gN bz hg;have O:=zaa.mk hbox;replace HB:=bN bz hb;clear hb hbox hg)|((with_reducible refine zac (f:=37) rfl ?_);refine gB Tryz.func37 (zby.calls a1 E Y I cu _ A3.out) ?_;intro w5 hb;replace O:=kN (g:=D) (cs:=#[.string (⟨#[]⟩:ByteArray),.int .i64 0]) hb bk;replace HB:=bN bz hb;clear hb)|((with_reducible refine zai (N:=6) rfl ?_);refine zah rfl (N:=6) rfl (cs:=#[.int .i64 0,.int .i64 0,.int .u64 0]) (t:=60) gz ?_;intro U hg w6 hbox hb;have dU:=gN bz hg;have J:=lN (g:=D) (cs:=#[.string (⟨#[]⟩:ByteArray),.int .i64 0]) hg bk;have K:=rN (g:=D) (cs:=#[.string (⟨#[]⟩:ByteArray),.int .i64 0]) hg bk;replace O:=kN (g:=D) (cs:=#[.string (⟨#[]⟩:ByteArray),.int .i64 0]) hb bk;have X:=zaa.mk hbox;replace HB:=bN bz hb;clear hb hbox hg;have fu:=K.out;have fv:=J.out;obtain⟨bB,bC,bD,bE,bG,bH⟩:=cz3 X)));(try simp only[Act.put,List.setIfInBounds_toArray,List.set_cons_zero,List.set_cons_succ]);by_cases c9:cu=true;case neg=>
  replace c9:=Bool.eq_false_iff.mpr c9;subst c9;replace H:=hF H;obtain⟨rfl,rfl,rfl⟩:=o3 H;have fp:=J.out;have fq:=K.out;obtain⟨dJ,dK,dL,dM⟩:=cz2 O;go_wp2;refine bodyPost_ret (zaJ rfl _ _ D 74 #[.string (⟨#[]⟩:ByteArray),.int .i64 0] (0,0) _ rfl bk Tryz.underlying74 rfl (by kernel_rfl)) rfl ?_;exact⟨ez,bz⟩
 subst c9;replace H:=hT H;obtain⟨aw,ar⟩:=ex (wrap64 (a1-1));(first|rw[ar] at H|simp only[ar] at H);have dN:(IntKind.i64.wrap (a1-1))=aw:=(zaM _).trans ar;obtain⟨bP,bQ,H⟩:=hG3 H;obtain⟨am,aj⟩:=ex (shl .u64 1 (aw));(first|rw[aj] at H|simp only[aj] at H);have cn:(IntKind.u64.wrap (1*2^min (aw).toNat 64))=am:=aj;have co:(aw)<=64->(IntKind.u64.wrap (1*2^(aw).toNat))=am:=zbw aj;(have dO:(IntKind.u64.wrap (2^min (aw).toNat 64))=am:=by have h_:=cn;rw[Int.one_mul] at h_;exact h_);(have dP:(aw)<=64->(IntKind.u64.wrap (2^(aw).toNat))=am:=λhle_=>by have h_:=co hle_;rw[Int.one_mul] at h_;exact h_);by_cases bI:(Go.bits .and .u64 a0 (IntKind.u64.wrap ((am)-1)))>=I
 (·replace H:=hE H bI;have an:decide (I<=(Go.bits .and .u64 a0 (IntKind.u64.wrap ((am)-1))))=true:=decide_eq_true bI;clear bI;(first|rw[an]|(simp only[zaM,zaX];rw[an])|skip);obtain⟨rfl,rfl,rfl⟩:=o3 H;have dV:=K.out;have dW:=J.out;obtain⟨cC,cD,cF,cG,cH,cI⟩:=cz3 X;obtain⟨cJ,cK,cL,cM⟩:=cz2 O;go_wp2;refine bodyPost_ret (zaJ rfl _ _ D 74 #[.string (⟨#[]⟩:ByteArray),.int .i64 0] (0,0) _ rfl bk Tryz.underlying74 rfl (by kernel_rfl)) rfl ?_;exact⟨by first|exact ez|(simp only[<-ar,<-aj];exact ez),bz⟩);replace H:=hN H bI;have an:decide (I<=(Go.bits .and .u64 a0 (IntKind.u64.wrap ((am)-1))))=false:=decide_eq_false bI;clear bI;(first|rw[an]|(simp only[zaM,zaX];rw[an])|skip);replace H:=bs H;obtain⟨⟨M,bv⟩,dY,H⟩:=H;dsimp only at H;have dZ:=K.out;have d0:=J.out;obtain⟨aA,aB,aC,aD,aE,aF⟩:=cz3 X;(go_upto_if 43 with(first|((with_reducible refine zac (f:=38) rfl ?_);refine gB Tryz.func38 (zaP.calls E Y I (Go.bits .and .u64 a0 (IntKind.u64.wrap ((am)-1))) M bv _ dY.out) ?_ (hargs:=by(try simp only[List.map_toArray,List.map_cons,List.map_nil]);first|done|(simp only[aj];rfl)|rfl|(simp only[List.length_drop,List.length_take];rfl));intro fw hb;replace O:=kN (g:=D) (cs:=#[.string (⟨#[]⟩:ByteArray),.int .i64 0]) hb bk;replace X:=kN (g:=U) (cs:=#[.int .i64 E,.int .i64 Y,.int .u64 I]) hb bk;replace HB:=bN bz hb;clear hb)));(try simp only[Act.put,List.setIfInBounds_toArray,List.set_cons_zero,List.set_cons_succ]);by_cases bK:M=0
 (·replace H:=hE H bK;obtain⟨au,av⟩:=eT bK;clear bK;(try first|rw[au]|rw[av]);obtain⟨rfl,rfl,rfl⟩:=o3 H;have d5:=J.out;have d6:=K.out;obtain⟨cN,cO,cP,cQ⟩:=cz2 O;go_wp2;refine bodyPost_ret (zaJ rfl _ _ D 74 #[.string (⟨#[]⟩:ByteArray),.int .i64 0] (0,0) _ rfl bk Tryz.underlying74 rfl (by kernel_rfl)) rfl ?_;exact⟨by first|exact ez|(simp only[<-ar,<-aj];exact ez),bz⟩);replace H:=hN H bK;obtain⟨au,av⟩:=eF bK;(try first|rw[au]|rw[av]);replace H:=bs H;obtain⟨⟨ae,af,cR⟩,d9,H⟩:=H;dsimp only at H;replace H:=bs H;obtain⟨⟨bL,bM,cS⟩,ea,H⟩:=H;dsimp only at H;have bV:=zaa.mk H;clear H;(go_upto_region 13 with(first|((with_reducible refine zai (N:=11) rfl ?_);refine zah rfl (N:=11) rfl (cs:=#[.string (⟨#[]⟩:ByteArray),.int .i64 0,.string (⟨#[]⟩:ByteArray),.int .i64 0,.bool false]) (t:=120) gz ?_;intro ad hg fx hbox hb;have eb:=gN bz hg;have ak:=lN (g:=D) (cs:=#[.string (⟨#[]⟩:ByteArray),.int .i64 0]) hg bk;have al:=rN (g:=D) (cs:=#[.string (⟨#[]⟩:ByteArray),.int .i64 0]) hg bk;have ah:=lN (g:=U) (cs:=#[.int .i64 E,.int .i64 Y,.int .u64 I]) hg bk;have ai:=rN (g:=U) (cs:=#[.int .i64 E,.int .i64 Y,.int .u64 I]) hg bk;replace O:=kN (g:=D) (cs:=#[.string (⟨#[]⟩:ByteArray),.int .i64 0]) hb bk;replace X:=kN (g:=U) (cs:=#[.int .i64 E,.int .i64 Y,.int .u64 I]) hb bk;have Z:=zaa.mk hbox;replace HB:=bN bz hb;clear hb hbox hg;have ec:=al.out;have ed:=ak.out;have ee:=ai.out;have ef:=ah.out;obtain⟨aG,aH,aI,aJ,aK,aL,aM,aN,aO,aP⟩:=cz5 Z)|((with_reducible refine zac (f:=102) rfl ?_);refine gB Tryz.func102 (zaj.calls k (IntKind.u64.wrap ((IntKind.u64.wrap (2*M))+1)) (wrap64 (bv-1)) ae af cR _ d9.out) ?_;intro fy hb;replace O:=kN (g:=D) (cs:=#[.string (⟨#[]⟩:ByteArray),.int .i64 0]) hb bk;replace X:=kN (g:=U) (cs:=#[.int .i64 E,.int .i64 Y,.int .u64 I]) hb bk;replace Z:=kN (g:=ad) (cs:=#[.string (⟨#[]⟩:ByteArray),.int .i64 0,.string (⟨#[]⟩:ByteArray),.int .i64 0,.bool ((Int.tmod M 2)==0)]) hb bk;replace HB:=bN bz hb;clear hb;obtain⟨aQ,aR,aS,aT,aU,aV,aW,aX,aY,aZ⟩:=cz5 Z)|((with_reducible refine zac (f:=102) rfl ?_);refine gB Tryz.func102 (zaj.calls k (IntKind.u64.wrap ((IntKind.u64.wrap (2*M))-1)) (wrap64 (bv-1)) bL bM cS _ ea.out) ?_;intro fz hb;replace O:=kN (g:=D) (cs:=#[.string (⟨#[]⟩:ByteArray),.int .i64 0]) hb bk;replace X:=kN (g:=U) (cs:=#[.int .i64 E,.int .i64 Y,.int .u64 I]) hb bk;replace Z:=kN (g:=ad) (cs:=#[.string (⟨#[]⟩:ByteArray),.int .i64 0,.string ae,.int .i64 af,.bool ((Int.tmod M 2)==0)]) hb bk;replace HB:=bN bz hb;clear hb;obtain⟨a2,a3,a4,a5,a6,a7,a8,a9,ba,bb⟩:=cz5 Z)));(try simp only[Act.put,List.setIfInBounds_toArray,List.set_cons_zero,List.set_cons_succ]);go_cut [79] (λeg wc=> ∃(kq:Nat) (az:Bool),eg= .bool az/\zaa (zaq.j0 kq (Go.bits .and .u64 a0 (IntKind.u64.wrap ((am)-1))) M bv az E Y I bL bM ae af ((Int.tmod M 2)==0)=some (r1,r2,r3))/\zaa (kq<=k)/\zaa (wc.heap[D]? =some (.cells #[.string (⟨#[]⟩:ByteArray),.int .i64 0] 74 (0,0)))/\zaa (wc.heap[U]? =some (.cells #[.int .i64 E,.int .i64 Y,.int .u64 I] 60 (0,0)))/\zaa (wc.heap[ad]? =some (.cells #[.string bL,.int .i64 bM,.string ae,.int .i64 af,.bool ((Int.tmod M 2)==0)] 120 (0,0)))/\zaa (Below w.heap.size w wc));case first=>
  have H:=bV.out;clear bV;obtain⟨eh,ei,H⟩:=hG3 H;obtain⟨bO,bJ⟩:=ex (shl .u64 1 E);(first|rw[bJ] at H|simp only[bJ] at H);have cp:(IntKind.u64.wrap (1*2^min E.toNat 64))=bO:=bJ;have cq:E<=64->(IntKind.u64.wrap (1*2^E.toNat))=bO:=zbw bJ;(have dQ:(IntKind.u64.wrap (2^min E.toNat 64))=bO:=by have h_:=cp;rw[Int.one_mul] at h_;exact h_);(have dR:E<=64->(IntKind.u64.wrap (2^E.toNat))=bO:=λhle_=>by have h_:=cq hle_;rw[Int.one_mul] at h_;exact h_);by_cases bW:M=(bO)
  (·replace H:=hE H bW;obtain⟨bR,bS⟩:=eT bW;clear bW;(try first|rw[bR]|rw[bS]);have H':=zaa.mk H;clear H;have ej:=K.out;have ek:=J.out;have em:=ah.out;have en:=ai.out;obtain⟨cT,cV,cW,cX,cY,cZ⟩:=cz3 X;go_wp2;go_meet;case rel=>exact⟨_,(decide (bv>Y)),rz,H',⟨by first|omega|exact Nat.le_refl _⟩,⟨bk⟩,⟨bk⟩,⟨bk⟩,⟨bz⟩⟩);replace H:=hN H bW;obtain⟨bR,bS⟩:=eF bW;(try first|rw[bR]|rw[bS]);have H':=zaa.mk H;clear H;have eo:=K.out;have ep:=J.out;have eq:=ah.out;have er:=ai.out;obtain⟨c5,c6,c7,c8,da,db⟩:=cz3 X;go_wp2;go_meet;case rel=>exact⟨_,(false),rz,H',⟨by first|omega|exact Nat.le_refl _⟩,⟨bk⟩,⟨bk⟩,⟨bk⟩,⟨bz⟩⟩
 case rest=>
  clear bV;(try clear c9);(try clear bP);(try clear bQ);(try clear bI);(try clear an);(try clear bK);(try clear au);(try clear av);(try clear aA aB aC aD aE aF);(try clear aG aH aI aJ aK aL aM aN aO aP);(try clear aQ aR aS aT aU aV aW aX aY aZ);(try clear a2 a3 a4 a5 a6 a7 a8 a9 ba bb);(try clear bB bC bD bE bG bH);obtain⟨kq,az,rfl,HA,bU,O,X,Z,HB⟩:=hcut;cases kq with
  |zero=>exact absurd HA.out (by simp[zaq.j0])
  |succ cv=>
   have H:=HA.out;clear HA;simp only[zaq.j0] at H;have bX:=zaa.mk H;clear H;(go_upto_if 79 with(fail));go_cut [] (λwc=> ∃(kq:Nat) (A:ByteArray) (B:Int),zaa (zaq.j1 kq (Go.bits .and .u64 a0 (IntKind.u64.wrap ((am)-1))) E Y I A B ae af ((Int.tmod M 2)==0)=some (r1,r2,r3))/\zaa (kq<=cv)/\zaa (wc.heap[D]? =some (.cells #[.string (⟨#[]⟩:ByteArray),.int .i64 0] 74 (0,0)))/\zaa (wc.heap[U]? =some (.cells #[.int .i64 E,.int .i64 Y,.int .u64 I] 60 (0,0)))/\zaa (wc.heap[ad]? =some (.cells #[.string A,.int .i64 B,.string ae,.int .i64 af,.bool ((Int.tmod M 2)==0)] 120 (0,0)))/\zaa (Below w.heap.size w wc));case first=>
    have H:=bX.out;clear bX;by_cases cr:az=true
    (·subst cr;replace H:=hT H;replace H:=bs H;obtain⟨⟨cw,cx,dc⟩,et,H⟩:=H;dsimp only at H;have H':=zaa.mk H;clear H;go_wp2_with (first|((with_reducible refine zac (f:=102) rfl ?_);refine gB Tryz.func102 (zaj.calls cv (IntKind.u64.wrap ((IntKind.u64.wrap (4*M))-1)) (wrap64 (bv-2)) cw cx dc _ et.out) ?_;intro fA hb;replace O:=kN (g:=D) (cs:=#[.string (⟨#[]⟩:ByteArray),.int .i64 0]) hb bk;replace X:=kN (g:=U) (cs:=#[.int .i64 E,.int .i64 Y,.int .u64 I]) hb bk;replace Z:=kN (g:=ad) (cs:=#[.string bL,.int .i64 bM,.string ae,.int .i64 af,.bool ((Int.tmod M 2)==0)]) hb bk;replace HB:=bN bz hb;clear hb;have eu:=al.out;have ev:=ak.out;have ew:=ai.out;have ey:=ah.out;obtain⟨dd,de,df,dh,di,dj,dk,dl,dm,dn⟩:=cz5 Z));go_meet;case rel=>exact⟨_,(cw),(cx),H',⟨by have:=bU.out;first|omega|exact Nat.le_refl _⟩,⟨bk⟩,⟨bk⟩,⟨bk⟩,⟨bz⟩⟩);replace cr:=Bool.eq_false_iff.mpr cr;subst cr;replace H:=hF H;have H':=zaa.mk H;clear H;go_wp2;go_meet;case rel=>exact⟨_,(bL),(bM),H',⟨by have:=bU.out;first|omega|exact Nat.le_refl _⟩,⟨bk⟩,⟨bk⟩,⟨bk⟩,⟨bz⟩⟩
   case rest=>
    clear bX;(try clear c9);(try clear bP);(try clear bQ);(try clear bI);(try clear an);(try clear bK);(try clear au);(try clear av);(try clear aA aB aC aD aE aF);(try clear aG aH aI aJ aK aL aM aN aO aP);(try clear aQ aR aS aT aU aV aW aX aY aZ);(try clear a2 a3 a4 a5 a6 a7 a8 a9 ba bb);(try clear bB bC bD bE bG bH);obtain⟨kq,A,B,HA,cy,O,X,Z,HB⟩:=hcut;cases kq with
    |zero=>exact absurd HA.out (by simp[zaq.j1])
    |succ bY=>
     have H:=HA.out;clear HA;simp only[zaq.j1] at H;replace H:=bs H;obtain⟨⟨ax,ay⟩,eA,H⟩:=H;dsimp only at H;have H':=zaa.mk H;clear H;have eB:=K.out;have eC:=J.out;have eD:=ah.out;have eE:=ai.out;obtain⟨bZ,b0,b1,b2,b3,b4⟩:=cz3 X;go_wp2_with (first|((with_reducible refine zac (f:=103) rfl ?_);refine gB Tryz.func103 (zbl.calls bY E Y I (Go.bits .and .u64 a0 (IntKind.u64.wrap ((am)-1))) ax ay _ eA.out) ?_ (hargs:=by(try simp only[List.map_toArray,List.map_cons,List.map_nil]);first|done|(simp only[aj];rfl)|rfl|(simp only[List.length_drop,List.length_take];rfl));intro fC hb;replace O:=kN (g:=D) (cs:=#[.string (⟨#[]⟩:ByteArray),.int .i64 0]) hb bk;replace X:=kN (g:=U) (cs:=#[.int .i64 E,.int .i64 Y,.int .u64 I]) hb bk;replace Z:=kN (g:=ad) (cs:=#[.string A,.int .i64 B,.string ae,.int .i64 af,.bool ((Int.tmod M 2)==0)]) hb bk;replace HB:=bN bz hb;clear hb)|((with_reducible refine zai (N:=12) rfl ?_);refine zah rfl (N:=12) rfl (cs:=#[.string (⟨#[]⟩:ByteArray),.int .i64 0]) (t:=74) gz ?_;intro bd hg fD hbox hb;have eG:=gN bz hg;have ao:=lN (g:=D) (cs:=#[.string (⟨#[]⟩:ByteArray),.int .i64 0]) hg bk;have ap:=rN (g:=D) (cs:=#[.string (⟨#[]⟩:ByteArray),.int .i64 0]) hg bk;have be:=lN (g:=U) (cs:=#[.int .i64 E,.int .i64 Y,.int .u64 I]) hg bk;have bf:=rN (g:=U) (cs:=#[.int .i64 E,.int .i64 Y,.int .u64 I]) hg bk;have bg:=lN (g:=ad) (cs:=#[.string A,.int .i64 B,.string ae,.int .i64 af,.bool ((Int.tmod M 2)==0)]) hg bk;have bh:=rN (g:=ad) (cs:=#[.string A,.int .i64 B,.string ae,.int .i64 af,.bool ((Int.tmod M 2)==0)]) hg bk;replace O:=kN (g:=D) (cs:=#[.string (⟨#[]⟩:ByteArray),.int .i64 0]) hb bk;replace X:=kN (g:=U) (cs:=#[.int .i64 E,.int .i64 Y,.int .u64 I]) hb bk;replace Z:=kN (g:=ad) (cs:=#[.string A,.int .i64 B,.string ae,.int .i64 af,.bool ((Int.tmod M 2)==0)]) hb bk;have bi:=zaa.mk hbox;replace HB:=bN bz hb;clear hb hbox hg;have eH:=ap.out;have eI:=ao.out;have eJ:=bf.out;have eK:=be.out;have eL:=bh.out;have eM:=bg.out;obtain⟨b5,b6,b7,b8⟩:=cz2 bi;have eN:=al.out;have eO:=ak.out;obtain⟨ca,cb,cc,cd,ce,cf,cg,ci,cj,ck⟩:=cz5 Z));go_loopg [14] bY (λkq eP w'=> ∃(bj:Int) (aa:ByteArray) (ab:Int),eP= .int .i64 bj/\zaa (zaq.l0 kq bj ax ay A B ae af ((Int.tmod M 2)==0)=some (r1,r2,r3))/\zaa (kq<=bY)/\zaa (w'.heap[D]? =some (.cells #[.string aa,.int .i64 ab] 74 (0,0)))/\zaa (w'.heap[U]? =some (.cells #[.int .i64 E,.int .i64 Y,.int .u64 I] 60 (0,0)))/\zaa (w'.heap[ad]? =some (.cells #[.string A,.int .i64 B,.string ae,.int .i64 af,.bool ((Int.tmod M 2)==0)] 120 (0,0)))/\zaa (w'.heap[bd]? =some (.cells #[.string ax,.int .i64 ay] 74 (0,0)))/\zaa (Below w.heap.size w w'));(case atStart=>exact⟨(1),((⟨#[]⟩:ByteArray)),(0),rz,H',⟨Nat.le_refl _⟩,⟨bk⟩,⟨bk⟩,⟨bk⟩,⟨bk⟩,⟨bz⟩⟩);case round=>
      clear H';(try clear c9);(try clear bP);(try clear bQ);(try clear bI);(try clear an);(try clear bK);(try clear au);(try clear av);(try clear aA aB aC aD aE aF);(try clear aG aH aI aJ aK aL aM aN aO aP);(try clear aQ aR aS aT aU aV aW aX aY aZ);(try clear a2 a3 a4 a5 a6 a7 a8 a9 ba bb);(try clear bZ b0 b1 b2 b3 b4);(try clear b5 b6 b7 b8);(try clear ca cb cc cd ce cf cg ci cj ck);(try clear bB bC bD bE bG bH);obtain⟨bj,aa,ab,rfl,HA,dp,O,X,Z,bi,HB⟩:=hrel;cases gk with
      |zero=>exact absurd HA.out (by simp[zaq.l0])
      |succ k3=>
       have H:=HA.out;clear HA;simp only[zaq.l0] at H;replace H:=bs H;obtain⟨⟨cz,cA,cB⟩,eQ,H⟩:=H;dsimp only at H;have eR:=ap.out;have eS:=ao.out;have eU:=bf.out;have eV:=be.out;have eW:=bh.out;have eX:=bg.out;obtain⟨dq,ds,dt,du⟩:=cz2 bi;(go_upto_if 104 with(first|((with_reducible refine zac (f:=105) rfl ?_);refine gB Tryz.func105 (zaK.calls k3 ax ay bj A B ae af ((Int.tmod M 2)==0) cz cA cB _ eQ.out) ?_;intro fF hb;replace O:=kN (g:=D) (cs:=#[.string aa,.int .i64 ab]) hb bk;replace X:=kN (g:=U) (cs:=#[.int .i64 E,.int .i64 Y,.int .u64 I]) hb bk;replace Z:=kN (g:=ad) (cs:=#[.string A,.int .i64 B,.string ae,.int .i64 af,.bool ((Int.tmod M 2)==0)]) hb bk;replace bi:=kN (g:=bd) (cs:=#[.string ax,.int .i64 ay]) hb bk;replace HB:=bN bz hb;clear hb)|((with_reducible refine zai (N:=15) rfl ?_);refine zah rfl (N:=15) rfl (cs:=#[.string (⟨#[]⟩:ByteArray),.int .i64 0]) (t:=74) gz ?_;intro eY hg fG hbox hb;have eZ:=gN bz hg;have bl:=lN (g:=D) (cs:=#[.string aa,.int .i64 ab]) hg bk;have bm:=rN (g:=D) (cs:=#[.string aa,.int .i64 ab]) hg bk;have bn:=lN (g:=U) (cs:=#[.int .i64 E,.int .i64 Y,.int .u64 I]) hg bk;have bo:=rN (g:=U) (cs:=#[.int .i64 E,.int .i64 Y,.int .u64 I]) hg bk;have bp:=lN (g:=ad) (cs:=#[.string A,.int .i64 B,.string ae,.int .i64 af,.bool ((Int.tmod M 2)==0)]) hg bk;have bq:=rN (g:=ad) (cs:=#[.string A,.int .i64 B,.string ae,.int .i64 af,.bool ((Int.tmod M 2)==0)]) hg bk;have br:=lN (g:=bd) (cs:=#[.string ax,.int .i64 ay]) hg bk;have bu:=rN (g:=bd) (cs:=#[.string ax,.int .i64 ay]) hg bk;replace O:=kN (g:=D) (cs:=#[.string aa,.int .i64 ab]) hb bk;replace X:=kN (g:=U) (cs:=#[.int .i64 E,.int .i64 Y,.int .u64 I]) hb bk;replace Z:=kN (g:=ad) (cs:=#[.string A,.int .i64 B,.string ae,.int .i64 af,.bool ((Int.tmod M 2)==0)]) hb bk;replace bi:=kN (g:=bd) (cs:=#[.string ax,.int .i64 ay]) hb bk;have cm:=zaa.mk hbox;replace HB:=bN bz hb;clear hb hbox hg;have e0:=bm.out;have e1:=bl.out;have e2:=bo.out;have e3:=bn.out;have e4:=bq.out;have e5:=bp.out;have e6:=bu.out;have e7:=br.out;obtain⟨dv,dx,dy,dA⟩:=cz2 cm)));(try simp only[Act.put,List.setIfInBounds_toArray,List.set_cons_zero,List.set_cons_succ]);by_cases ct:cB=true
       (·subst ct;replace H:=hT H;obtain⟨rfl,rfl,rfl⟩:=o3 H;have e8:=bm.out;have e9:=bl.out;have fa:=bo.out;have fb:=bn.out;have fc:=bq.out;have fe:=bp.out;have fg:=bu.out;have fh:=br.out;obtain⟨dB,dC,dD,dE⟩:=cz2 cm;have fi:=J.out;have fj:=K.out;have fk:=ak.out;have fl:=al.out;have fm:=ao.out;have fo:=ap.out;obtain⟨dF,dG,dH,dI⟩:=cz2 O;go_wp2;refine bodyPost_ret (zaJ rfl _ _ D 74 #[.string cz,.int .i64 cA] (0,0) _ rfl bk Tryz.underlying74 rfl (by kernel_rfl)) rfl ?_;exact⟨by first|exact ez|(simp only[<-ar,<-aj];exact ez),bz⟩);replace ct:=Bool.eq_false_iff.mpr ct;subst ct;replace H:=hF H;have H':=zaa.mk H;clear H;go_wp2;go_roundg k3;(case measure=>have:=bU.out;have:=cy.out;have:=dp.out;omega);case rel=>exact⟨(wrap64 (bj+1)),(aa),(ab),rz,H',⟨by have:=bU.out;have:=cy.out;have:=dp.out;omega⟩,⟨bk⟩,⟨bk⟩,⟨bk⟩,⟨bk⟩,⟨bz⟩⟩
end
end Go.Proofs.YtilidabdbhaljaaGreatDoor.Fn
end
section
namespace Go.Proofs.YtilidabdbhaljaaGreatDoor.Pure
open Go.RowKit Go.Proofs.YtilidabdbhaljaaGreatDoorW.PrintWords Go.Proofs.YtilidabdbhaljaaGreatDoor.Fn
theorem zgL(u:Int):(S ([49]:List UInt8),u+1)=(S (decOf 1 u).1,(decOf 1 u).2):=by
 unfold decOf;rw[if_neg (by omega)];have h1:digs 1=[49]:=rfl;rw[h1];have h2:rz [49]=[49]:=rfl;rw[h2];simp;omega
theorem zgM{l:List UInt8}(h:AllD l){p:Int}(hl:l.length<=2000)(hp: -5000<=p/\p<=5000):normS (S l) p=(S (decOf (val l) (p-l.length)).1,(decOf (val l) (p-l.length)).2,0):=by
 unfold normS normTail;rw[if_neg (by rw[zat];omega),L_S,if_pos (zfH h),if_neg (by omega),if_neg (by omega),zbT h];rfl
theorem zcL{n k:Nat}{e:Int}(h:n<10^k)(hk:k<=1400)(he: -3000<=e)(h2:e+k<=3000):(decOf n e).1.length<=2000/\ -5000<=(decOf n e).2/\(decOf n e).2<=5000:=by
 have:=zbS h e;omega
structure Val (wide : Bool) (p : Nat) (v : List UInt8 × Int) : Prop where
  form : InForm v.1 v.2
  len : v.1.length <= 1300
  lo : -1200 <= v.2
  hi : v.2 <= 1300
def cU(v:List UInt8×Int)(n:Nat):Nat:=val (v.1.take n)
def cE(v:List UInt8×Int)(n:Nat):Int:=v.2-n
def isP(wide:Bool)(p:Nat)(n:Nat)(x:Int):Prop:=rdX wide (dX wide n x)=p
instance (wide : Bool) (p n : Nat) (x : Int) : Decidable (isP wide p n x) := by unfold isP; infer_instance
def nearU(v:List UInt8×Int)(n:Nat):Nat:=if downP v.1 n then cU v n else cU v n+1
def bestD(wide:Bool)(p:Nat)(v:List UInt8×Int)(n:Nat):Option (List UInt8×Int):=
  if v.1.length<=n then some v
  else if isP wide p (nearU v n) (cE v n) then some (decOf (nearU v n) (cE v n))
  else if isP wide p (cU v n) (cE v n) then some (decOf (cU v n) (cE v n))
  else if isP wide p (cU v n+1) (cE v n) then some (decOf (cU v n+1) (cE v n)) else none
def optD(o:Option (List UInt8×Int)):ByteArray×Int×Bool:=match o with
  |some d=>(S d.1,d.2,true)
  |none=>(⟨#[]⟩,0,false)
structure Span (wide : Bool) (p : Nat) (lo hi : List UInt8 × Int) : Prop where
  f1 : InForm lo.1 lo.2
  f2 : InForm hi.1 hi.2
  b1 : lo.1.length <= 2000 /\ -5000 <= lo.2 /\ lo.2 <= 5000
  b2 : hi.1.length <= 2000 /\ -5000 <= hi.2 /\ hi.2 <= 5000
  c1 : ∀ (n : Nat) (x : Int), -(vv : Int) <= x -> cmpD lo.1 lo.2 (decOf n x).1 (decOf n x).2 = cmpN (loX wide p) (dX wide n x)
  c2 : ∀ (n : Nat) (x : Int), -(vv : Int) <= x -> cmpD hi.1 hi.2 (decOf n x).1 (decOf n x).2 = cmpN (hiX wide p) (dX wide n x)
theorem zf5{wide:Bool}{p:Nat}{lo hi:List UInt8×Int}(hs:Span wide p lo hi)(hp:0<p)(A:p<ii wide){n k:Nat}{e:Int}(h:n<10^k)(hk:k<=1400)(he: -3000<=e)(h2:e+k<=3000):
 Ev (λr=>zav.f r (S lo.1) lo.2 (S hi.1) hi.2 (decide (p%2=0)) (S (decOf n e).1) (decOf n e).2) (decide (isP wide p n e)):=by
 have hv:=zdu;exact zif wide p _ rfl rfl rfl hs.f1 hs.f2 (zbc n e) hs.b1 hs.b2 (zcL h hk he h2) (hs.c1 n e (by omega)) (hs.c2 n e (by omega)) _ (by rw[decide_eq_true_iff];exact(zib wide hp A _).symm)
theorem zhK{wide:Bool}{p:Nat}{v:List UInt8×Int}(hv:Val wide p v)(n:Nat)(hn:n<v.1.length):cU v n<10^n:=by
 have:=zcv (hv.form.1.take n);rw[List.length_take,Nat.min_eq_left (by omega)] at this;exact this
theorem zeB(v:List UInt8×Int)(n:Nat):nearU v n=cU v n\/nearU v n=cU v n+1:=by
 unfold nearU;split
 ·exact .inl rfl
 ·exact .inr rfl
theorem zig{wide:Bool}{p:Nat}{v:List UInt8×Int}(hv:Val wide p v)(n:Nat)(hn:n<v.1.length):roundN v.1 v.2 (n:Int)=decOf (nearU v n) (cE v n):=by
 unfold roundN nearU cU cE;rw[if_neg (by omega),if_neg (by omega),Int.toNat_natCast];by_cases c:downP v.1 n
 ·rw[if_pos c,if_pos c]
 ·rw[if_neg c,if_neg c]
theorem Val.five{wide:Bool}{p:Nat}{v:List UInt8×Int}(hv:Val wide p v):v.1.length<=2000/\ -5000<=v.2/\v.2<=5000:=by
 have:=hv.len;have:=hv.lo;have:=hv.hi;omega
theorem zfJ{wide:Bool}{p:Nat}{lo hi v:List UInt8×Int}(hs:Span wide p lo hi)(hv:Val wide p v)(hp:0<p)(A:p<ii wide)(n:Nat):
 Ev (λk=>zaK.f k (S v.1) v.2 (n:Int) (S lo.1) lo.2 (S hi.1) hi.2 (decide (p%2=0))) (optD (bestD wide p v n)):=by
 have hl:=hv.len;have hlo:=hv.lo;have hhi:=hv.hi;have h5:=hv.five;unfold zaK.f bestD;rw[zat];by_cases c1:v.1.length<=n
 ·rw[if_pos c1];exact Ev.congr (λk=>if_pos (by omega)) (Ev.now _)
 ·rw[if_neg c1];refine Ev.congr (λk=>if_neg (by omega)) ?_;(have hn:n<v.1.length:=by omega);have hu:=zhK hv n hn;have B:cU v n+1<10^(n+1):=by
   rw[Nat.pow_succ];have:1<=10^n:=Nat.pow_pos (by omega);omega
  (have hE: -3000<=cE v n/\cE v n+((n+1:Nat):Int)<=3000:=by unfold cE;omega);(have hnr:nearU v n<10^(n+1):=by rcases zeB v n with h|h<;>rw[h]<;>omega);have hr:=zew (S v.1) v.2 (n:Int);have e1:roundS (S v.1) v.2 (λ_=>(n:Int))=(S (decOf (nearU v n) (cE v n)).1,(decOf (nearU v n) (cE v n)).2,0):=by
   unfold roundS;rw[zbU hv.form h5.1 h5.2,if_pos rfl];simp only[L_S];rw[zig hv n hn];rfl
  rw[e1] at hr;refine Ev.bind hr ?_;refine Ev.bind (zf5 hs hp A hnr (by omega) hE.1 hE.2) ?_;by_cases c2:isP wide p (nearU v n) (cE v n)
  ·rw[if_pos c2];refine Ev.congr (λk=>if_pos (decide_eq_true c2)) (Ev.now _)
  ·rw[if_neg c2];refine Ev.congr (λk=>if_neg (λh=>c2 (of_decide_eq_true h))) ?_;refine Ev.congr (λk=>if_pos (by omega)) ?_;refine Ev.congr (λk=>if_pos (by omega)) ?_;rw[Int.toNat_natCast,zb2];have hnm:=zcS (S (v.1.take n)) v.2;(have htl:(v.1.take n).length=n:=by rw[List.length_take,Nat.min_eq_left (by omega)]);rw[zgM (hv.form.1.take n) (by omega) h5.2,htl] at hnm;rw[show val (v.1.take n)=cU v n from rfl,show v.2-(n:Int)=cE v n from rfl] at hnm;refine Ev.bind hnm ?_;have hw:wrap64 (wrap64 (v.2-(n:Int))+1)=cE v n+1:=by
    unfold cE;rw[zaL (x:=v.2-(n:Int)) (by omega) (by omega),zaL (by omega) (by omega)]
   rw[hw];have hone:=zgL (cE v n);have D:(S ([49]:List UInt8))=S (decOf 1 (cE v n)).1:=congrArg Prod.fst hone;have E:cE v n+1=(decOf 1 (cE v n)).2:=congrArg Prod.snd hone;have hadd:=zh8 (S (decOf (cU v n) (cE v n)).1) (decOf (cU v n) (cE v n)).2 (S (decOf 1 (cE v n)).1) (decOf 1 (cE v n)).2;(have hE':cE v n+(n:Int)<=3000:=by omega);(have I:cE v n+((1:Nat):Int)<=3000:=by omega);rw[zh9 (zbc _ _) (zbc _ _) (zcL hu (by omega) hE.1 hE') (zcL (n:=1) (k:=1) (by decide) (by decide) hE.1 I)] at hadd;have e2:addD (decOf (cU v n) (cE v n)).1 (decOf (cU v n) (cE v n)).2 (decOf 1 (cE v n)).1 (decOf 1 (cE v n)).2=(S (decOf (cU v n+1) (cE v n)).1,(decOf (cU v n+1) (cE v n)).2,0):=by
    unfold addD;rw[zgy,if_neg (by have:=(zcL B (by omega) hE.1 hE.2).1;omega)];rfl
   rw[e2,<-D,<-E] at hadd;refine Ev.bind (g:=λk=>zao.f k (S (decOf (cU v n) (cE v n)).1) (decOf (cU v n) (cE v n)).2 (⟨#[49]⟩:ByteArray) (cE v n+1)) hadd ?_;refine Ev.step (λk=>by simp only[zaK.l0];rfl) ?_;refine Ev.congr (λk=>if_pos (by simp)) ?_;refine Ev.congr (λk=>if_pos (by simp)) ?_;refine Ev.bind (zf5 hs hp A hu (by omega) hE.1 hE') ?_;by_cases c3:isP wide p (cU v n) (cE v n)
   ·rw[if_pos c3];exact Ev.congr (λk=>if_pos (decide_eq_true c3)) (Ev.now _)
   ·rw[if_neg c3];refine Ev.congr (λk=>if_neg (λh=>c3 (of_decide_eq_true h))) ?_;rw[show wrap64 ((0:Int)+1)=1 by simp[wrap64]];refine Ev.step (λk=>by simp only[zaK.l0];rfl) ?_;refine Ev.congr (λk=>if_pos (by simp)) ?_;refine Ev.congr (λk=>if_neg (by simp)) ?_;refine Ev.congr (λk=>if_pos (by simp)) ?_;refine Ev.bind (zf5 hs hp A B (by omega) hE.1 hE.2) ?_;by_cases c4:isP wide p (cU v n+1) (cE v n)
    ·rw[if_pos c4];exact Ev.congr (λk=>if_pos (decide_eq_true c4)) (Ev.now _)
    ·rw[if_neg c4];refine Ev.congr (λk=>if_neg (λh=>c4 (of_decide_eq_true h))) ?_;rw[show wrap64 ((1:Int)+1)=2 by simp[wrap64]];refine Ev.step (λk=>by simp only[zaK.l0];rfl) ?_;exact Ev.congr (λk=>if_neg (by simp)) (Ev.now _)
def shortGo(wide:Bool)(p:Nat)(v:List UInt8×Int):Nat->Nat->List UInt8×Int
  |0,_=>v
  |d+1,n=>match bestD wide p v n with
    |some r=>r
    |none=>shortGo wide p v d (n+1)
theorem zcz(wide:Bool)(p:Nat)(v:List UInt8×Int){n:Nat}(h:v.1.length<=n):bestD wide p v n=some v:=by
 unfold bestD;rw[if_pos h]
theorem zih{wide:Bool}{p:Nat}{lo hi v:List UInt8×Int}(hs:Span wide p lo hi)(hv:Val wide p v)(hp:0<p)(A:p<ii wide): ∀(d n:Nat),v.1.length<=n+d->n<=2000->
 Ev (λk=>zaq.l0 k (n:Int) (S v.1) v.2 (S lo.1) lo.2 (S hi.1) hi.2 (decide (p%2=0))) (S (shortGo wide p v d n).1,(shortGo wide p v d n).2,0):=by
 intro d;induction d with
 |zero=>
  intro n h hn;have hb:=zfJ hs hv hp A n;rw[zcz wide p v (n:=n) h] at hb;refine Ev.step (λk=>by simp only[zaq.l0];rfl) ?_;refine Ev.bind hb ?_;exact Ev.congr (λk=>if_pos rfl) (Ev.now _)
 |succ d ih=>
  intro n h hn;have hb:=zfJ hs hv hp A n;refine Ev.step (λk=>by simp only[zaq.l0];rfl) ?_;refine Ev.bind hb ?_;unfold shortGo;cases hbd:bestD wide p v n with
  |some r=>exact Ev.congr (λk=>if_pos rfl) (Ev.now _)
  |none=>
   refine Ev.congr (λk=>if_neg (by decide)) ?_;have hlen:=hv.len;have B:n<v.1.length:=by
    refine Nat.lt_of_not_le λc=>?_;rw[zcz wide p v c] at hbd;cases hbd
   rw[zaL (by omega) (by omega),show((n:Int)+1)=((n+1:Nat):Int) by omega];exact ih (n+1) (by omega) (by omega)
def exV(wide:Bool)(p:Nat):List UInt8×Int:=exD (fM (ff wide) p) ((fE (ff wide) p:Int)-(ll wide:Int))
theorem zei(wide:Bool){p:Nat}(hp:p<ii wide):Val wide p (exV wide p):=by
 have h1:=fEl wide (Nat.le_of_lt hp);have h2:=zc6 wide (Nat.le_of_lt hp);have h:=zck (m:=fM (ff wide) p) (by omega) (e:=(fE (ff wide) p:Int)-(ll wide:Int)) (by omega);exact⟨zcy _ _,h.1,h.2.1,h.2.2⟩
def shortD(wide:Bool)(p:Nat):List UInt8×Int:=shortGo wide p (exV wide p) (exV wide p).1.length 1
def shortS(wide:Bool)(a:Nat):ByteArray×Int×Int:=
  if ii wide<=bareN wide a then(⟨#[]⟩,0,1) else if bareN wide a=0 then(⟨#[]⟩,0,0) else(S (shortD wide (bareN wide a)).1,(shortD wide (bareN wide a)).2,0)
theorem zii(wide:Bool){p:Nat}(hp:0<p)(hi:p<ii wide){lo:List UInt8×Int}(f1:InForm lo.1 lo.2)(b1:lo.1.length<=2000/\ -5000<=lo.2/\lo.2<=5000)
 (c1: ∀(n:Nat) (x:Int),-(vv:Int)<=x->cmpD lo.1 lo.2 (decOf n x).1 (decOf n x).2=cmpN (loX wide p) (dX wide n x)):
 Span wide p lo (exD (2*fM (ff wide) p+1) ((fE (ff wide) p:Int)-(ll wide:Int)-1)):=by
 have h1:=fEl wide (Nat.le_of_lt hi);have h2:=zc6 wide (Nat.le_of_lt hi);have h:=zck (m:=2*fM (ff wide) p+1) (by omega) (e:=(fE (ff wide) p:Int)-(ll wide:Int)-1) (by omega);exact⟨f1,zcy _ _,b1,by omega,c1,λn x hx=>ziP wide p n x hx⟩
theorem zhL{wide:Bool}{p:Nat}{lo hi:List UInt8×Int}(hs:Span wide p lo hi)(hp:0<p)(A:p<ii wide):
 Ev (λk=>zaq.j1 k (p:Int) (ff wide:Int) (-(ll wide:Int)) (ii wide:Int) (S lo.1) lo.2 (S hi.1) hi.2 (decide (p%2=0))) (S (shortD wide p).1,(shortD wide p).2,0):=by
 refine Ev.step (λk=>by simp only[zaq.j1];rfl) ?_;have hsh:=zeI wide (Nat.le_of_lt A);refine Ev.bind hsh ?_;exact zih hs (zei wide A) hp A (exV wide p).1.length 1 (by omega) (by omega)
theorem zfo(wide:Bool)(a:Nat)(ha:a<18446744073709551616):Ev (λk=>zaq.f k (a:Int) (szB wide)) (shortS wide a):=by
 obtain⟨j,hj,ht,hw⟩:=zgu wide;have hi:=zeN wide;have hmt:=Nat.mod_lt a (zeM wide).1;have htt:=(zeM wide).2;unfold zaq.f;rw[zgt];simp only[Option.bind_some,if_true];rw[hw];refine Ev.congr (λk=>if_pos (by omega)) ?_;rw[zdF _ hj,zc4 _ _ (by omega) ha,<-ht];unfold shortS bareN;obtain⟨p,hp⟩: ∃p,a%tt wide=p:=⟨_,rfl⟩;rw[hp] at hmt ⊢;by_cases c1:ii wide<=p
 ·rw[if_pos c1];exact Ev.congr (λk=>if_pos (by omega)) (Ev.now _)
 ·rw[if_neg c1];refine Ev.congr (λk=>if_neg (by omega)) ?_;rw[zdG wide p (by omega)];simp only[Option.bind_some];by_cases c2:p=0
  ·rw[if_pos c2];(have h0:fM (ff wide) p=0:=by rw[c2];cases wide<;>decide);exact Ev.congr (λk=>if_pos (by omega)) (Ev.now _)
  ·rw[if_neg c2];(have A:0<p:=by omega);(have hlt:p<ii wide:=by omega);have hm:=zfa (f:=ff wide) A;refine Ev.congr (λk=>if_neg (by omega)) ?_;have h1:=fEl wide (Nat.le_of_lt hlt);have h2:=zc6 wide (Nat.le_of_lt hlt);obtain⟨e,he⟩: ∃e:Int,(fE (ff wide) p:Int)-(ll wide:Int)=e:=⟨_,rfl⟩;have B:=zie wide A;have D:=zid wide A;have hsp:=λlo=> @zii wide p A hlt lo;have hll:=zgK wide;rw[he] at h1 D B hsp ⊢;obtain⟨m,hmm⟩: ∃m,fM (ff wide) p=m:=⟨_,rfl⟩;rw[hmm] at hm h2 D B hsp ⊢;have e1:IntKind.u64.wrap (IntKind.u64.wrap (2*(m:Int))+1)=((2*m+1:Nat):Int):=by
    rw[show(2:Int)*(m:Int)=((2*m:Nat):Int) by omega,u64N _ (by omega),show(((2*m:Nat):Int)+1)=((2*m+1:Nat):Int) by omega,u64N _ (by omega)]
   have e2:IntKind.u64.wrap (IntKind.u64.wrap (2*(m:Int))-1)=((2*m-1:Nat):Int):=by
    rw[show(2:Int)*(m:Int)=((2*m:Nat):Int) by omega,u64N _ (by omega),show(((2*m:Nat):Int)-1)=((2*m-1:Nat):Int) by omega,u64N _ (by omega)]
   have e4:IntKind.u64.wrap (IntKind.u64.wrap (4*(m:Int))-1)=((4*m-1:Nat):Int):=by
    rw[show(4:Int)*(m:Int)=((4*m:Nat):Int) by omega,u64N _ (by omega),show(((4*m:Nat):Int)-1)=((4*m-1:Nat):Int) by omega,u64N _ (by omega)]
   have w1:wrap64 (e-1)=e-1:=zaL (by omega) (by omega);have w2:wrap64 (e-2)=e-2:=zaL (by omega) (by omega);have x1:=zcw (2*m+1) (e-1) (by omega);rw[zb6 _ (by omega)] at x1;have x2:=zcw (2*m-1) (e-1) (by omega);rw[zb6 _ (by omega)] at x2;have x4:=zcw (4*m-1) (e-2) (by omega);rw[zb6 _ (by omega)] at x4;have s2:=zck (m:=2*m-1) (by omega) (e:=e-1) (by omega);have s4:=zck (m:=4*m-1) (by omega) (e:=e-2) (by omega);rw[e1,w1,e2];refine Ev.bind x1 ?_;refine Ev.bind x2 ?_;refine Ev.congr (λk=>if_pos (by omega)) ?_;have hpar:(Int.tmod (m:Int) 2==0)=decide (p%2=0):=by
    rw[show(2:Int)=((2:Nat):Int) from rfl,tmodN];have hq:p%2=m%2:=by
     obtain⟨g1,_⟩:=fOf (ff wide) p;rw[hmm] at g1;obtain⟨u,hu⟩: ∃u,ff wide=u+1:=⟨ff wide-1,(Nat.sub_add_cancel (Nat.le_trans (by decide) (ziO wide).1)).symm⟩;rw[hu,Nat.pow_succ,<-Nat.mul_assoc] at g1;generalize fE (u+1) p*2^u=G at g1;rw[g1];omega
    rw[hq,Bool.eq_iff_iff];simp;omega
   rw[hpar,zed _ (Nat.le_trans (zhF wide) (by decide))]
   -- the two ways behind
   have E:m≠2^ff wide\/fE (ff wide) p=0->Ev (λk=>zaq.j1 k (p:Int) (ff wide:Int) (-(ll wide:Int)) (ii wide:Int) (S (exD (2*m-1) (e-1)).1) (exD (2*m-1) (e-1)).2 (S (exD (2*m+1) (e-1)).1) (exD (2*m+1) (e-1)).2 (decide (p%2=0))) (S (shortD wide p).1,(shortD wide p).2,0):=λh=>
    zhL (hsp _ (zcy _ _) (by omega) (λn x hx=>D h n x hx)) A hlt
   by_cases c3:m=2^ff wide
   ·refine Ev.congr (λk=>if_pos (by rw[c3])) ?_;by_cases c4:fE (ff wide) p=0
    ·rw[show decide (e> -(ll wide:Int))=false from decide_eq_false (by omega)];refine Ev.step (λk=>by simp only[zaq.j0];rfl) ?_;exact Ev.congr (λk=>if_neg (by decide)) (E (.inr c4))
    ·rw[show decide (e> -(ll wide:Int))=true from decide_eq_true (by omega)];refine Ev.step (λk=>by simp only[zaq.j0];rfl) ?_;refine Ev.congr (λk=>if_pos (by simp)) ?_;rw[e4,w2];refine Ev.bind x4 ?_;exact zhL (hsp _ (zcy _ _) (by omega) (λn x hx=>B c3 c4 n x hx)) A hlt
   ·refine Ev.congr (λk=>if_neg (λh=>c3 (Int.ofNat.inj h))) ?_;refine Ev.step (λk=>by simp only[zaq.j0];rfl) ?_;exact Ev.congr (λk=>if_neg (by decide)) (E (.inl c3))
end Go.Proofs.YtilidabdbhaljaaGreatDoor.Pure
end
section
namespace Go.Proofs.YtilidabdbhaljaaGreatDoor.Fn
open Go.RowKit Go.Proofs.YtilidabdbhaljaaGreatDoorW.PrintWords Go.Proofs.YtilidabdbhaljaaGreatDoorW.PrintLast Go.Proofs.YtilidabdbhaljaaGreatDoorW.PrintMore
set_option maxHeartbeats 8000000
set_option maxRecDepth 100000
section
attribute [local go_sem] fnW_0 fnW_1 fnW_2 fnW_3 fnW_4 fnW_5 fnW_guard fnW_eql zaB zaC zaH zaI
def zaU.f(k:Nat)(E:Int)(I:Int)(B:Int)(D:Int)(J:Int)(K:Bool)(M:Int):Option (ByteArray×Int):=(zaj.f k B D).bind λA=>(some (A.1,A.2.1))
theorem zaU.calls(k:Nat)(Z:Int)(aa:Int)(E:Int)(I:Int)(ab:Int)(ac:Bool)(ad:Int)(r1:ByteArray)(r2:Int)(w:World)(h:zaU.f k Z aa E I ab ac ad=some (r1,r2)):
 Calls Tryz.prog 66 #[.agg #[.int .u64 Z,.int .i64 aa,.int .u64 E,.int .i64 I,.int .i64 ab,.bool ac,.int .i32 ad]] w λe w'=>e= .returned (.agg #[.string r1,.int .i64 r2])/\Below w.heap.size w w':=by
 have aO:=Tryz.underlying52;have aP:=Tryz.underlying74;have HB:=zaa.mk (Below.refl w.heap.size w);have H:((zaj.f k E I).bind λae=>(some (ae.1,ae.2.1)))=some (r1,r2):=h;clear h;replace H:=bs H;obtain⟨⟨af,ag,ai⟩,A2,H⟩:=H;dsimp only at H;obtain⟨rfl,rfl⟩:=o2 H;go_enter Tryz.func66,Tryz.ntmps66;go_wp2_with (first|((with_reducible refine zai (N:=1) rfl ?_);refine zah rfl (N:=1) rfl (cs:=#[.int .u64 Z,.int .i64 aa,.int .u64 E,.int .i64 I,.int .i64 ab,.bool ac,.int .i32 ad]) (t:=52) gz ?_;intro A hg w3 hbox hb;have aI:=gN bz hg;have D:=zaa.mk hbox;replace HB:=bN bz hb;clear hb hbox hg)|((with_reducible refine zai (N:=2) rfl ?_);refine zah rfl (N:=2) rfl (cs:=#[.string (⟨#[]⟩:ByteArray),.int .i64 0]) (t:=74) gz ?_;intro B hg w4 hbox hb;have aJ:=gN bz hg;have J:=lN (g:=A) hg bk;have K:=rN (g:=A) hg bk;replace D:=kN (g:=A) hb bk;have M:=zaa.mk hbox;replace HB:=bN bz hb;clear hb hbox hg;have aQ:=J.out;have aR:=K.out;obtain⟨au,av,aw,ax,ay,az,aA,aB,aC,aD,aE,aF,aG,aH⟩:=cz7 D)|((with_reducible refine zac (f:=102) rfl ?_);refine gB Tryz.func102 (zaj.calls k E I af ag ai _ A2.out) ?_;intro w7 hb;replace D:=kN (g:=A) hb bk;replace M:=kN (g:=B) hb bk;replace HB:=bN bz hb;clear hb)|((with_reducible refine zai (N:=3) rfl ?_);refine zah rfl (N:=3) rfl (cs:=#[.string (⟨#[]⟩:ByteArray),.int .i64 0]) (t:=74) gz ?_;intro aK hg w8 hbox hb;have aL:=gN bz hg;have O:=lN (g:=A) hg bk;have U:=rN (g:=A) hg bk;have X:=lN (g:=B) hg bk;have Y:=rN (g:=B) hg bk;replace D:=kN (g:=A) hb bk;replace M:=kN (g:=B) hb bk;have ah:=zaa.mk hbox;replace HB:=bN bz hb;clear hb hbox hg;have aS:=U.out;have aT:=O.out;have aM:=Y.out;have aN:=X.out;obtain⟨aj,ak,al,am⟩:=cz2 ah;obtain⟨an,ao,ap,ar⟩:=cz2 M));refine bodyPost_ret (results_cell_row rfl _ _ B 74 #[.string af,.int .i64 ag] (0,0) _ rfl bk Tryz.underlying74 rfl (by kernel_rfl)) rfl ?_;exact⟨ez,bz⟩
def zan.j0:Nat->Int->Int->Int->Int->Int->Int->Bool->Int->Option (ByteArray)
 |0,_,_,_,_,_,_,_,_=>none
 |k+1,x3,A,B,D,E,I,J,K=>(zaU.f k A B D E I J K).bind λO=>((za7.f k O.1 O.2 (wrap64 (x3+1))).bind λM=>((zaQ.f M.1 (wrap64 (x3+1))).bind λU=>((zbg.f M.1 M.2.1).bind λX=>((zak.f k A B D E I J K U X).bind λY=>(some Y)))))
def zan.f(k:Nat)(B:Int)(D:Int)(E:Int)(I:Int)(A:Int)(J:Bool)(K:Int):Option (ByteArray):=if A<0 then(zan.j0 k 6 B D E I A J K) else(zan.j0 k A B D E I A J K)
def zan.T5:Bool×List (List Nat×List Nat):=(true,[([],[]),([],[]),([1],[1]),([],[]),([3],[3]),([2,4],[2,4]),([],[]),([6,5],[6]),([0,5,7,7],[0,5,7]),([8,8,0,1,2,3,4,5,6,7,8],[8])])
def zan.B5:List Nat:=[0,0,2,0,8,30,0,126,255,511]
theorem zan.tab5:rtab .any (opsOf Tryz.f39 5)=zan.T5:=by kernel_rfl
theorem zan.bits5:waitsOk zan.T5.2 zan.B5=true:=by kernel_rfl
theorem zan.calls(k:Nat)(I:Int)(J:Int)(M:Int)(O:Int)(B:Int)(U:Bool)(X:Int)(r:ByteArray)(w:World)(h:zan.f k I J M O B U X=some r):
  Calls Tryz.prog 39 #[.agg #[.int .u64 I,.int .i64 J,.int .u64 M,.int .i64 O,.int .i64 B,.bool U,.int .i32 X]] w λe w'=>e= .returned (.string r)/\Below w.heap.size w w':=by
 have a8:=Tryz.underlying52;have a9:=Tryz.underlying74;have HB:=zaa.mk (Below.refl w.heap.size w);have H:(if B<0 then(zan.j0 k 6 I J M O B U X) else(zan.j0 k B I J M O B U X))=some r:=h;clear h;have aC:=zaa.mk H;clear H;go_enter Tryz.func39,Tryz.ntmps39;(go_upto_if 9 with(first|((with_reducible refine zai (N:=1) rfl ?_);refine zah rfl (N:=1) rfl (cs:=#[.int .u64 I,.int .i64 J,.int .u64 M,.int .i64 O,.int .i64 B,.bool U,.int .i32 X]) (t:=52) gz ?_;intro D hg w3 hbox hb;have a2:=gN bz hg;have A:=zaa.mk hbox;replace HB:=bN bz hb;clear hb hbox hg;obtain⟨ag,ah,ai,aj,ak,al,am,an,ao,ap,ar,au,av,aw⟩:=cz7 A)));(try simp only[Act.put,List.setIfInBounds_toArray,List.set_cons_zero,List.set_cons_succ]);go_cut [3] (λv3 wc=> ∃(kq:Nat) (ac:Int),v3= .int .i64 ac/\zaa (zan.j0 kq ac I J M O B U X=some r)/\zaa (kq<=k)/\zaa (wc.heap[D]? =some (.cells #[.int .u64 I,.int .i64 J,.int .u64 M,.int .i64 O,.int .i64 B,.bool U,.int .i32 X] 52 (0,0)))/\zaa (Below w.heap.size w wc));case first=>
  have H:=aC.out;clear aC;by_cases c5:B<0
  (·replace H:=hE H c5;have af:=decide_eq_true c5;clear c5;(try rw[af]);have H':=zaa.mk H;clear H;go_wp2;go_meet;case rel=>exact⟨_,(6),rz,H',⟨by first|omega|exact Nat.le_refl _⟩,⟨bk⟩,⟨bz⟩⟩);replace H:=hN H c5;have af:=decide_eq_false c5;clear c5;(try rw[af]);have H':=zaa.mk H;clear H;go_wp2;go_meet;case rel=>exact⟨_,(B),rz,H',⟨by first|omega|exact Nat.le_refl _⟩,⟨bk⟩,⟨bz⟩⟩
 case rest=>
  clear aC;(try clear ag ah ai aj ak al am an ao ap ar au av aw);obtain⟨kq,ac,rfl,HA,ba,A,HB⟩:=hcut;cases kq with
  |zero=>exact absurd HA.out (by simp[zan.j0])
  |succ aD=>
   have H:=HA.out;clear HA;simp only[zan.j0] at H;replace H:=bs H;obtain⟨⟨ay,az⟩,A6,H⟩:=H;dsimp only at H;replace H:=bs H;obtain⟨⟨Z,aa,aH⟩,A7,H⟩:=H;dsimp only at H;replace H:=bs H;obtain⟨aA,A8,H⟩:=H;replace H:=bs H;obtain⟨aB,A9,H⟩:=H;replace H:=bs H;obtain⟨aI,a3,H⟩:=H;obtain rfl:=Option.some.inj H;obtain⟨aJ,aK,aL,aM,aN,aO,aP,aQ,aR,aS,aT,aU,aV,aW⟩:=cz7 A;(try go_wp2_with (first|((with_reducible refine zac (f:=66) rfl ?_);refine gB Tryz.func66 (zaU.calls aD I J M O B U X ay az _ A6.out) ?_;intro bb hb;replace A:=kN (g:=D) (cs:=#[.int .u64 I,.int .i64 J,.int .u64 M,.int .i64 O,.int .i64 B,.bool U,.int .i32 X]) hb bk;replace HB:=bN bz hb;clear hb)|((with_reducible refine zac (f:=65) rfl ?_);refine gB Tryz.func65 (za7.calls aD ay az (wrap64 (ac+1)) Z aa aH _ A7.out) ?_;intro bd hb;replace A:=kN (g:=D) (cs:=#[.int .u64 I,.int .i64 J,.int .u64 M,.int .i64 O,.int .i64 B,.bool U,.int .i32 X]) hb bk;replace HB:=bN bz hb;clear hb)|((with_reducible refine zai (N:=4) rfl ?_);refine zah rfl (N:=4) rfl (cs:=#[.string (⟨#[]⟩:ByteArray),.int .i64 0]) (t:=74) gz ?_;intro Y hg ax hbox hb;have a4:=gN bz hg;have ad:=lN (g:=D) (cs:=#[.int .u64 I,.int .i64 J,.int .u64 M,.int .i64 O,.int .i64 B,.bool U,.int .i32 X]) hg bk;have ae:=rN (g:=D) (cs:=#[.int .u64 I,.int .i64 J,.int .u64 M,.int .i64 O,.int .i64 B,.bool U,.int .i32 X]) hg bk;replace A:=kN (g:=D) (cs:=#[.int .u64 I,.int .i64 J,.int .u64 M,.int .i64 O,.int .i64 B,.bool U,.int .i32 X]) hb bk;have E:=zaa.mk hbox;replace HB:=bN bz hb;clear hb hbox hg;have a5:=ae.out;have a6:=ad.out;obtain⟨aX,aY,aZ,a1⟩:=cz2 E)));have aE:zaa (((ax.setCell ⟨Y,0,none⟩ (.string Z)).setCell ⟨Y,1,none⟩ (.int .i64 aa)).heap[D]? =some (.cells #[.int .u64 I,.int .i64 J,.int .u64 M,.int .i64 O,.int .i64 B,.bool U,.int .i32 X] 52 (0,0))):=⟨bk⟩;have aF:zaa (((ax.setCell ⟨Y,0,none⟩ (.string Z)).setCell ⟨Y,1,none⟩ (.int .i64 aa)).heap[Y]? =some (.cells #[.string Z,.int .i64 aa] 74 (0,0))):=⟨bk⟩;have aG:zaa (Below w.heap.size w ((ax.setCell ⟨Y,0,none⟩ (.string Z)).setCell ⟨Y,1,none⟩ (.int .i64 aa))):=⟨bz⟩;(try clear A);(try clear E);(try clear HB);generalize ((ax.setCell ⟨Y,0,none⟩ (.string Z)).setCell ⟨Y,1,none⟩ (.int .i64 aa))=a7 at aE aF aG ⊢;have A:=aE;have E:=aF;have HB:=aG;clear aE aF aG;replace A:=zaa.mk (zap A.out);replace E:=zaa.mk (zap E.out);replace HB:=zaa.mk (zaG HB.out);refine za9 (n:=10) (S:=λw'=>w'.cell? ⟨D,0,none⟩=some (.int .u64 I)/\w'.cell? ⟨D,1,none⟩=some (.int .i64 J)/\w'.cell? ⟨D,2,none⟩=some (.int .u64 M)/\w'.cell? ⟨D,3,none⟩=some (.int .i64 O)/\w'.cell? ⟨D,4,none⟩=some (.int .i64 B)/\w'.cell? ⟨D,5,none⟩=some (.bool U)/\w'.cell? ⟨D,6,none⟩=some (.int .i32 X)/\w'.cell? ⟨Y,0,none⟩=some (.string Z)/\w'.cell? ⟨Y,1,none⟩=some (.int .i64 aa)) (ds:=[]) #[false,false,false,false,false,false,false,false,false,false] (by kernel_rfl) rfl rfl ⟨(zab A.out 0).trans rfl,(zab A.out 1).trans rfl,(zab A.out 2).trans rfl,(zab A.out 3).trans rfl,(zab A.out 4).trans rfl,(zab A.out 5).trans rfl,(zab A.out 6).trans rfl,(zab E.out 0).trans rfl,(zab E.out 1).trans rfl⟩ (λhHeld=>?_);refine za1 zan.tab5 zan.bits5 (λab HW_=>?_);generalize a7.drew=be at A E HB hHeld ⊢;refine pz (i:=1) (N:=19) ab ?_;refine pz (i:=3) (N:=21) ab ?_;refine pz (i:=4) (N:=22) ab ?_;refine tz (i:=0) (N:=18) rfl ab HW_ hHeld (by(rintro w' ⟨s0,s1,s2,s3,s4,s5,s6,s7,s8⟩;go_simp;with_reducible rfl)) ?_;refine tz (i:=2) (N:=20) rfl ab HW_ hHeld (by(rintro w' ⟨s0,s1,s2,s3,s4,s5,s6,s7,s8⟩;go_simp;with_reducible rfl)) ?_;refine tz (i:=6) (N:=24) rfl ab HW_ hHeld (by(rintro w' ⟨s0,s1,s2,s3,s4,s5,s6,s7,s8⟩;go_simp;with_reducible rfl)) ?_;refine oz (i:=5) (N:=some 23) ab λK hK=>?_;refine gG Tryz.func68 (zaQ.calls Z (wrap64 (ac+1)) aA _ A8.out) ?_;intro bf hb;replace A:=kN (g:=D) (cs:=#[.int .u64 I,.int .i64 J,.int .u64 M,.int .i64 O,.int .i64 B,.bool U,.int .i32 X]) hb bk;replace E:=kN (g:=Y) (cs:=#[.string Z,.int .i64 aa]) hb bk;replace HB:=bN bz hb;clear hb;refine hK.out _ _ ⟨bc A 0,bc A 1,bc A 2,bc A 3,bc A 4,bc A 5,bc A 6,bc E 0,bc E 1⟩ (λhHeld=>?_);clear hK K;refine nz ?_;refine oz (i:=7) (N:=some 25) ab λK hK=>?_;refine gG Tryz.func69 (zbg.calls Z aa aB _ A9.out) ?_;intro bg hb;replace A:=kN (g:=D) (cs:=#[.int .u64 I,.int .i64 J,.int .u64 M,.int .i64 O,.int .i64 B,.bool U,.int .i32 X]) hb bk;replace E:=kN (g:=Y) (cs:=#[.string Z,.int .i64 aa]) hb bk;replace HB:=bN bz hb;clear hb;refine hK.out _ _ ⟨bc A 0,bc A 1,bc A 2,bc A 3,bc A 4,bc A 5,bc A 6,bc E 0,bc E 1⟩ (λhHeld=>?_);clear hK K;refine nz ?_;refine oz (i:=8) (N:=some 26) ab λK hK=>?_;refine gG Tryz.func67 (zak.calls aD I J M O B U X aA aB aI _ a3.out) ?_;intro bh hb;replace A:=kN (g:=D) (cs:=#[.int .u64 I,.int .i64 J,.int .u64 M,.int .i64 O,.int .i64 B,.bool U,.int .i32 X]) hb bk;replace E:=kN (g:=Y) (cs:=#[.string Z,.int .i64 aa]) hb bk;replace HB:=bN bz hb;clear hb;refine hK.out _ _ ⟨bc A 0,bc A 1,bc A 2,bc A 3,bc A 4,bc A 5,bc A 6,bc E 0,bc E 1⟩ (λhHeld=>?_);clear hK K;refine nz ?_;refine pz (i:=9) (N:=2) ab ?_;refine dz ab ?_;(try go_wp2);go_ret;exact⟨ez,bz⟩
def zam.j0:Nat->Int->Int->Int->Int->Int->Int->Bool->Int->Option (ByteArray)
 |0,_,_,_,_,_,_,_,_=>none
 |k+1,x3,B,D,E,I,J,K,M=>(zaU.f k B D E I J K M).bind λO=>((zbp.f k O.1 O.2 x3).bind λA=>(if A.1.toList=([]:List UInt8) then((strings_Repeat.f (⟨#[48]⟩:ByteArray) x3).bind λX=>((zax.f B D E I J K M (⟨#[48]⟩:ByteArray) X).bind λY=>(some Y))) else(if A.2.1<=0 then((strings_Repeat.f (⟨#[48]⟩:ByteArray) (wrap64 (-A.2.1))).bind λU=>(if U.size+A.1.size<=9223372036854775807 then((zaQ.f (U++A.1) x3).bind λZ=>((zax.f B D E I J K M (⟨#[48]⟩:ByteArray) Z).bind λaa=>(some aa))) else(none))) else((zaQ.f A.1 (wrap64 (A.2.1+x3))).bind λab=>((zar.f B D E I J K M ab A.2.1).bind λac=>(some ac))))))
def zam.f(k:Nat)(B:Int)(D:Int)(E:Int)(I:Int)(A:Int)(J:Bool)(K:Int):Option (ByteArray):=if A<0 then(zam.j0 k 6 B D E I A J K) else(zam.j0 k A B D E I A J K)
def zam.T8:Bool×List (List Nat×List Nat):=(true,[([],[]),([],[]),([1],[1]),([2],[2]),([3],[3]),([],[]),([5],[5]),([4,6],[4,6]),([],[]),([7,8,4],[7,8]),([0,9,9],[0,9]),([10,10,0,1,2,3,4,5,6,7,8,9,10],[10])])
def zam.B8:List Nat:=[0,0,2,6,14,0,32,126,0,510,1023,2047]
theorem zam.tab8:rtab .any (opsOf Tryz.f40 8)=zam.T8:=by kernel_rfl
theorem zam.bits8:waitsOk zam.T8.2 zam.B8=true:=by kernel_rfl
def zam.T9:Bool×List (List Nat×List Nat):=(true,[([],[]),([],[]),([1],[1]),([],[]),([3],[3]),([],[]),([4,5],[4,5]),([2,6],[2,6]),([],[]),([8],[8]),([0,7,9,7],[0,7,9]),([10,10,0,1,2,3,4,5,6,7,8,9,10],[10])])
def zam.B9:List Nat:=[0,0,2,0,8,0,56,126,0,256,1023,2047]
theorem zam.tab9:rtab .any (opsOf Tryz.f40 9)=zam.T9:=by kernel_rfl
theorem zam.bits9:waitsOk zam.T9.2 zam.B9=true:=by kernel_rfl
theorem zam.calls(k:Nat)(M:Int)(O:Int)(U:Int)(X:Int)(J:Int)(Y:Bool)(Z:Int)(r:ByteArray)(w:World)(h:zam.f k M O U X J Y Z=some r):
  Calls Tryz.prog 40 #[.agg #[.int .u64 M,.int .i64 O,.int .u64 U,.int .i64 X,.int .i64 J,.bool Y,.int .i32 Z]] w λe w'=>e= .returned (.string r)/\Below w.heap.size w w':=by
 have bP:=Tryz.underlying52;have bQ:=Tryz.underlying74;have HB:=zaa.mk (Below.refl w.heap.size w);have H:(if J<0 then(zam.j0 k 6 M O U X J Y Z) else(zam.j0 k J M O U X J Y Z))=some r:=h;clear h;have aM:=zaa.mk H;clear H;go_enter Tryz.func40,Tryz.ntmps40;(go_upto_if 9 with(first|((with_reducible refine zai (N:=1) rfl ?_);refine zah rfl (N:=1) rfl (cs:=#[.int .u64 M,.int .i64 O,.int .u64 U,.int .i64 X,.int .i64 J,.bool Y,.int .i32 Z]) (t:=52) gz ?_;intro E hg w3 hbox hb;have bn:=gN bz hg;have A:=zaa.mk hbox;replace HB:=bN bz hb;clear hb hbox hg;obtain⟨ap,ar,au,av,aw,ax,ay,az,aA,aB,aC,aD,aE,aF⟩:=cz7 A)));(try simp only[Act.put,List.setIfInBounds_toArray,List.set_cons_zero,List.set_cons_succ]);go_cut [3] (λv3 wc=> ∃(kq:Nat) (af:Int),v3= .int .i64 af/\zaa (zam.j0 kq af M O U X J Y Z=some r)/\zaa (kq<=k)/\zaa (wc.heap[E]? =some (.cells #[.int .u64 M,.int .i64 O,.int .u64 U,.int .i64 X,.int .i64 J,.bool Y,.int .i32 Z] 52 (0,0)))/\zaa (Below w.heap.size w wc));case first=>
  have H:=aM.out;clear aM;by_cases c5:J<0
  (·replace H:=hE H c5;have ao:=decide_eq_true c5;clear c5;(try rw[ao]);have H':=zaa.mk H;clear H;go_wp2;go_meet;case rel=>exact⟨_,(6),rz,H',⟨by first|omega|exact Nat.le_refl _⟩,⟨bk⟩,⟨bz⟩⟩);replace H:=hN H c5;have ao:=decide_eq_false c5;clear c5;(try rw[ao]);have H':=zaa.mk H;clear H;go_wp2;go_meet;case rel=>exact⟨_,(J),rz,H',⟨by first|omega|exact Nat.le_refl _⟩,⟨bk⟩,⟨bz⟩⟩
 case rest=>
  clear aM;(try clear ap ar au av aw ax ay az aA aB aC aD aE aF);obtain⟨kq,af,rfl,HA,bR,A,HB⟩:=hcut;cases kq with
  |zero=>exact absurd HA.out (by simp[zam.j0])
  |succ aP=>
   have H:=HA.out;clear HA;simp only[zam.j0] at H;replace H:=bs H;obtain⟨⟨aG,aH⟩,A6,H⟩:=H;dsimp only at H;replace H:=bs H;obtain⟨⟨I,aa,aQ⟩,A7,H⟩:=H;dsimp only at H;obtain⟨a7,a8,a9,ba,bb,bd,be,bf,bg,bh,bi,bj,bl,bm⟩:=cz7 A;(go_upto_if 17 with(first|((with_reducible refine zac (f:=66) rfl ?_);refine gB Tryz.func66 (zaU.calls aP M O U X J Y Z aG aH _ A6.out) ?_;intro w9 hb;replace A:=kN (g:=E) (cs:=#[.int .u64 M,.int .i64 O,.int .u64 U,.int .i64 X,.int .i64 J,.bool Y,.int .i32 Z]) hb bk;replace HB:=bN bz hb;clear hb)|((with_reducible refine zac (f:=70) rfl ?_);refine gB Tryz.func70 (zbp.calls aP aG aH af I aa aQ _ A7.out) ?_;intro bS hb;replace A:=kN (g:=E) (cs:=#[.int .u64 M,.int .i64 O,.int .u64 U,.int .i64 X,.int .i64 J,.bool Y,.int .i32 Z]) hb bk;replace HB:=bN bz hb;clear hb)|((with_reducible refine zai (N:=4) rfl ?_);refine zah rfl (N:=4) rfl (cs:=#[.string (⟨#[]⟩:ByteArray),.int .i64 0]) (t:=74) gz ?_;intro D hg ae hbox hb;have bo:=gN bz hg;have ac:=lN (g:=E) (cs:=#[.int .u64 M,.int .i64 O,.int .u64 U,.int .i64 X,.int .i64 J,.bool Y,.int .i32 Z]) hg bk;have ad:=rN (g:=E) (cs:=#[.int .u64 M,.int .i64 O,.int .u64 U,.int .i64 X,.int .i64 J,.bool Y,.int .i32 Z]) hg bk;replace A:=kN (g:=E) (cs:=#[.int .u64 M,.int .i64 O,.int .u64 U,.int .i64 X,.int .i64 J,.bool Y,.int .i32 Z]) hb bk;have B:=zaa.mk hbox;replace HB:=bN bz hb;clear hb hbox hg;have bp:=ad.out;have bq:=ac.out;obtain⟨aR,aS,aT,aU⟩:=cz2 B)));(try simp only[Act.put,List.setIfInBounds_toArray,List.set_cons_zero,List.set_cons_succ]);by_cases ak:I.toList=([]:List UInt8)
   ·replace H:=hE H ak;have ag:(I.toList==([]:List UInt8))=true:=beq_iff_eq.mpr ak;have al:(I.toList !=([]:List UInt8))=false:=bne_eq_false_iff_eq.mpr ak;(have am:I.toList.isEmpty=true:=by simpa using ag);clear ak;(try first|rw[ag]|rw[al]|rw[am]);replace H:=bs H;obtain⟨aI,br,H⟩:=H;replace H:=bs H;obtain⟨aV,bu,H⟩:=H;obtain rfl:=Option.some.inj H;(try go_wp2);have ah:zaa (((ae.setCell ⟨D,0,none⟩ (.string I)).setCell ⟨D,1,none⟩ (.int .i64 aa)).heap[E]? =some (.cells #[.int .u64 M,.int .i64 O,.int .u64 U,.int .i64 X,.int .i64 J,.bool Y,.int .i32 Z] 52 (0,0))):=⟨bk⟩;have ai:zaa (((ae.setCell ⟨D,0,none⟩ (.string I)).setCell ⟨D,1,none⟩ (.int .i64 aa)).heap[D]? =some (.cells #[.string I,.int .i64 aa] 74 (0,0))):=⟨bk⟩;have aj:zaa (Below w.heap.size w ((ae.setCell ⟨D,0,none⟩ (.string I)).setCell ⟨D,1,none⟩ (.int .i64 aa))):=⟨bz⟩;(try clear A);(try clear B);(try clear HB);generalize ((ae.setCell ⟨D,0,none⟩ (.string I)).setCell ⟨D,1,none⟩ (.int .i64 aa))=bv at ah ai aj ⊢;have A:=ah;have B:=ai;have HB:=aj;clear ah ai aj;replace A:=zaa.mk (zap A.out);replace B:=zaa.mk (zap B.out);replace HB:=zaa.mk (zaG HB.out);refine za9 (n:=5) (S:=λw'=>w'.cell? ⟨E,0,none⟩=some (.int .u64 M)/\w'.cell? ⟨E,1,none⟩=some (.int .i64 O)/\w'.cell? ⟨E,2,none⟩=some (.int .u64 U)/\w'.cell? ⟨E,3,none⟩=some (.int .i64 X)/\w'.cell? ⟨E,4,none⟩=some (.int .i64 J)/\w'.cell? ⟨E,5,none⟩=some (.bool Y)/\w'.cell? ⟨E,6,none⟩=some (.int .i32 Z)) (ds:=[]) #[false,false,false,false,false] (by kernel_rfl) rfl rfl ⟨(zab A.out 0).trans rfl,(zab A.out 1).trans rfl,(zab A.out 2).trans rfl,(zab A.out 3).trans rfl,(zab A.out 4).trans rfl,(zab A.out 5).trans rfl,(zab A.out 6).trans rfl⟩ (λhHeld=>?_);generalize bv.drew=bU at A B HB hHeld ⊢;refine zbr (i:=1) (N:=some 22) (v:=?_) (a':=?_) #[false,true,false,false,false] rfl rfl (by kernel_rfl) (λ_ _ _ h=>h) (Or.inl ⟨by rfl,?_⟩) ?_ ?_;rotate_left
    (·intro w';go_simp;with_reducible rfl);rotate_left
    (·simp only[Act.put,List.setIfInBounds_toArray,List.set_cons_zero,List.set_cons_succ,zaM,zaX];rfl);refine zcf (i:=0) (N:=some 21) (v:=?_) (a':=?_) #[true,true,false,false,false] rfl rfl (by kernel_rfl) (λ_ _ _ h=>h) (Or.inl ⟨by rfl,?_⟩) hHeld ?_ ?_;rotate_left
    (·rintro w' ⟨s0,s1,s2,s3,s4,s5,s6⟩;go_simp;with_reducible rfl);rotate_left
    (·simp only[Act.put,List.setIfInBounds_toArray,List.set_cons_zero,List.set_cons_succ,zaM,zaX];rfl);refine one_ (i:=2) (N:=some 23) #[true,true,true,false,false] rfl rfl (by kernel_rfl) (by decide) (λK hK=>?_);refine gG Tryz.func44 (strings_Repeat.calls (⟨#[48]⟩:ByteArray) af aI _ br.out) ?_;intro bV hb;replace A:=kN (g:=E) (cs:=#[.int .u64 M,.int .i64 O,.int .u64 U,.int .i64 X,.int .i64 J,.bool Y,.int .i32 Z]) hb bk;replace B:=kN (g:=D) (cs:=#[.string I,.int .i64 aa]) hb bk;replace HB:=bN bz hb;clear hb;refine hK.out _ _ (d7 A) (λhHeld=>?_);clear hK K;refine nz ?_;refine one_ (i:=3) (N:=some 24) #[true,true,true,true,false] rfl rfl (by kernel_rfl) (by decide) (λK hK=>?_);refine gG Tryz.func71 (zax.calls M O U X J Y Z (⟨#[48]⟩:ByteArray) aI aV _ bu.out) ?_;intro bW hb;replace A:=kN (g:=E) (cs:=#[.int .u64 M,.int .i64 O,.int .u64 U,.int .i64 X,.int .i64 J,.bool Y,.int .i32 Z]) hb bk;replace B:=kN (g:=D) (cs:=#[.string I,.int .i64 aa]) hb bk;replace HB:=bN bz hb;clear hb;refine hK.out _ _ (d7 A) (λhHeld=>?_);clear hK K;refine nz ?_;refine zbr (i:=4) (N:=some 2) (v:=?_) (a':=?_) #[true,true,true,true,true] rfl rfl (by kernel_rfl) (λ_ _ _ h=>h) (Or.inl ⟨by rfl,?_⟩) ?_ ?_;rotate_left
    (·intro w';go_simp;with_reducible rfl);rotate_left
    (·simp only[Act.put,List.setIfInBounds_toArray,List.set_cons_zero,List.set_cons_succ,zaM,zaX];rfl);refine zcY (by kernel_rfl) ?_;(try go_wp2);go_ret;exact⟨ez,bz⟩
   replace H:=hN H ak;have ag:(I.toList==([]:List UInt8))=false:=beq_eq_false_iff_ne.mpr ak;have al:(I.toList !=([]:List UInt8))=true:=bne_iff_ne.mpr ak;(have am:I.toList.isEmpty=false:=by simpa using ag);(try first|rw[ag]|rw[al]|rw[am]);by_cases an:aa<=0;case neg=>
    replace H:=hN H an;have aN:=decide_eq_false an;clear an;replace H:=bs H;obtain⟨aL,bJ,H⟩:=H;replace H:=bs H;obtain⟨a2,bK,H⟩:=H;obtain rfl:=Option.some.inj H;have bL:=ad.out;have bM:=ac.out;obtain⟨a3,a4,a5,a6⟩:=cz2 B;(try go_wp2);have ah:zaa (((ae.setCell ⟨D,0,none⟩ (.string I)).setCell ⟨D,1,none⟩ (.int .i64 aa)).heap[E]? =some (.cells #[.int .u64 M,.int .i64 O,.int .u64 U,.int .i64 X,.int .i64 J,.bool Y,.int .i32 Z] 52 (0,0))):=⟨bk⟩;have ai:zaa (((ae.setCell ⟨D,0,none⟩ (.string I)).setCell ⟨D,1,none⟩ (.int .i64 aa)).heap[D]? =some (.cells #[.string I,.int .i64 aa] 74 (0,0))):=⟨bk⟩;have aj:zaa (Below w.heap.size w ((ae.setCell ⟨D,0,none⟩ (.string I)).setCell ⟨D,1,none⟩ (.int .i64 aa))):=⟨bz⟩;(try clear A);(try clear B);(try clear HB);generalize ((ae.setCell ⟨D,0,none⟩ (.string I)).setCell ⟨D,1,none⟩ (.int .i64 aa))=bO at ah ai aj ⊢;have A:=ah;have B:=ai;have HB:=aj;clear ah ai aj;replace A:=zaa.mk (zap A.out);replace B:=zaa.mk (zap B.out);replace HB:=zaa.mk (zaG HB.out);refine za9 (n:=12) (S:=λw'=>w'.cell? ⟨E,0,none⟩=some (.int .u64 M)/\w'.cell? ⟨E,1,none⟩=some (.int .i64 O)/\w'.cell? ⟨E,2,none⟩=some (.int .u64 U)/\w'.cell? ⟨E,3,none⟩=some (.int .i64 X)/\w'.cell? ⟨E,4,none⟩=some (.int .i64 J)/\w'.cell? ⟨E,5,none⟩=some (.bool Y)/\w'.cell? ⟨E,6,none⟩=some (.int .i32 Z)/\w'.cell? ⟨D,0,none⟩=some (.string I)/\w'.cell? ⟨D,1,none⟩=some (.int .i64 aa)) (ds:=[]) #[false,false,false,false,false,false,false,false,false,false,false,false] (by kernel_rfl) rfl rfl ⟨(zab A.out 0).trans rfl,(zab A.out 1).trans rfl,(zab A.out 2).trans rfl,(zab A.out 3).trans rfl,(zab A.out 4).trans rfl,(zab A.out 5).trans rfl,(zab A.out 6).trans rfl,(zab B.out 0).trans rfl,(zab B.out 1).trans rfl⟩ (λhHeld=>?_);refine za1 zam.tab9 zam.bits9 (λab HW_=>?_);generalize bO.drew=b1 at A B HB hHeld ⊢;refine pz (i:=1) (N:=41) ab ?_;refine pz (i:=3) (N:=43) ab ?_;refine pz (i:=5) (N:=45) ab ?_;refine pz (i:=8) (N:=48) ab ?_;refine tz (i:=0) (N:=40) rfl ab HW_ hHeld (by(rintro w' ⟨s0,s1,s2,s3,s4,s5,s6,s7,s8⟩;go_simp;with_reducible rfl)) ?_;refine tz (i:=2) (N:=42) rfl ab HW_ hHeld (by(rintro w' ⟨s0,s1,s2,s3,s4,s5,s6,s7,s8⟩;go_simp;with_reducible rfl)) ?_;refine tz (i:=4) (N:=44) rfl ab HW_ hHeld (by(rintro w' ⟨s0,s1,s2,s3,s4,s5,s6,s7,s8⟩;go_simp;with_reducible rfl)) ?_;refine pz (i:=6) (N:=46) ab ?_;refine tz (i:=9) (N:=49) rfl ab HW_ hHeld (by(rintro w' ⟨s0,s1,s2,s3,s4,s5,s6,s7,s8⟩;go_simp;with_reducible rfl)) ?_;refine oz (i:=7) (N:=some 47) ab λK hK=>?_;refine gG Tryz.func68 (zaQ.calls I (wrap64 (aa+af)) aL _ bJ.out) ?_;intro b2 hb;replace A:=kN (g:=E) (cs:=#[.int .u64 M,.int .i64 O,.int .u64 U,.int .i64 X,.int .i64 J,.bool Y,.int .i32 Z]) hb bk;replace B:=kN (g:=D) (cs:=#[.string I,.int .i64 aa]) hb bk;replace HB:=bN bz hb;clear hb;refine hK.out _ _ ⟨bc A 0,bc A 1,bc A 2,bc A 3,bc A 4,bc A 5,bc A 6,bc B 0,bc B 1⟩ (λhHeld=>?_);clear hK K;refine nz ?_;refine oz (i:=10) (N:=some 50) ab λK hK=>?_;refine gG Tryz.func72 (zar.calls M O U X J Y Z aL aa a2 _ bK.out) ?_;intro b3 hb;replace A:=kN (g:=E) (cs:=#[.int .u64 M,.int .i64 O,.int .u64 U,.int .i64 X,.int .i64 J,.bool Y,.int .i32 Z]) hb bk;replace B:=kN (g:=D) (cs:=#[.string I,.int .i64 aa]) hb bk;replace HB:=bN bz hb;clear hb;refine hK.out _ _ ⟨bc A 0,bc A 1,bc A 2,bc A 3,bc A 4,bc A 5,bc A 6,bc B 0,bc B 1⟩ (λhHeld=>?_);clear hK K;refine nz ?_;refine pz (i:=11) (N:=2) ab ?_;refine dz ab ?_;(try go_wp2);go_ret;exact⟨ez,bz⟩
   replace H:=hE H an;have aN:=decide_eq_true an;clear an;replace H:=bs H;obtain⟨aJ,bw,H⟩:=H;obtain⟨aO,H⟩:=hG H;have bA:=eq_true aO;have bB:=decide_eq_true aO;have bC:=eq_false (Nat.not_lt.2 aO);replace H:=bs H;obtain⟨aK,bD,H⟩:=H;replace H:=bs H;obtain⟨aW,bE,H⟩:=H;obtain rfl:=Option.some.inj H;have bG:=ad.out;have bH:=ac.out;obtain⟨aX,aY,aZ,a1⟩:=cz2 B;(try go_wp2);have ah:zaa (((ae.setCell ⟨D,0,none⟩ (.string I)).setCell ⟨D,1,none⟩ (.int .i64 aa)).heap[E]? =some (.cells #[.int .u64 M,.int .i64 O,.int .u64 U,.int .i64 X,.int .i64 J,.bool Y,.int .i32 Z] 52 (0,0))):=⟨bk⟩;have ai:zaa (((ae.setCell ⟨D,0,none⟩ (.string I)).setCell ⟨D,1,none⟩ (.int .i64 aa)).heap[D]? =some (.cells #[.string I,.int .i64 aa] 74 (0,0))):=⟨bk⟩;have aj:zaa (Below w.heap.size w ((ae.setCell ⟨D,0,none⟩ (.string I)).setCell ⟨D,1,none⟩ (.int .i64 aa))):=⟨bz⟩;(try clear A);(try clear B);(try clear HB);generalize ((ae.setCell ⟨D,0,none⟩ (.string I)).setCell ⟨D,1,none⟩ (.int .i64 aa))=bI at ah ai aj ⊢;have A:=ah;have B:=ai;have HB:=aj;clear ah ai aj;replace A:=zaa.mk (zap A.out);replace B:=zaa.mk (zap B.out);replace HB:=zaa.mk (zaG HB.out);refine za9 (n:=12) (S:=λw'=>w'.cell? ⟨E,0,none⟩=some (.int .u64 M)/\w'.cell? ⟨E,1,none⟩=some (.int .i64 O)/\w'.cell? ⟨E,2,none⟩=some (.int .u64 U)/\w'.cell? ⟨E,3,none⟩=some (.int .i64 X)/\w'.cell? ⟨E,4,none⟩=some (.int .i64 J)/\w'.cell? ⟨E,5,none⟩=some (.bool Y)/\w'.cell? ⟨E,6,none⟩=some (.int .i32 Z)/\w'.cell? ⟨D,0,none⟩=some (.string I)/\w'.cell? ⟨D,1,none⟩=some (.int .i64 aa)) (ds:=[]) #[false,false,false,false,false,false,false,false,false,false,false,false] (by kernel_rfl) rfl rfl ⟨(zab A.out 0).trans rfl,(zab A.out 1).trans rfl,(zab A.out 2).trans rfl,(zab A.out 3).trans rfl,(zab A.out 4).trans rfl,(zab A.out 5).trans rfl,(zab A.out 6).trans rfl,(zab B.out 0).trans rfl,(zab B.out 1).trans rfl⟩ (λhHeld=>?_);refine za1 zam.tab8 zam.bits8 (λab HW_=>?_);generalize bI.drew=bX at A B HB hHeld ⊢;refine pz (i:=1) (N:=30) ab ?_;refine pz (i:=5) (N:=34) ab ?_;refine pz (i:=8) (N:=37) ab ?_;refine tz (i:=0) (N:=29) rfl ab HW_ hHeld (by(rintro w' ⟨s0,s1,s2,s3,s4,s5,s6,s7,s8⟩;go_simp;with_reducible rfl)) ?_;refine tz (i:=2) (N:=31) rfl ab HW_ hHeld (by(rintro w' ⟨s0,s1,s2,s3,s4,s5,s6,s7,s8⟩;go_simp;with_reducible rfl)) ?_;refine pz (i:=3) (N:=32) ab ?_;refine tz (i:=6) (N:=35) rfl ab HW_ hHeld (by(rintro w' ⟨s0,s1,s2,s3,s4,s5,s6,s7,s8⟩;go_simp;with_reducible rfl)) ?_;refine oz (i:=4) (N:=some 33) ab λK hK=>?_;refine gG Tryz.func44 (strings_Repeat.calls (⟨#[48]⟩:ByteArray) (wrap64 (-aa)) aJ _ bw.out) ?_;intro bY hb;replace A:=kN (g:=E) (cs:=#[.int .u64 M,.int .i64 O,.int .u64 U,.int .i64 X,.int .i64 J,.bool Y,.int .i32 Z]) hb bk;replace B:=kN (g:=D) (cs:=#[.string I,.int .i64 aa]) hb bk;replace HB:=bN bz hb;clear hb;refine hK.out _ _ ⟨bc A 0,bc A 1,bc A 2,bc A 3,bc A 4,bc A 5,bc A 6,bc B 0,bc B 1⟩ (λhHeld=>?_);clear hK K;refine nz ?_;refine pz (i:=7) (N:=36) ab ?_;refine oz (i:=9) (N:=some 38) ab λK hK=>?_;refine gG Tryz.func68 (zaQ.calls (aJ++I) af aK _ bD.out) ?_;intro bZ hb;replace A:=kN (g:=E) (cs:=#[.int .u64 M,.int .i64 O,.int .u64 U,.int .i64 X,.int .i64 J,.bool Y,.int .i32 Z]) hb bk;replace B:=kN (g:=D) (cs:=#[.string I,.int .i64 aa]) hb bk;replace HB:=bN bz hb;clear hb;refine hK.out _ _ ⟨bc A 0,bc A 1,bc A 2,bc A 3,bc A 4,bc A 5,bc A 6,bc B 0,bc B 1⟩ (λhHeld=>?_);clear hK K;refine nz ?_;refine oz (i:=10) (N:=some 39) ab λK hK=>?_;refine gG Tryz.func71 (zax.calls M O U X J Y Z (⟨#[48]⟩:ByteArray) aK aW _ bE.out) ?_;intro b0 hb;replace A:=kN (g:=E) (cs:=#[.int .u64 M,.int .i64 O,.int .u64 U,.int .i64 X,.int .i64 J,.bool Y,.int .i32 Z]) hb bk;replace B:=kN (g:=D) (cs:=#[.string I,.int .i64 aa]) hb bk;replace HB:=bN bz hb;clear hb;refine hK.out _ _ ⟨bc A 0,bc A 1,bc A 2,bc A 3,bc A 4,bc A 5,bc A 6,bc B 0,bc B 1⟩ (λhHeld=>?_);clear hK K;refine nz ?_;refine pz (i:=11) (N:=2) ab ?_;refine dz ab ?_;(try go_wp2);go_ret;exact⟨ez,bz⟩
mutual
def zag.j0:Nat->Int->Int->Int->Int->Int->Int->Int->Bool->Int->ByteArray->Int->Option (ByteArray)
 |0,_,_,_,_,_,_,_,_,_,_,_=>none
 |k+1,x4,x5,B,D,E,I,J,K,M,A,O=>if A.toList=([]:List UInt8) then(zag.j1 k x4 x5 (⟨#[48]⟩:ByteArray) B D E I J K M A O) else(zag.j1 k x4 x5 A B D E I J K M A O)
def zag.j1:Nat->Int->Int->ByteArray->Int->Int->Int->Int->Int->Bool->Int->ByteArray->Int->Option (ByteArray)
 |0,_,_,_,_,_,_,_,_,_,_,_,_=>none
 |k+1,x4,x5,x6,B,D,E,I,J,A,K,M,O=>if A=true then((zaQ.f x6 x5).bind λU=>(zag.j2 k x4 U B D E I J A K M O)) else(zag.j2 k x4 x6 B D E I J A K M O)
def zag.j2:Nat->Int->ByteArray->Int->Int->Int->Int->Int->Bool->Int->ByteArray->Int->Option (ByteArray)
 |0,_,_,_,_,_,_,_,_,_,_,_=>none
 |k+1,x4,x6,D,E,I,J,K,M,O,A,B=>(zbg.f A B).bind λU=>(if U<(-4) then(zag.j3 k x6 U true D E I J K M O A B) else(zag.j3 k x6 U (decide (U>=x4)) D E I J K M O A B))
def zag.j3:Nat->ByteArray->Int->Bool->Int->Int->Int->Int->Int->Bool->Int->ByteArray->Int->Option (ByteArray)
 |0,_,_,_,_,_,_,_,_,_,_,_,_=>none
 |k+1,x6,x7,Z,A,B,D,E,I,J,K,M,O=>if Z=true then((zak.f k A B D E I J K x6 x7).bind λU=>(some U)) else((zbg.f M O).bind λX=>((zar.f A B D E I J K x6 (wrap64 (X+1))).bind λY=>(some Y)))
end
def zag.f(k:Nat)(B:Int)(D:Int)(E:Int)(I:Int)(A:Int)(J:Bool)(K:Int):Option (ByteArray):=if A<0 then((zaq.f k B D).bind λM=>(zag.j0 k 21 6 B D E I A J K M.1 M.2.1)) else((zaU.f k B D E I A J K).bind λO=>((za7.f k O.1 O.2 (mx A 1)).bind λU=>(zag.j0 k (mx A 1) (mx A 1) B D E I A J K U.1 U.2.1)))
theorem zag.calls(k:Nat)(J:Int)(M:Int)(U:Int)(X:Int)(E:Int)(Y:Bool)(Z:Int)(r:ByteArray)(w:World)(h:zag.f k J M U X E Y Z=some r):
  Calls Tryz.prog 41 #[.agg #[.int .u64 J,.int .i64 M,.int .u64 U,.int .i64 X,.int .i64 E,.bool Y,.int .i32 Z]] w λe w'=>e= .returned (.string r)/\Below w.heap.size w w':=by
 have cZ:=Tryz.underlying52;have c5:=Tryz.underlying74;have HB:=zaa.mk (Below.refl w.heap.size w);have H:(if E<0 then((zaq.f k J M).bind λa3=>(zag.j0 k 21 6 J M U X E Y Z a3.1 a3.2.1)) else((zaU.f k J M U X E Y Z).bind λa4=>((za7.f k a4.1 a4.2 (mx E 1)).bind λa5=>(zag.j0 k (mx E 1) (mx E 1) J M U X E Y Z a5.1 a5.2.1))))=some r:=h;clear h;have br:=zaa.mk H;clear H;go_enter Tryz.func41,Tryz.ntmps41;(go_upto_if 10 with(first|((with_reducible refine zai (N:=1) rfl ?_);refine zah rfl (N:=1) rfl (cs:=#[.int .u64 J,.int .i64 M,.int .u64 U,.int .i64 X,.int .i64 E,.bool Y,.int .i32 Z]) (t:=52) gz ?_;intro O hg w3 hbox hb;have cC:=gN bz hg;have B:=zaa.mk hbox;replace HB:=bN bz hb;clear hb hbox hg)|((with_reducible refine zai (N:=3) rfl ?_);refine zah rfl (N:=3) rfl (cs:=#[.string (⟨#[]⟩:ByteArray),.int .i64 0]) (t:=74) gz ?_;intro ac hg w4 hbox hb;have cD:=gN bz hg;have aa:=lN (g:=O) (cs:=#[.int .u64 J,.int .i64 M,.int .u64 U,.int .i64 X,.int .i64 E,.bool Y,.int .i32 Z]) hg bk;have ab:=rN (g:=O) (cs:=#[.int .u64 J,.int .i64 M,.int .u64 U,.int .i64 X,.int .i64 E,.bool Y,.int .i32 Z]) hg bk;replace B:=kN (g:=O) (cs:=#[.int .u64 J,.int .i64 M,.int .u64 U,.int .i64 X,.int .i64 E,.bool Y,.int .i32 Z]) hb bk;have I:=zaa.mk hbox;replace HB:=bN bz hb;clear hb hbox hg;have c6:=aa.out;have c8:=ab.out;obtain⟨af,ag,ah,ai,aj,ak,al,am,an,ao,ap,ar,au,av⟩:=cz7 B)));(try simp only[Act.put,List.setIfInBounds_toArray,List.set_cons_zero,List.set_cons_succ]);go_cut [4,5] (λv4 v5 wc=> ∃(kq:Nat) (aD:Int) (aF:Int) (A:ByteArray) (D:Int),v4= .int .i64 aD/\v5= .int .i64 aF/\zaa (zag.j0 kq aD aF J M U X E Y Z A D=some r)/\zaa (kq<=k)/\zaa (wc.heap[O]? =some (.cells #[.int .u64 J,.int .i64 M,.int .u64 U,.int .i64 X,.int .i64 E,.bool Y,.int .i32 Z] 52 (0,0)))/\zaa (wc.heap[ac]? =some (.cells #[.string A,.int .i64 D] 74 (0,0)))/\zaa (Below w.heap.size w wc));case first=>
  have H:=br.out;clear br;by_cases c7:E<0
  (·replace H:=hE H c7;have a6:=decide_eq_true c7;clear c7;(try rw[a6]);replace H:=bs H;obtain⟨⟨bh,bi,bu⟩,A8,H⟩:=H;dsimp only at H;have H':=zaa.mk H;clear H;have c9:=aa.out;have da:=ab.out;obtain⟨bv,bw,bA,bB,bC,bD,bE,bG,bH,bI,bJ,bK,bL,bM⟩:=cz7 B;go_wp2_with (first|((with_reducible refine zac (f:=73) rfl ?_);refine gB Tryz.func73 (zaq.calls k J M bh bi bu _ A8.out) ?_;intro dc hb;replace B:=kN (g:=O) (cs:=#[.int .u64 J,.int .i64 M,.int .u64 U,.int .i64 X,.int .i64 E,.bool Y,.int .i32 Z]) hb bk;replace I:=kN (g:=ac) (cs:=#[.string (⟨#[]⟩:ByteArray),.int .i64 0]) hb bk;replace HB:=bN bz hb;clear hb;obtain⟨bO,bP,bQ,bR⟩:=cz2 I));go_meet;case rel=>exact⟨_,(21),(6),(bh),(bi),rz,rz,H',⟨by first|omega|exact Nat.le_refl _⟩,⟨bk⟩,⟨bk⟩,⟨bz⟩⟩);replace H:=hN H c7;have a6:=decide_eq_false c7;clear c7;(try rw[a6]);obtain⟨aE,ad⟩:=ex (mx E 1);(first|rw[ad] at H|simp only[ad] at H);(try(have cz:1<=aE:=by(rw[<-ad];unfold mx;(repeat' split)<;>omega)));(try(have cA:0<=aE:=by omega));have cB:(if E<1 then 1 else E)=aE:=ad;replace H:=bs H;obtain⟨⟨bj,bl⟩,cF,H⟩:=H;dsimp only at H;replace H:=bs H;obtain⟨⟨bm,bn,bS⟩,cG,H⟩:=H;dsimp only at H;have H':=zaa.mk H;clear H;have cH:=aa.out;have cI:=ab.out;obtain⟨bU,bV,bW,bX,bY,bZ,b0,b1,b2,b3,b4,b5,b6,b7⟩:=cz7 B;go_wp2_with (first|((with_reducible refine zac (f:=66) rfl ?_);refine gB Tryz.func66 (zaU.calls k J M U X E Y Z bj bl _ cF.out) ?_;intro dd hb;replace B:=kN (g:=O) (cs:=#[.int .u64 J,.int .i64 M,.int .u64 U,.int .i64 X,.int .i64 E,.bool Y,.int .i32 Z]) hb bk;replace I:=kN (g:=ac) (cs:=#[.string (⟨#[]⟩:ByteArray),.int .i64 0]) hb bk;replace HB:=bN bz hb;clear hb)|((with_reducible refine zac (f:=65) rfl ?_);refine gB Tryz.func65 (za7.calls k bj bl aE bm bn bS _ cG.out) ?_ (hargs:=by(try simp only[List.map_toArray,List.map_cons,List.map_nil]);first|done|(simp only[ad];rfl)|rfl|(simp only[List.length_drop,List.length_take];rfl));intro de hb;replace B:=kN (g:=O) (cs:=#[.int .u64 J,.int .i64 M,.int .u64 U,.int .i64 X,.int .i64 E,.bool Y,.int .i32 Z]) hb bk;replace I:=kN (g:=ac) (cs:=#[.string (⟨#[]⟩:ByteArray),.int .i64 0]) hb bk;replace HB:=bN bz hb;clear hb;obtain⟨b8,ca,cb,cc⟩:=cz2 I));go_meet;case rel=>exact⟨_,(aE),(aE),(bm),(bn),(by first|rfl|(simp;done)|(simp only[<-ad]<;>(first|rfl|simp))|(simp[*];done)),(by first|rfl|(simp;done)|(simp only[<-ad]<;>(first|rfl|simp))|(simp[*];done)),H',⟨by first|omega|exact Nat.le_refl _⟩,⟨bk⟩,⟨bk⟩,⟨bz⟩⟩
 case rest=>
  clear br;(try clear af ag ah ai aj ak al am an ao ap ar au av);obtain⟨kq,aD,aF,A,D,rfl,rfl,HA,a1,B,I,HB⟩:=hcut;cases kq with
  |zero=>exact absurd HA.out (by simp[zag.j0])
  |succ cJ=>
   have H:=HA.out;clear HA;simp only[zag.j0] at H;have a7:=zaa.mk H;clear H;have cK:=ab.out;have cL:=aa.out;obtain⟨ax,ay,az,aA⟩:=cz2 I;(go_upto_if 33 with(fail));go_cut [6] (λv6 wc=> ∃(kq:Nat) (aB:ByteArray),v6= .string aB/\zaa (zag.j1 kq aD aF aB J M U X E Y Z A D=some r)/\zaa (kq<=cJ)/\zaa (wc.heap[O]? =some (.cells #[.int .u64 J,.int .i64 M,.int .u64 U,.int .i64 X,.int .i64 E,.bool Y,.int .i32 Z] 52 (0,0)))/\zaa (wc.heap[ac]? =some (.cells #[.string A,.int .i64 D] 74 (0,0)))/\zaa (Below w.heap.size w wc));case first=>
    have H:=a7.out;clear a7;by_cases aV:A.toList=([]:List UInt8)
    (·replace H:=hE H aV;have aC:(A.toList==([]:List UInt8))=true:=beq_iff_eq.mpr aV;have aW:(A.toList !=([]:List UInt8))=false:=bne_eq_false_iff_eq.mpr aV;(have aX:A.toList.isEmpty=true:=by simpa using aC);clear aV;(try first|rw[aC]|rw[aW]|rw[aX]);have H':=zaa.mk H;clear H;go_wp2;go_meet;case rel=>exact⟨_,((⟨#[48]⟩:ByteArray)),rz,H',⟨by have:=a1.out;first|omega|exact Nat.le_refl _⟩,⟨bk⟩,⟨bk⟩,⟨bz⟩⟩);replace H:=hN H aV;have aC:(A.toList==([]:List UInt8))=false:=beq_eq_false_iff_ne.mpr aV;have aW:(A.toList !=([]:List UInt8))=true:=bne_iff_ne.mpr aV;(have aX:A.toList.isEmpty=false:=by simpa using aC);(try first|rw[aC]|rw[aW]|rw[aX]);have H':=zaa.mk H;clear H;go_wp2;go_meet;case rel=>exact⟨_,(A),rz,H',⟨by have:=a1.out;first|omega|exact Nat.le_refl _⟩,⟨bk⟩,⟨bk⟩,⟨bz⟩⟩
   case rest=>
    clear a7;(try clear ax ay az aA);(try clear af ag ah ai aj ak al am an ao ap ar au av);obtain⟨kq,aB,rfl,HA,aZ,B,I,HB⟩:=hcut;cases kq with
    |zero=>exact absurd HA.out (by simp[zag.j1])
    |succ cd=>
     have H:=HA.out;clear HA;simp only[zag.j1] at H;have a8:=zaa.mk H;clear H;have cM:=aa.out;have cN:=ab.out;obtain⟨aG,aH,aI,aJ,aK,aL,aM,aN,aO,aP,aQ,aR,aS,aT⟩:=cz7 B;(go_upto_if 35 with(fail));go_cut [6] (λv6 wc=> ∃(kq:Nat) (ae:ByteArray),v6= .string ae/\zaa (zag.j2 kq aD ae J M U X E Y Z A D=some r)/\zaa (kq<=cd)/\zaa (wc.heap[O]? =some (.cells #[.int .u64 J,.int .i64 M,.int .u64 U,.int .i64 X,.int .i64 E,.bool Y,.int .i32 Z] 52 (0,0)))/\zaa (wc.heap[ac]? =some (.cells #[.string A,.int .i64 D] 74 (0,0)))/\zaa (Below w.heap.size w wc));case first=>
      have H:=a8.out;clear a8;by_cases bf:Y=true
      (·subst bf;replace H:=hT H;replace H:=bs H;obtain⟨bo,cO,H⟩:=H;have H':=zaa.mk H;clear H;go_wp2_with (first|((with_reducible refine zac (f:=68) rfl ?_);refine gB Tryz.func68 (zaQ.calls aB aF bo _ cO.out) ?_;intro df hb;replace B:=kN (g:=O) (cs:=#[.int .u64 J,.int .i64 M,.int .u64 U,.int .i64 X,.int .i64 E,.bool true,.int .i32 Z]) hb bk;replace I:=kN (g:=ac) (cs:=#[.string A,.int .i64 D]) hb bk;replace HB:=bN bz hb;clear hb));go_meet;case rel=>exact⟨_,(bo),rz,H',⟨by have:=a1.out;have:=aZ.out;first|omega|exact Nat.le_refl _⟩,⟨bk⟩,⟨bk⟩,⟨bz⟩⟩);replace bf:=Bool.eq_false_iff.mpr bf;subst bf;replace H:=hF H;have H':=zaa.mk H;clear H;go_wp2;go_meet;case rel=>exact⟨_,(aB),rz,H',⟨by have:=a1.out;have:=aZ.out;first|omega|exact Nat.le_refl _⟩,⟨bk⟩,⟨bk⟩,⟨bz⟩⟩
     case rest=>
      clear a8;(try clear ax ay az aA);(try clear aG aH aI aJ aK aL aM aN aO aP aQ aR aS aT);(try clear af ag ah ai aj ak al am an ao ap ar au av);obtain⟨kq,ae,rfl,HA,bp,B,I,HB⟩:=hcut;cases kq with
      |zero=>exact absurd HA.out (by simp[zag.j2])
      |succ ce=>
       have H:=HA.out;clear HA;simp only[zag.j2] at H;replace H:=bs H;obtain⟨aU,cP,H⟩:=H;have a9:=zaa.mk H;clear H;have cQ:=ab.out;have cR:=aa.out;obtain⟨ba,bb,bd,be⟩:=cz2 I;(go_upto_region 14 with(first|((with_reducible refine zac (f:=69) rfl ?_);refine gB Tryz.func69 (zbg.calls A D aU _ cP.out) ?_;intro dh hb;replace B:=kN (g:=O) (cs:=#[.int .u64 J,.int .i64 M,.int .u64 U,.int .i64 X,.int .i64 E,.bool Y,.int .i32 Z]) hb bk;replace I:=kN (g:=ac) (cs:=#[.string A,.int .i64 D]) hb bk;replace HB:=bN bz hb;clear hb)));(try simp only[Act.put,List.setIfInBounds_toArray,List.set_cons_zero,List.set_cons_succ]);go_cut [47] (λcS wc=> ∃(kq:Nat) (aw:Bool),cS= .bool aw/\zaa (zag.j3 kq ae aU aw J M U X E Y Z A D=some r)/\zaa (kq<=ce)/\zaa (wc.heap[O]? =some (.cells #[.int .u64 J,.int .i64 M,.int .u64 U,.int .i64 X,.int .i64 E,.bool Y,.int .i32 Z] 52 (0,0)))/\zaa (wc.heap[ac]? =some (.cells #[.string A,.int .i64 D] 74 (0,0)))/\zaa (Below w.heap.size w wc));case first=>
        have H:=a9.out;clear a9;by_cases a2:aU<(-4)
        (·replace H:=hE H a2;have aY:=decide_eq_true a2;clear a2;(try rw[aY]);have H':=zaa.mk H;clear H;go_wp2;go_meet;case rel=>exact⟨_,(true),rz,H',⟨by have:=a1.out;have:=aZ.out;have:=bp.out;first|omega|exact Nat.le_refl _⟩,⟨bk⟩,⟨bk⟩,⟨bz⟩⟩);replace H:=hN H a2;have aY:=decide_eq_false a2;clear a2;(try rw[aY]);have H':=zaa.mk H;clear H;go_wp2;go_meet;case rel=>exact⟨_,(decide (aU>=aD)),rz,H',⟨by have:=a1.out;have:=aZ.out;have:=bp.out;first|omega|exact Nat.le_refl _⟩,⟨bk⟩,⟨bk⟩,⟨bz⟩⟩
       case rest=>
        clear a9;(try clear ax ay az aA);(try clear aG aH aI aJ aK aL aM aN aO aP aQ aR aS aT);(try clear ba bb bd be);(try clear af ag ah ai aj ak al am an ao ap ar au av);obtain⟨kq,aw,rfl,HA,db,B,I,HB⟩:=hcut;cases kq with
        |zero=>exact absurd HA.out (by simp[zag.j3])
        |succ cf=>
         have H:=HA.out;clear HA;simp only[zag.j3] at H;by_cases bg:aw=true
         (·subst bg;replace H:=hT H;replace H:=bs H;obtain⟨cg,cT,H⟩:=H;obtain rfl:=Option.some.inj H;have cV:=aa.out;have cW:=ab.out;obtain⟨ci,cj,ck,cm,cn,co,cp,cq,cr,ct,cu,cv,cw,cx⟩:=cz7 B;go_wp2_with (first|((with_reducible refine zac (f:=67) rfl ?_);refine gB Tryz.func67 (zak.calls cf J M U X E Y Z ae aU cg _ cT.out) ?_;intro di hb;replace B:=kN (g:=O) (cs:=#[.int .u64 J,.int .i64 M,.int .u64 U,.int .i64 X,.int .i64 E,.bool Y,.int .i32 Z]) hb bk;replace I:=kN (g:=ac) (cs:=#[.string A,.int .i64 D]) hb bk;replace HB:=bN bz hb;clear hb));go_ret;exact⟨ez,bz⟩);replace bg:=Bool.eq_false_iff.mpr bg;subst bg;replace H:=hF H;replace H:=bs H;obtain⟨bq,cX,H⟩:=H;replace H:=bs H;obtain⟨cy,cY,H⟩:=H;obtain rfl:=Option.some.inj H;(try go_wp2);replace B:=zaa.mk (zap B.out);replace I:=zaa.mk (zap I.out);replace HB:=zaa.mk (zaG HB.out);refine za9 (n:=7) (S:=λw'=>w'.cell? ⟨O,0,none⟩=some (.int .u64 J)/\w'.cell? ⟨O,1,none⟩=some (.int .i64 M)/\w'.cell? ⟨O,2,none⟩=some (.int .u64 U)/\w'.cell? ⟨O,3,none⟩=some (.int .i64 X)/\w'.cell? ⟨O,4,none⟩=some (.int .i64 E)/\w'.cell? ⟨O,5,none⟩=some (.bool Y)/\w'.cell? ⟨O,6,none⟩=some (.int .i32 Z)/\w'.cell? ⟨ac,0,none⟩=some (.string A)/\w'.cell? ⟨ac,1,none⟩=some (.int .i64 D)) (ds:=[]) #[false,false,false,false,false,false,false] (by kernel_rfl) rfl rfl ⟨(zab B.out 0).trans rfl,(zab B.out 1).trans rfl,(zab B.out 2).trans rfl,(zab B.out 3).trans rfl,(zab B.out 4).trans rfl,(zab B.out 5).trans rfl,(zab B.out 6).trans rfl,(zab I.out 0).trans rfl,(zab I.out 1).trans rfl⟩ (λhHeld=>?_);generalize wc.drew=dj at B I HB hHeld ⊢;refine zbr (i:=1) (N:=some 53) (v:=?_) (a':=?_) #[false,true,false,false,false,false,false] rfl rfl (by kernel_rfl) (λ_ _ _ h=>h) (Or.inl ⟨by rfl,?_⟩) ?_ ?_;rotate_left
         (·intro w';go_simp;with_reducible rfl);rotate_left
         (·simp only[Act.put,List.setIfInBounds_toArray,List.set_cons_zero,List.set_cons_succ,zaM,zaX];rfl);refine zcf (i:=0) (N:=some 52) (v:=?_) (a':=?_) #[true,true,false,false,false,false,false] rfl rfl (by kernel_rfl) (λ_ _ _ h=>h) (Or.inl ⟨by rfl,?_⟩) hHeld ?_ ?_;rotate_left
         (·rintro w' ⟨s0,s1,s2,s3,s4,s5,s6,s7,s8⟩;go_simp;with_reducible rfl);rotate_left
         (·simp only[Act.put,List.setIfInBounds_toArray,List.set_cons_zero,List.set_cons_succ,zaM,zaX];rfl);refine zcf (i:=2) (N:=some 54) (v:=?_) (a':=?_) #[true,true,true,false,false,false,false] rfl rfl (by kernel_rfl) (λ_ _ _ h=>h) (Or.inl ⟨by rfl,?_⟩) hHeld ?_ ?_;rotate_left
         (·rintro w' ⟨s0,s1,s2,s3,s4,s5,s6,s7,s8⟩;go_simp;with_reducible rfl);rotate_left
         (·simp only[Act.put,List.setIfInBounds_toArray,List.set_cons_zero,List.set_cons_succ,zaM,zaX];rfl);refine one_ (i:=3) (N:=some 55) #[true,true,true,true,false,false,false] rfl rfl (by kernel_rfl) (by decide) (λK hK=>?_);refine gG Tryz.func69 (zbg.calls A D bq _ cX.out) ?_;intro dk hb;replace B:=kN (g:=O) (cs:=#[.int .u64 J,.int .i64 M,.int .u64 U,.int .i64 X,.int .i64 E,.bool Y,.int .i32 Z]) hb bk;replace I:=kN (g:=ac) (cs:=#[.string A,.int .i64 D]) hb bk;replace HB:=bN bz hb;clear hb;refine hK.out _ _ ⟨bc B 0,bc B 1,bc B 2,bc B 3,bc B 4,bc B 5,bc B 6,bc I 0,bc I 1⟩ (λhHeld=>?_);clear hK K;refine nz ?_;refine zbr (i:=4) (N:=some 56) (v:=?_) (a':=?_) #[true,true,true,true,true,false,false] rfl rfl (by kernel_rfl) (λ_ _ _ h=>h) (Or.inl ⟨by rfl,?_⟩) ?_ ?_;rotate_left
         (·intro w';go_simp;with_reducible rfl);rotate_left
         (·simp only[Act.put,List.setIfInBounds_toArray,List.set_cons_zero,List.set_cons_succ,zaM,zaX];rfl);refine one_ (i:=5) (N:=some 57) #[true,true,true,true,true,true,false] rfl rfl (by kernel_rfl) (by decide) (λK hK=>?_);refine gG Tryz.func72 (zar.calls J M U X E Y Z ae (wrap64 (bq+1)) cy _ cY.out) ?_;intro dl hb;replace B:=kN (g:=O) (cs:=#[.int .u64 J,.int .i64 M,.int .u64 U,.int .i64 X,.int .i64 E,.bool Y,.int .i32 Z]) hb bk;replace I:=kN (g:=ac) (cs:=#[.string A,.int .i64 D]) hb bk;replace HB:=bN bz hb;clear hb;refine hK.out _ _ ⟨bc B 0,bc B 1,bc B 2,bc B 3,bc B 4,bc B 5,bc B 6,bc I 0,bc I 1⟩ (λhHeld=>?_);clear hK K;refine nz ?_;refine zbr (i:=6) (N:=some 2) (v:=?_) (a':=?_) #[true,true,true,true,true,true,true] rfl rfl (by kernel_rfl) (λ_ _ _ h=>h) (Or.inl ⟨by rfl,?_⟩) ?_ ?_;rotate_left
         (·intro w';go_simp;with_reducible rfl);rotate_left
         (·simp only[Act.put,List.setIfInBounds_toArray,List.set_cons_zero,List.set_cons_succ,zaM,zaX];rfl);refine zcY (by kernel_rfl) ?_;(try go_wp2);go_ret;exact⟨ez,bz⟩
end
end Go.Proofs.YtilidabdbhaljaaGreatDoor.Fn
end
