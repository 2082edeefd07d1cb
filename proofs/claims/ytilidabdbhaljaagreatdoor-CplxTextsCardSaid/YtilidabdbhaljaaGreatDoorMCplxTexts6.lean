/- The law CplxTexts: the walks through its functions and its plain law (part 6). Own texts and the kit's printed words for this seat, without what the law does not use: put together by merge.py (of this work). -/
import Derived.Test.YtilidabdbhaljaaGreatDoorMCplxTexts5
import Derived.Handy
set_option linter.unusedVariables false
set_option linter.unusedSimpArgs false
section
namespace Go.Proofs.YtilidabdbhaljaaGreatDoor.Fn
open Go.RowKit Go.Proofs.YtilidabdbhaljaaGreatDoorW.PrintWords Go.Proofs.YtilidabdbhaljaaGreatDoorW.PrintLast Go.Proofs.YtilidabdbhaljaaGreatDoorW.PrintMore
set_option maxHeartbeats 8000000
set_option maxRecDepth 100000
def zdS(x:Int):List Int:=
  [48+x / 10 / 10 / 10 / 10 / 10 / 10 / 10 / 10%10,48+x / 10 / 10 / 10 / 10 / 10 / 10 / 10%10,48+x / 10 / 10 / 10 / 10 / 10 / 10%10,48+x / 10 / 10 / 10 / 10 / 10%10,
   48+x / 10 / 10 / 10 / 10%10,48+x / 10 / 10 / 10%10,48+x / 10 / 10%10,48+x / 10%10,48+x%10]
def limbsText(l:List Int):List Int:=(l.reverse.map zdS).flatten
def zcz.f(k:Nat)(l0:List Int):Option ByteArray:=
  if l0.length<=100000/\ ∀x∈l0,0<=x/\x<=999999999 then(za0.f k l0).bind λl=>if l.length<=l0.length/\ ∀x∈l,0<=x/\x<=999999999 then zbQ.f (strOfNums (limbsText l)) ⟨#[48]⟩ else none else none
theorem zna:(Tryz.prog.info? 5).map (λi=>(i.zero,i.size,i.bytes))=some (some (.int .u8 0),1,1):=by kernel_rfl
theorem zfJ(l:List Int):(limbsText l).length=9*l.length:=by
 unfold limbsText;rw[List.length_flatten,List.map_map];(have:(List.length∘zdS)=λ_=>9:=by funext x;rfl);rw[this,List.map_const',List.sum_replicate_nat,List.length_reverse];omega
theorem zjH{l:List Int}(h: ∀x∈l,0<=x/\x<=999999999)(i:Int):0<=rd l i/\rd l i<=999999999:=by
 unfold rd;rw[List.getD_eq_getElem?_getD];cases hg:l[i.toNat]? with
 |none=>simp
 |some x=>exact h x (List.mem_of_getElem? hg)
theorem ziS(W:World)(x:Int)(t:TypeId):(Kd.int .u8).C (W.alloc (.cells #[.int .u8 (48+x / 10 / 10 / 10 / 10 / 10 / 10 / 10 / 10%10),.int .u8 (48+x / 10 / 10 / 10 / 10 / 10 / 10 / 10%10),.int .u8 (48+x / 10 / 10 / 10 / 10 / 10 / 10%10),.int .u8 (48+x / 10 / 10 / 10 / 10 / 10%10),.int .u8 (48+x / 10 / 10 / 10 / 10%10),.int .u8 (48+x / 10 / 10 / 10%10),.int .u8 (48+x / 10 / 10%10),.int .u8 (48+x / 10%10),.int .u8 (48+x%10)] t)) (some ⟨W.heap.size,0,none⟩) 9 (zdS x):=by
 refine Kd.C_of_reads (d:=(0:Int)) (h1:=λ_=>rfl) (⟨rfl,by decide,λ_=>⟨_,rfl,λj hj=>?_⟩⟩:ReadsInt _ .u8 _ 9 (zdS x));rw[add_plain,zab (heap_alloc_new W _) j];(rcases j with _|_|_|_|_|_|_|_|_|j);all_goals first|rfl|omega
theorem zgm(l:List Int)(m:Nat)(h:m<l.length):limbsText (l.drop m)=limbsText (l.drop (m+1))++zdS (rd l m):=by
 unfold limbsText;rw[List.drop_eq_getElem_cons h];(have:rd l m=l[m]:=by simp[rd,List.getD_eq_getElem?_getD,List.getElem?_eq_getElem h]);rw[this,List.reverse_cons,List.map_append,List.flatten_append];simp only[List.map_cons,List.map_nil,List.flatten_cons,List.flatten_nil,List.append_nil]
set_option maxHeartbeats 4000000 in
set_option maxRecDepth 100000 in
theorem zcz.calls(k:Nat)(A0:Option Addr)(c0:Nat)(l0:List Int)(r:ByteArray)(w:World)(A:Kd.C (Kd.int .u64) w A0 l0.length l0)(J:l0.length<=c0)(h:zcz.f k l0=some r):
 Calls Tryz.prog 130 #[.slice A0 l0.length c0] w λe w'=>e= .returned (.string r)/\Below w.heap.size w w':=by
 unfold zcz.f at h;split at h;(case isFalse=>cases h);rename_i hl;obtain⟨hlen,hpos⟩:=hl;obtain⟨l,B,h⟩:=Option.bind_eq_some_iff.1 h;split at h;(case isFalse=>cases h);rename_i K;obtain⟨hll,hlp⟩:=K;have H1:=zaa.mk B;have H2:=zaa.mk h;have HR:=zaa.mk A;have HP:=zaa.mk hlp;clear B h A hpos hlp;go_enter Tryz.func130,Tryz.ntmps130;go_wp2_with (go_at_call 149;refine(za0.calls k (λ_=>True) A0 c0 l0 l _ ⟨A0,c0,rfl,J,λW' hW=>(Kd.heap_int .u64).C (λk hk=>hW k trivial hk) HR.out⟩ H1.out).mono ?_;rintro e w1 ⟨v0,rfl,hV,hb⟩;obtain⟨A1,c1,rfl⟩:=Kd.V_slice hV;have HV:=zaa.mk hV;have HB:=zaa.mk hb;clear hV hb);have M:=zaa.mk (Kd.V_reads' HV.out).2.2;go_loopw [3,4] (λv i wr=> ∃j:Nat,j<=l.length/\i= .int .i64 ((j:Int)-1)/\zaa (Kd.R (Kd.int .u8) 5 wr w1.heap.size (λ_=>True) v (limbsText (l.drop j)))/\zaa (Below w1.heap.size w1 wr)) (λ_ i _=>(intOf i+1).toNat);(case atStart=>exact⟨l.length,Nat.le_refl _,rfl,⟨by rw[List.drop_length];exact Kd.R_nil _ _ _ _ _⟩,⟨Below.refl _ _⟩⟩);case round=>
  obtain⟨j,hj,rfl,HO,HBR⟩:=hrel;cases j with
  |zero=>
   have hcv:=zcd (P:=Tryz.prog) (dst:=9) Tryz.underlying67 Tryz.underlying5 Tryz.underlying9 (Kd.own_of_R HO.out);rw[List.drop_zero] at hcv;go_wp2_with (go_at_call 148;refine(zbQ.calls (strOfNums (limbsText l)) ⟨#[48]⟩ r _ H2.out).mono ?_;rintro e w2 ⟨rfl,O⟩);go_ret;exact⟨rfl,zeA (zeA HB.out HB.out.size HBR.out) (Nat.le_trans HB.out.size HBR.out.size) O⟩
  |succ m=>
   have hm:m<l.length:=hj;obtain⟨hx,U⟩:=zjH HP.out (m:Int);obtain⟨ad,rfl,hcell⟩:=Kd.at_int M.out (m:Int) (by omega) (by omega);have hcw:wr.cell? (ad.add m)=some (.int .u64 (rd l m)):=zcX HBR.out hcell;have hdr:=zaa.mk (zgm l m hm);generalize rd l m=x at hcw hx U hdr;rw[show(((m+1:Nat):Int)-1)=(m:Int) by omega];have aa:=λo=>zcX (zb0 (Below.refl wr.heap.size wr) o) hcw;clear hcw hcell;have ab:Below w1.heap.size w1 wr:=HBR.out;go_wp2;refine wp_loop_rounds 10 ?_;(repeat any_goals(rw[rounds_succ];go_wp2_with ((with_reducible refine zcb (b:=.append) (xs:=#[.tmp 33,.tmp 34]) rfl ?_);at_builtin;refine Kd.R_append_rows (Kd.int .u8) (w0:=w1) w1.heap.size rfl (.tmp 33) (.tmp 34) 67 5 (.int .u8 0) 1 rfl Tryz.underlying67 zna rfl (by decide) (by omega) u3 (limbsText (l.drop (m+1))) (zdS x) _ _ _ (λ_=>True) (λ_=>False) rfl rfl ?aO ?aR (λ_ _ h=>h) (λ_ h=>h.elim) (λ_ _=>trivial) ?aB ?aS ?aL ?_;(case aO=>exact Kd.R_alloc HO.out _);(case aR=>exact ziS wr x 174);(case aB=>exact HBR.out.alloc HBR.out.size _);(case aS=>have:=HBR.out.size;simp;omega);(case aL=>rw[zfJ,List.length_drop];omega);intro v1 w3 D E X I;have Y:=zaa.mk D;have Z:=zaa.mk E;clear D E X I)));go_roundw;(case rel=>exact⟨m,by omega,by go_num,⟨by rw[hdr.out];exact Y.out⟩,Z⟩);case measure=>simp[intOf]
section
attribute [local go_sem] fnW_0 fnW_1 fnW_2 fnW_3 fnW_4 fnW_5 fnW_guard fnW_eql zaC zaD zaI zaJ
mutual
def zaE.j0:Nat->Int->Int->Bool->Option (ByteArray×Int×Int)
 |0,_,_,_=>none
 |k+1,x0,x1,B=>if B=true then(some ((⟨#[]⟩:ByteArray),0,1)) else((some (([Int.tmod x0 1000000000,Int.tmod (IntKind.u64.wrap (Int.tdiv x0 1000000000)) 1000000000,IntKind.u64.wrap (Int.tdiv (IntKind.u64.wrap (Int.tdiv x0 1000000000)) 1000000000)]:List Int):List Int)).bind λA=>(if x1<0 then(zaE.j1 k (wrap64 (-x1)) A 5 x1) else(zaE.j1 k x1 A 2 0)))
def zaE.j1:Nat->Int->List Int->Int->Int->Option (ByteArray×Int×Int)
 |0,_,_,_,_=>none
 |k+1,x1,x6,x7,x8=>zaE.l0 k x1 x6 x7 x8
def zaE.l0:Nat->Int->List Int->Int->Int->Option (ByteArray×Int×Int)
 |0,_,_,_,_=>none
 |k+1,x1,x6,x7,x8=>if x1>=8 then((za7.f k x6 (IntKind.u64.wrap ((IntKind.u64.wrap ((IntKind.u64.wrap ((IntKind.u64.wrap ((IntKind.u64.wrap ((IntKind.u64.wrap ((IntKind.u64.wrap (x7*x7))*x7))*x7))*x7))*x7))*x7))*x7))).bind λA=>(zaE.l0 k (wrap64 (x1-8)) A x7 x8)) else(zaE.l1 k x1 x6 x7 x8)
def zaE.l1:Nat->Int->List Int->Int->Int->Option (ByteArray×Int×Int)
 |0,_,_,_,_=>none
 |k+1,x1,x6,x7,x8=>if x1>0 then((za7.f k x6 x7).bind λD=>(zaE.l1 k (wrap64 (x1-1)) D x7 x8)) else((zcz.f k x6).bind λB=>((zbH.f B (wrap64 ((B.size:Int)+x8))).bind λA=>(some (A.1,A.2,0))))
end
def zaE.f(k:Nat)(a0:Int)(a1:Int):Option (ByteArray×Int×Int):=if a1<(-1200) then(zaE.j0 k a0 a1 true) else(zaE.j0 k a0 a1 (decide (a1>1200)))
theorem zaE.calls(k:Nat)(a0:Int)(a1:Int)(r1:ByteArray)(r2:Int)(r3:Int)(w:World)(h:zaE.f k a0 a1=some (r1,r2,r3)):
  Calls Tryz.prog 102 #[.int .u64 a0,.int .i64 a1] w λe w'=>e= .returned (.tuple #[.agg #[.string r1,.int .i64 r2],.int .i64 r3])/\Below w.heap.size w w':=by
 have a8:=Tryz.underlying74;have HB:=zaa.mk (Below.refl w.heap.size w);have H:(if a1<(-1200) then(zaE.j0 k a0 a1 true) else(zaE.j0 k a0 a1 (decide (a1>1200))))=some (r1,r2,r3):=h;clear h;have aE:=zaa.mk H;clear H;go_enter Tryz.func102,Tryz.ntmps102;(go_upto_region 1 with(first|((with_reducible refine zae (N:=4) rfl ?_);refine zaf rfl (N:=4) rfl (cs:=#[.string (⟨#[]⟩:ByteArray),.int .i64 0]) (t:=74) gz ?_;intro E hg w4 hbox hb;have ak:=gN bz hg;have A:=zaa.mk hbox;replace HB:=bN bz hb;clear hb hbox hg)));(try simp only[Act.put,sA]);go_cut [15] (λa3 wc=> ∃(kq:Nat) (ab:Bool),a3= .bool ab/\zaa (zaE.j0 kq a0 a1 ab=some (r1,r2,r3))/\zaa (kq<=k)/\zaa (wc.heap[E]? =some (.cells #[.string (⟨#[]⟩:ByteArray),.int .i64 0] 74 (0,0)))/\zaa (Below w.heap.size w wc));case first=>
  have H:=aE.out;clear aE;by_cases c5:a1<(-1200)
  (·replace H:=hE H c5;have al:=decide_eq_true c5;clear c5;(try rw[al]);have H':=zaa.mk H;clear H;go_wp2;go_meet;case rel=>exact⟨_,(true),rz,H',⟨by first|omega|exact Nat.le_refl _⟩,⟨bk⟩,⟨bz⟩⟩);replace H:=hN H c5;have al:=decide_eq_false c5;clear c5;(try rw[al]);have H':=zaa.mk H;clear H;go_wp2;go_meet;case rel=>exact⟨_,(decide (a1>1200)),rz,H',⟨by first|omega|exact Nat.le_refl _⟩,⟨bk⟩,⟨bz⟩⟩
 case rest=>
  clear aE;obtain⟨kq,ab,rfl,HA,ah,A,HB⟩:=hcut;cases kq with
  |zero=>exact absurd HA.out (by simp[zaE.j0])
  |succ aF=>
   have H:=HA.out;clear HA;simp only[zaE.j0] at H;by_cases c6:ab=true
   (·subst c6;replace H:=hT H;obtain⟨rfl,rfl,rfl⟩:=o3 H;obtain⟨aX,aY,aZ,a2⟩:=cz2 A;go_wp2;refine bodyPost_ret (zaS rfl _ _ E 74 #[.string (⟨#[]⟩:ByteArray),.int .i64 0] (0,0) _ rfl bk Tryz.underlying74 rfl (by kernel_rfl)) rfl ?_;exact⟨ez,bz⟩);replace c6:=Bool.eq_false_iff.mpr c6;subst c6;replace H:=hF H;obtain⟨ac,Y⟩: ∃y_:List Int,y_=(([Int.tmod a0 1000000000,Int.tmod (IntKind.u64.wrap (Int.tdiv a0 1000000000)) 1000000000,IntKind.u64.wrap (Int.tdiv (IntKind.u64.wrap (Int.tdiv a0 1000000000)) 1000000000)]:List Int)):=⟨_,rfl⟩;(replace H:(if a1<0 then(zaE.j1 aF (wrap64 (-a1)) ac 5 a1) else(zaE.j1 aF a1 ac 2 0))=some (r1,r2,r3):=by first|(rw[Y];with_reducible exact H)|(have aG:=(Option.bind_some _ _).symm.trans H;rw[Y];with_reducible exact aG)|(have aG:=(Option.bind_some _ _).symm.trans H;with_reducible exact aG)|with_reducible exact H|(rw[Y];exact H)|exact H);have am:=zaa.mk Y;clear Y;have aH:=zaa.mk H;clear H;(go_upto_if 27 with(first|((with_reducible refine zae (N:=25) rfl ?_);refine Kd.R_lit (Kd.int .u64) _ 22 ?hg (N:=25) ?hd (xs:=([Int.tmod a0 1000000000,Int.tmod (IntKind.u64.wrap (Int.tdiv a0 1000000000)) 1000000000,IntKind.u64.wrap (Int.tdiv (IntKind.u64.wrap (Int.tdiv a0 1000000000)) 1000000000)]:List Int)) (inner:=[.int .u64 (Int.tmod a0 1000000000),.int .u64 (Int.tmod (IntKind.u64.wrap (Int.tdiv a0 1000000000)) 1000000000),.int .u64 (IntKind.u64.wrap (Int.tdiv (IntKind.u64.wrap (Int.tdiv a0 1000000000)) 1000000000))]) (ok:=λ_=>True) (okp:=λ_=>True) ?hr ?hp (λ_ hk=>hk) trivial (Below.refl _ _) (Nat.le_refl _) (by simp) ?_;(case hd=>rfl);(case hg=>rfl);(case hr=>first|(go_simp;done)|(go_simp;rfl));(case hp=>exact(Reps.one (show Kd.M (Kd.int .u64) _ _ _ (Int.tmod a0 1000000000) [.int .u64 (Int.tmod a0 1000000000)] from rfl) (Reps.one (show Kd.M (Kd.int .u64) _ _ _ (Int.tmod (IntKind.u64.wrap (Int.tdiv a0 1000000000)) 1000000000) [.int .u64 (Int.tmod (IntKind.u64.wrap (Int.tdiv a0 1000000000)) 1000000000)] from rfl) (Reps.one (show Kd.M (Kd.int .u64) _ _ _ (IntKind.u64.wrap (Int.tdiv (IntKind.u64.wrap (Int.tdiv a0 1000000000)) 1000000000)) [.int .u64 (IntKind.u64.wrap (Int.tdiv (IntKind.u64.wrap (Int.tdiv a0 1000000000)) 1000000000))] from rfl) (Reps.none _ _)))));intro aL w9 ad hb hg_ hnew_;clear hg_ hnew_;(first|rw[<-am.out] at ad|(simp only[Int.reduceToNat] at ad;rw[<-am.out] at ad));have I:=zaa.mk (Kd.R_lower ad (zay bz));have J:=kN (g:=E) (cs:=#[.string (⟨#[]⟩:ByteArray),.int .i64 0]) hb bk;have K:=bN bz hb;clear A HB;have an:=I;have A:=J;have HB:=K;clear I J K;clear hb ad)));(try simp only[Act.put,sA]);go_cut [1,7,8] (λv1 v7 v8 wc=> ∃(kq:Nat) (ag:Int) (B:Int) (aa:Int),v1= .int .i64 ag/\v7= .int .u64 B/\v8= .int .i64 aa/\zaa (zaE.j1 kq ag ac B aa=some (r1,r2,r3))/\zaa (kq<=aF)/\zaa (Kd.R (Kd.int .u64) 22 wc w.heap.size (λ_=>True) aL ac)/\zaa (wc.heap[E]? =some (.cells #[.string (⟨#[]⟩:ByteArray),.int .i64 0] 74 (0,0)))/\zaa (Below w.heap.size w wc));case first=>
    have H:=aH.out;clear aH;by_cases ai:a1<0
    (·replace H:=hE H ai;have ae:=decide_eq_true ai;clear ai;(try rw[ae]);have H':=zaa.mk H;clear H;go_wp2;go_meet;case rel=>exact⟨_,(wrap64 (-a1)),(5),(a1),rz,rz,rz,H',⟨by have:=ah.out;first|omega|exact Nat.le_refl _⟩,⟨kr an.out⟩,⟨bk⟩,⟨bz⟩⟩);replace H:=hN H ai;have ae:=decide_eq_false ai;clear ai;(try rw[ae]);have H':=zaa.mk H;clear H;go_wp2;go_meet;case rel=>exact⟨_,(a1),(2),(0),rz,rz,rz,H',⟨by have:=ah.out;first|omega|exact Nat.le_refl _⟩,⟨kr an.out⟩,⟨bk⟩,⟨bz⟩⟩
   case rest=>
    clear aH;(try clear c6);obtain⟨kq,ag,B,aa,rfl,rfl,rfl,HA,ay,D,A,HB⟩:=hcut;cases kq with
    |zero=>exact absurd HA.out (by simp[zaE.j1])
    |succ aM=>
     have H:=HA.out;clear HA;simp only[zaE.j1] at H;have H':=zaa.mk H;clear H;go_wp2;go_loopg [1,6] aM (λkq v1 v6 w'=> ∃(U:Int) (X:List Int),v1= .int .i64 U/\zaa (zaE.l0 kq U X B aa=some (r1,r2,r3))/\zaa (kq<=aM)/\zaa (Kd.R (Kd.int .u64) 22 w' w.heap.size (λ_=>True) v6 X)/\zaa (w'.heap[E]? =some (.cells #[.string (⟨#[]⟩:ByteArray),.int .i64 0] 74 (0,0)))/\zaa (Below w.heap.size w w'));(case atStart=>exact⟨(ag),(ac),rz,H',⟨Nat.le_refl _⟩,⟨kr D.out⟩,⟨bk⟩,⟨bz⟩⟩);case round=>
      clear H';(try clear c6);obtain⟨U,X,rfl,HA,az,D,A,HB⟩:=hrel;cases gk with
      |zero=>exact absurd HA.out (by simp[zaE.l0])
      |succ k3=>
       have H:=HA.out;clear HA;simp only[zaE.l0] at H;by_cases af:U>=8
       (·replace H:=hE H af;have ao:decide (8<=U)=true:=decide_eq_true af;clear af;replace H:=bs H;obtain⟨aA,a4,H⟩:=H;have H':=zaa.mk H;clear H;obtain⟨ap,ar,aN⟩:=Kd.R_slice D.out;subst aN;go_wp2_with (first|((with_reducible refine zac (f:=129) rfl ?_);refine zbm (some 51) rfl rfl Tryz.func129 (by kernel_rfl) rfl #[.slice ap X.length ar,.int .u64 (IntKind.u64.wrap ((IntKind.u64.wrap ((IntKind.u64.wrap ((IntKind.u64.wrap ((IntKind.u64.wrap ((IntKind.u64.wrap ((IntKind.u64.wrap (B*B))*B))*B))*B))*B))*B))*B))] rfl lz ?_;(with_reducible refine(za7.calls k3 (λk_=>some k_=(.slice ap X.length ar:Value).ownBlock) (.slice ap X.length ar) X (IntKind.u64.wrap ((IntKind.u64.wrap ((IntKind.u64.wrap ((IntKind.u64.wrap ((IntKind.u64.wrap ((IntKind.u64.wrap ((IntKind.u64.wrap (B*B))*B))*B))*B))*B))*B))*B)) aA w _ ?side1 ?side2 a4.out).mono ?_);(case side1=>repeat(first|(with_reducible first|exact HB.out|apply zb0|apply zch|apply zaT|refine zb5 ?_ ak.out)|exact HB.out));(case side2=>exact Kd.R_tight rfl D.out);rintro e bb ⟨a9,rfl,au,hb,hkp⟩;refine⟨_,rfl,?_⟩;have I:=zaa.mk (zhf bk hkp (λhs_=>(λe_=>(Kd.R_ne D.out A.out (by decide)) e_) hs_));have J:=zaa.mk (Kd.R_mono (ok':=λk_=>True) au (λk_ hk_=>trivial));have K:=zaa.mk (hb);clear A HB D;have A:=I;have aI:=J;have HB:=K;clear I J K;(try clear hb);(try clear hkp);(try clear au)));go_roundg k3;(case measure=>have:=ah.out;have:=ay.out;have:=az.out;omega);case rel=>exact⟨(wrap64 (U-8)),(aA),rz,H',⟨by have:=ah.out;have:=ay.out;have:=az.out;omega⟩,⟨kr aI.out⟩,⟨bk⟩,⟨bz⟩⟩);replace H:=hN H af;have ao:decide (8<=U)=false:=decide_eq_false af;clear af;have H':=zaa.mk H;clear H;go_wp2;go_loopg [1,6] k3 (λkq v1 v6 w'=> ∃(Z:Int) (O:List Int),v1= .int .i64 Z/\zaa (zaE.l1 kq Z O B aa=some (r1,r2,r3))/\zaa (kq<=k3)/\zaa (Kd.R (Kd.int .u64) 22 w' w.heap.size (λ_=>True) v6 O)/\zaa (w'.heap[E]? =some (.cells #[.string (⟨#[]⟩:ByteArray),.int .i64 0] 74 (0,0)))/\zaa (Below w.heap.size w w'));(case atStart=>exact⟨(U),(X),rz,H',⟨Nat.le_refl _⟩,⟨kr D.out⟩,⟨bk⟩,⟨bz⟩⟩);case round=>
        clear H';(try clear c6);(try clear af);(try clear ao);obtain⟨Z,O,rfl,HA,aO,D,A,HB⟩:=hrel;cases gk with
        |zero=>exact absurd HA.out (by simp[zaE.l1])
        |succ k4=>
         have H:=HA.out;clear HA;simp only[zaE.l1] at H;by_cases aj:Z>0
         (·replace H:=hE H aj;have aJ:decide (0<Z)=true:=decide_eq_true aj;clear aj;replace H:=bs H;obtain⟨aB,a5,H⟩:=H;have H':=zaa.mk H;clear H;obtain⟨av,aw,aP⟩:=Kd.R_slice D.out;subst aP;go_wp2_with (first|((with_reducible refine zac (f:=129) rfl ?_);refine zbm (some 58) rfl rfl Tryz.func129 (by kernel_rfl) rfl #[.slice av O.length aw,.int .u64 B] rfl lz ?_;(with_reducible refine(za7.calls k4 (λk_=>some k_=(.slice av O.length aw:Value).ownBlock) (.slice av O.length aw) O B aB w _ ?side1 ?side2 a5.out).mono ?_);(case side1=>repeat(first|(with_reducible first|exact HB.out|apply zb0|apply zch|apply zaT|refine zb5 ?_ ak.out)|exact HB.out));(case side2=>exact Kd.R_tight rfl D.out);rintro e bd ⟨ba,rfl,au,hb,hkp⟩;refine⟨_,rfl,?_⟩;have I:=zaa.mk (zhf bk hkp (λhs_=>(λe_=>(Kd.R_ne D.out A.out (by decide)) e_) hs_));have J:=zaa.mk (Kd.R_mono (ok':=λk_=>True) au (λk_ hk_=>trivial));have K:=zaa.mk (hb);clear A HB D;have A:=I;have aK:=J;have HB:=K;clear I J K;(try clear hb);(try clear hkp);(try clear au)));go_roundg k4;(case measure=>have:=ah.out;have:=ay.out;have:=az.out;have:=aO.out;omega);case rel=>exact⟨(wrap64 (Z-1)),(aB),rz,H',⟨by have:=ah.out;have:=ay.out;have:=az.out;have:=aO.out;omega⟩,⟨kr aK.out⟩,⟨bk⟩,⟨bz⟩⟩);replace H:=hN H aj;have aJ:decide (0<Z)=false:=decide_eq_false aj;clear aj;replace H:=bs H;obtain⟨ax,a6,H⟩:=H;replace H:=bs H;obtain⟨⟨aC,aD⟩,a7,H⟩:=H;dsimp only at H;obtain⟨rfl,rfl,rfl⟩:=o3 H;obtain⟨aQ,aR,aS⟩:=Kd.R_slice D.out;subst aS;go_wp2_with (first|((with_reducible refine zac (f:=130) rfl ?_);refine zbm (some 60) rfl rfl Tryz.func130 (by kernel_rfl) rfl #[.slice aQ O.length aR] rfl lz ?_;(with_reducible refine(zcz.calls k4 _ _ O ax _ ?side1 ?side2 a6.out).mono ?_);(case side1=>exact kc (Kd.R_reads' D.out).2.2);(case side2=>exact(Kd.R_reads' D.out).2.1);rintro e be ⟨rfl,hb⟩;refine⟨_,rfl,?_⟩;have I:=zaa.mk (Kd.R_below (kr D.out) hb);have J:=kN (g:=E) (cs:=#[.string (⟨#[]⟩:ByteArray),.int .i64 0]) hb bk;have K:=bN bz hb;clear D A HB;have D:=I;have A:=J;have HB:=K;clear I J K;(try clear hb);(try clear bf);(try clear hk);(try clear hi))|((with_reducible refine zac (f:=127) rfl ?_);refine gB Tryz.func127 (zbH.calls ax (wrap64 ((ax.size:Int)+aa)) aC aD _ a7.out) ?_;intro bg hb;have I:=zaa.mk (Kd.R_below (kr D.out) hb);have J:=kN (g:=E) (cs:=#[.string (⟨#[]⟩:ByteArray),.int .i64 0]) hb bk;have K:=bN bz hb;clear D A HB;have D:=I;have A:=J;have HB:=K;clear I J K;clear hb;obtain⟨aT,aU,aV,aW⟩:=cz2 A));refine bodyPost_ret (zaS rfl _ _ E 74 #[.string aC,.int .i64 aD] (0,0) _ rfl bk Tryz.underlying74 rfl (by kernel_rfl)) rfl ?_;exact⟨ez,bz⟩
end
end Go.Proofs.YtilidabdbhaljaaGreatDoor.Fn
end
section
namespace Go.Proofs.YtilidabdbhaljaaGreatDoor.Pure
open Go.RowKit Go.Proofs.YtilidabdbhaljaaGreatDoorW.PrintWords Go.Proofs.YtilidabdbhaljaaGreatDoor.Fn
theorem zk0(xs:List Int)(c:Nat)(hc:c<1000000000)(hl:xs.length<=100000):Ev (λk=>za7.l1 k xs (c:Int)) (xs++if c=0 then [] else [(c:Int)]):=by
 have base: ∀ys:List Int,Ev (λk=>za7.l1 k ys ((0:Nat):Int)) ys:=λys=>Ev.step (f:=λ_=>some ys) (λk=>by simp only[za7.l1];rw[if_neg (by omega)]) (Ev.now _);by_cases h:c=0
 ·rw[if_pos h,h,List.append_nil];exact base xs
 ·rw[if_neg h];refine Ev.step (f:=λk=>za7.l1 k (xs++[(c:Int)]) ((0:Nat):Int)) (λk=>?_) (base _);simp only[za7.l1];rw[if_pos (by omega),if_pos (by omega),zcY (by omega),zda (by omega)];(have e1:(c:Int)%1000000000=c:=by omega);(have e2:(c:Int) / 1000000000=((0:Nat):Int):=by omega);rw[e1,e2];rfl
theorem zk1(by_:Nat)(hby:by_<=400000): ∀(rest:List Int) (done:List Int) (c n:Nat),n=done.length+rest.length->n<=50000->InB 1000000000 rest->c<=by_->
 Ev (λk=>za7.l0 k (done++rest) (by_:Int) (c:Int) (n:Int) (done.length:Int)) (done++mulGo 1000000000 by_ rest c):=by
 intro rest;induction rest with
 |nil=>
  intro done c n hn hs _ hc;refine Ev.step (f:=λk=>za7.l1 k done (c:Int)) (λk=>?_) (zk0 done c (by omega) (by simp at hn;omega));simp only[za7.l0];simp only[List.length_nil] at hn;rw[if_neg (by omega),List.append_nil]
 |cons x rest ih=>
  intro done c n hn hs hin hc;have hx:=hin.cons.1;simp only[List.length_cons] at hn;have hcar:=zfB (B:=1000000000) (x:=x.toNat) (by omega) hc (by omega);have hxm:x.toNat*by_<=1000000000*400000:=Nat.mul_le_mul (by omega) hby;(have hxe:x=(x.toNat:Int):=by omega);have:=ih (done++[(((x.toNat*by_+c)%1000000000:Nat):Int)]) ((x.toNat*by_+c) / 1000000000) n (by simp;omega) hs hin.cons.2 hcar;unfold mulGo;rw[List.append_assoc,List.append_assoc] at this;simp only[List.singleton_append] at this;refine Ev.step (f:=λk=>za7.l0 k (done++(((x.toNat*by_+c)%1000000000:Nat):Int)::rest) (by_:Int) (((x.toNat*by_+c) / 1000000000:Nat):Int) (n:Int) ((done++[(((x.toNat*by_+c)%1000000000:Nat):Int)]).length:Int)) (λk=>?_) this;simp only[za7.l0];have em:(IntKind.u64.wrap ((IntKind.u64.wrap ((rd (done++x::rest) (done.length:Int))*(by_:Int)))+(c:Int)))=((x.toNat*by_+c:Nat):Int):=by
   rw[zd3,hxe];(have h1:(x.toNat:Int)*(by_:Int)=((x.toNat*by_:Nat):Int):=by omega);rw[Int.toNat_natCast,h1,zde (x:=((x.toNat*by_:Nat):Int)) (by omega) (by omega),zde (by omega) (by omega)];omega
  rw[if_pos (by omega),if_pos (by omega),if_pos (by rw[List.length_append,List.length_cons];omega),em,zcY (by omega),zda (by omega),Int.toNat_natCast,set_mid];(have e1:(((x.toNat*by_+c:Nat):Int)%1000000000)=(((x.toNat*by_+c)%1000000000:Nat):Int):=by omega);(have e2:(((x.toNat*by_+c:Nat):Int) / 1000000000)=(((x.toNat*by_+c) / 1000000000:Nat):Int):=by omega);rw[e1,e2,zde (by omega) (by omega),zaF (by omega) (by omega)];congr 1;simp
theorem zhn(xs:List Int)(by_:Nat)(hby:by_<=400000)(hin:InB 1000000000 xs)(hl:xs.length<=50000):Ev (λk=>za7.f k xs (by_:Int)) (mulGo 1000000000 by_ xs 0):=by
 have:=zk1 by_ hby xs [] 0 xs.length (by simp) hl hin (by omega);simpa [za7.f] using this
theorem ziT: ∀(n:Nat) (l:List Int),l.length=n->n<=100000-> ∃l',Ev (λk=>za0.f k l) l'/\lv 1000000000 l'=lv 1000000000 l/\l'.length<=l.length/\ ∀x∈l',x∈l:=by
 intro n;induction n with
 |zero=>
  intro l hl _;refine⟨l,Ev.step (f:=λ_=>some l) (λk=>?_) (Ev.now _),rfl,Nat.le_refl _,λx h=>h⟩;simp only[za0.f,za0.l0];rw[if_neg (by omega)]
 |succ n ih=>
  intro l hl hn;obtain⟨t,c,rfl⟩: ∃t c,l=t++[c]:=by
   rcases List.eq_nil_or_concat l with h|⟨t,c,h⟩
   ·rw[h] at hl;cases hl
   ·exact⟨t,c,by rw[h,List.concat_eq_append]⟩
  (have htl:t.length=n:=by simpa using hl);(have hw:wrap64 (((t++[c]).length:Int)-1)=(t.length:Int):=by rw[zaF (by omega) (by omega)];omega);have hrd:rd (t++[c]) (t.length:Int)=c:=zd3 t c [];by_cases h:c=0
  ·obtain⟨l',h1,h2,h3,h4⟩:=ih t htl (by omega);refine⟨l',Ev.step (f:=λk=>za0.f k t) (λk=>?_) h1,by rw[h2,zeg,h];simp[lv],by simp;omega,λx hx=>List.mem_append_left _ (h4 x hx)⟩;simp only[za0.f,za0.l0];rw[if_pos (by omega),hw,if_pos (by omega),if_pos (by omega),hrd,if_pos h,if_pos (by omega)];simp
  ·refine⟨t++[c],Ev.step (f:=λ_=>some (t++[c])) (λk=>?_) (Ev.now _),rfl,Nat.le_refl _,λx hx=>hx⟩;simp only[za0.f,za0.l0];rw[if_pos (by omega),hw,if_pos (by omega),if_pos (by omega),hrd,if_neg h]
def b9(x:Nat):List UInt8:=
  [ch (x / 10 / 10 / 10 / 10 / 10 / 10 / 10 / 10%10),ch (x / 10 / 10 / 10 / 10 / 10 / 10 / 10%10),ch (x / 10 / 10 / 10 / 10 / 10 / 10%10),ch (x / 10 / 10 / 10 / 10 / 10%10),
   ch (x / 10 / 10 / 10 / 10%10),ch (x / 10 / 10 / 10%10),ch (x / 10 / 10%10),ch (x / 10%10),ch (x%10)]
theorem znb{x:Nat}(h:x<1000000000):val (b9 x)=x:=by
 unfold b9 val;simp only[List.foldl_cons,List.foldl_nil];rw[zcP (by omega),zcP (by omega),zcP (by omega),zcP (by omega),zcP (by omega),zcP (by omega),zcP (by omega),zcP (by omega),zcP (by omega)];omega
theorem znc(x:Nat):AllD (b9 x):=by
 intro c hc;unfold b9 at hc;simp only[List.mem_cons,List.not_mem_nil,or_false] at hc;rcases hc with rfl|rfl|rfl|rfl|rfl|rfl|rfl|rfl|rfl<;>(rw[zcK (by omega)];omega)
theorem zk2{x:Int}(h0:0<=x):(zdS x).map (λn=>UInt8.ofNat n.toNat)=b9 x.toNat:=by
 obtain⟨n,rfl⟩:=Int.eq_ofNat_of_zero_le h0;unfold zdS b9 ch;simp only[List.map_cons,List.map_nil,Int.toNat_natCast];congr 2<;>omega
theorem ziU{l:List Int}(h:InB 1000000000 l):val (L (strOfNums (limbsText l)))=lv 1000000000 l/\AllD (L (strOfNums (limbsText l))):=by
 rw[zeo];induction l with
 |nil=>exact⟨rfl,AllD.nil⟩
 |cons x l ih=>
  have hx:=h.cons.1;obtain⟨h1,h2⟩:=ih h.cons.2;have e:limbsText (x::l)=limbsText l++zdS x:=by
   unfold limbsText;rw[List.reverse_cons,List.map_append,List.flatten_append];simp
  rw[e,List.map_append,zk2 hx.1];refine⟨?_,h2.append (znc _)⟩;rw[val_append,h1,znb (by omega),lv];have:(b9 x.toNat).length=9:=rfl;rw[this];omega
theorem zmd(l:List Int)(h:InB 1000000000 l)(hl:l.length<=100000):Ev (λk=>zcz.f k l) (S (digs (lv 1000000000 l))):=by
 obtain⟨l',h1,h2,h3,h4⟩:=ziT l.length l rfl hl;have h5:InB 1000000000 l':=λx hx=>h x (h4 x hx);obtain⟨h6,h7⟩:=ziU h5;unfold zcz.f;refine Ev.congr (f:=λk=>(za0.f k l).bind ((λ(_:Nat) (lx:List Int)=>if lx.length<=l.length/\ ∀x∈lx,0<=x/\x<=999999999 then zbQ.f (strOfNums (limbsText lx)) ⟨#[48]⟩ else none) k)) (λk=>?_) (Ev.bind h1 ?_)
 ·rw[if_pos ⟨hl,λx hx=>by have:=h x hx;omega⟩]
 ·refine Ev.congr (λk=>?_) (Ev.now _);show(if l'.length<=l.length/\ ∀x∈l',0<=x/\x<=999999999 then zbQ.f (strOfNums (limbsText l')) ⟨#[48]⟩ else none)=some (S (digs (lv 1000000000 l)));rw[if_pos ⟨h3,λx hx=>by have:=h5 x hx;omega⟩,trimL,zlz h7,h6,h2]
def eLim(e:Int):Int:=if e<0 then e else 0
def eBase(e:Int):Nat:=if e<0 then 5 else 2
def exactS(m:Nat)(e:Int):ByteArray×Int×Int:=
  if e< -1200\/1200<e then(⟨#[]⟩,0,1) else((decS (decOf (m*eBase e^e.natAbs) (eLim e))).1,(decS (decOf (m*eBase e^e.natAbs) (eLim e))).2,0)
theorem zjI(l:List Int)(pt:Int)(h:InB 1000000000 l)(hl:l.length<=20000)(hp: -5000<=pt/\pt<=5000):
 Ev (λk=>(zcz.f k l).bind λt=>(zbH.f t (wrap64 ((t.size:Int)+pt))).bind λbt=>some (bt.1,bt.2,(0:Int))) ((decS (decOf (lv 1000000000 l) pt)).1,(decS (decOf (lv 1000000000 l) pt)).2,0):=by
 refine Ev.bind (zmd l h (by omega)) (Ev.congr (λk=>?_) (Ev.now _));have hlt:=zlB h;have hd:(digs (lv 1000000000 l)).length<=9*l.length:=zfC _ _ (by rw[Nat.pow_mul];exact hlt);generalize lv 1000000000 l=n at hd ⊢;rw[zas,zaF (by omega) (by omega),zet _ _ (by rw[zas];omega) (by omega) (by omega),L_S,zcC (zgy n),zeD,Option.bind_some];(have:((digs n).length:Int)+pt-((digs n).length:Int)=pt:=by omega);rw[this]
theorem zk3(b:Nat)(hb:b=2\/b=5)(pt:Int)(hp: -5000<=pt/\pt<=5000): ∀(e:Nat) (l:List Int),InB 1000000000 l->l.length+e<=20000->
 Ev (λk=>zaE.l1 k (e:Int) l (b:Int) pt) ((decS (decOf (lv 1000000000 l*b^e) pt)).1,(decS (decOf (lv 1000000000 l*b^e) pt)).2,0):=by
 intro e;induction e with
 |zero=>
  intro l h hl;rw[Nat.pow_zero,Nat.mul_one];refine Ev.step (λk=>?_) (zjI l pt h (by omega) hp);simp only[zaE.l1];rw[if_neg (by omega)]
 |succ e ih=>
  intro l h hl;(have A:b<=5:=by omega);have h1:=zhn l b (by omega) h (by omega);have h2:=ih (mulGo 1000000000 b l 0) (zdu (by omega) l 0 h (by omega)) (by have:=zdk (B:=1000000000) (by_:=b) l 0;omega);rw[zdp (by omega),Nat.mul_assoc,<-Nat.pow_succ'] at h2;refine Ev.step (λk=>?_) (Ev.bind (f:=λk t=>zaE.l1 k (e:Int) t (b:Int) pt) h1 h2);simp only[zaE.l1];rw[if_pos (by omega)];(have:wrap64 (((e+1:Nat):Int)-1)=(e:Int):=by rw[zaF (by omega) (by omega)];omega);rw[this]
theorem pow8(b:Nat)(hb:b=2\/b=5):(IntKind.u64.wrap ((IntKind.u64.wrap ((IntKind.u64.wrap ((IntKind.u64.wrap ((IntKind.u64.wrap ((IntKind.u64.wrap ((IntKind.u64.wrap ((b:Int)*b))*b))*b))*b))*b))*b))*b))=((b^8:Nat):Int):=by
 rcases hb with rfl|rfl<;>rfl
theorem zk4(b:Nat)(hb:b=2\/b=5)(pt:Int)(hp: -5000<=pt/\pt<=5000): ∀(e:Nat) (l:List Int),InB 1000000000 l->l.length+e<=20000->
 Ev (λk=>zaE.l0 k (e:Int) l (b:Int) pt) ((decS (decOf (lv 1000000000 l*b^e) pt)).1,(decS (decOf (lv 1000000000 l*b^e) pt)).2,0):=by
 intro e;induction e using Nat.strongRecOn with
 |_ e ih=>
  intro l h hl;(have A:b^8<=390625:=by rcases hb with rfl|rfl<;>decide);by_cases he:e>=8
  ·have h1:=zhn l (b^8) (by omega) h (by omega);have h2:=ih (e-8) (by omega) (mulGo 1000000000 (b^8) l 0) (zdu (by omega) l 0 h (by omega)) (by have:=zdk (B:=1000000000) (by_:=b^8) l 0;omega);rw[zdp (by omega),Nat.mul_assoc,<-Nat.pow_add,show 8+(e-8)=e by omega] at h2;refine Ev.step (λk=>?_) (Ev.bind (f:=λk t=>zaE.l0 k ((e-8:Nat):Int) t (b:Int) pt) h1 h2);simp only[zaE.l0];rw[if_pos (by omega),pow8 b hb];(have:wrap64 ((e:Int)-8)=((e-8:Nat):Int):=by rw[zaF (by omega) (by omega)];omega);rw[this]
  ·refine Ev.step (λk=>?_) (zk3 b hb pt hp e l h hl);simp only[zaE.l0];rw[if_neg (by omega)]
theorem zd4(m:Nat)(e:Int)(hm:m<18446744073709551616):Ev (λk=>zaE.f k (m:Int) e) (exactS m e):=by
 unfold exactS;by_cases h1:e< -1200
 ·rw[if_pos (.inl h1)];refine Ev.congr (f:=λk=>zaE.j0 k (m:Int) e true) (λk=>?_) (Ev.step (f:=λ_=>some ((⟨#[]⟩:ByteArray),(0:Int),(1:Int))) (λk=>rfl) (Ev.now _));unfold zaE.f;rw[if_pos h1]
 ·by_cases h2:1200<e
  ·rw[if_pos (.inr h2)];refine Ev.congr (f:=λk=>zaE.j0 k (m:Int) e true) (λk=>?_) (Ev.step (f:=λ_=>some ((⟨#[]⟩:ByteArray),(0:Int),(1:Int))) (λk=>rfl) (Ev.now _));unfold zaE.f;rw[if_neg h1,decide_eq_true (by omega)]
  ·rw[if_neg (by omega)]
   have hin:InB 1000000000 [((m%1000000000:Nat):Int),((m / 1000000000%1000000000:Nat):Int),((m / 1000000000 / 1000000000:Nat):Int)]:=
    InB.mk ⟨by omega,by omega⟩ (InB.mk ⟨by omega,by omega⟩ (InB.mk ⟨by omega,by omega⟩ (InB.nil _)))
   have hv:lv 1000000000 [((m%1000000000:Nat):Int),((m / 1000000000%1000000000:Nat):Int),((m / 1000000000 / 1000000000:Nat):Int)]=m:=by
    simp only[lv,Int.toNat_natCast];omega
   have key:=zk4 (eBase e) (by unfold eBase;split<;>omega) (eLim e) (by unfold eLim;split<;>omega) e.natAbs _ hin (by simp;omega);rw[hv] at key;have hl:([Int.tmod (m:Int) 1000000000,Int.tmod (IntKind.u64.wrap (Int.tdiv (m:Int) 1000000000)) 1000000000,IntKind.u64.wrap (Int.tdiv (IntKind.u64.wrap (Int.tdiv (m:Int) 1000000000)) 1000000000)]:List Int)=[((m%1000000000:Nat):Int),((m / 1000000000%1000000000:Nat):Int),((m / 1000000000 / 1000000000:Nat):Int)]:=by
    rw[zcY (by omega),zda (by omega),zde (by omega) (by omega),zcY (by omega),zda (by omega),zde (by omega) (by omega)];congr 2
   refine Ev.congr (f:=λk=>zaE.j0 k (m:Int) e false) (λk=>?_) (Ev.step (f:=λk=>zaE.j1 k (e.natAbs:Int) [((m%1000000000:Nat):Int),((m / 1000000000%1000000000:Nat):Int),((m / 1000000000 / 1000000000:Nat):Int)] (eBase e:Int) (eLim e)) (λk=>?_) (Ev.step (λk=>rfl) key))
   ·unfold zaE.f;rw[if_neg h1,decide_eq_false (by omega)]
   ·simp only[zaE.j0];rw[if_neg (by simp),hl,Option.bind_some];unfold eBase eLim;by_cases h3:e<0
    ·rw[if_pos h3,if_pos h3,if_pos h3,zaF (by omega) (by omega)];(have:(-e:Int)=(e.natAbs:Int):=by omega);rw[this];rfl
    ·rw[if_neg h3,if_neg h3,if_neg h3];(have:(e:Int)=(e.natAbs:Int):=by omega);rw[<-this];rfl
theorem znC: ∀(d n:Nat) (out:List Int),n<10^d->n<18446744073709551616->out.length+d<=1000->Ev (λk=>zbs.l0 k (n:Int) out) (out++dLE d n):=by
 intro d;induction d with
 |zero=>
  intro n out h _ _;simp at h;subst h;refine Ev.step (f:=λ_=>some (out++dLE 0 0)) (λk=>?_) (Ev.now _);simp only[zbs.l0];rw[if_neg (by omega)];simp[dLE]
 |succ d ih=>
  intro n out h hn hl;by_cases h0:n=0
  ·subst h0;refine Ev.step (f:=λ_=>some (out++dLE (d+1) 0)) (λk=>?_) (Ev.now _);simp only[zbs.l0];rw[if_neg (by omega)];simp[dLE]
  ·have:=ih (n / 10) (out++[((n%10:Nat):Int)]) (by rw[Nat.pow_succ] at h;omega) (by omega) (by simp;omega);unfold dLE;rw[if_neg h0];rw[List.append_assoc,List.singleton_append] at this;refine Ev.step (f:=λk=>zbs.l0 k ((n / 10:Nat):Int) (out++[((n%10:Nat):Int)])) (λk=>?_) this;simp only[zbs.l0];rw[if_pos (by omega),if_pos (by omega),zcY (by omega),zda (by omega),zde (by omega) (by omega)];congr 2;congr 1;omega
theorem znD(n:Nat)(hn:n<18446744073709551616):Ev (λk=>zbs.f k (n:Int)) (dLE 20 n):=by
 have:=znC 20 n [] (by omega) hn (by simp);simpa [zbs.f] using this
theorem zjJ(xs:List Int)(c:Nat)(hc:c<10)(hl:xs.length<=100000):Ev (λk=>zaz.l1 k xs (c:Int)) (xs++if c=0 then [] else [(c:Int)]):=by
 have base: ∀ys:List Int,Ev (λk=>zaz.l1 k ys ((0:Nat):Int)) ys:=λys=>Ev.step (f:=λ_=>some ys) (λk=>by simp only[zaz.l1];rw[if_neg (by omega)]) (Ev.now _);by_cases h:c=0
 ·rw[if_pos h,h,List.append_nil];exact base xs
 ·rw[if_neg h];refine Ev.step (f:=λk=>zaz.l1 k (xs++[(c:Int)]) ((0:Nat):Int)) (λk=>?_) (base _);simp only[zaz.l1];rw[if_pos (by omega),if_pos (by omega),zcY (by omega),zda (by omega)];(have e1:(c:Int)%10%256=c:=by omega);(have e2:(c:Int) / 10=((0:Nat):Int):=by omega);rw[e1,e2,zaF (by omega) (by omega)]
theorem zjK(by_:Nat)(hby:by_<=9): ∀(rest:List Int) (done out:List Int) (c n:Nat),n=done.length+rest.length->n<=50000->out.length=done.length->InB 10 rest->c<=by_->
 Ev (λk=>zaz.l0 k (by_:Int) out (c:Int) (done++rest) (n:Int) (done.length:Int)) (out++mulGo 10 by_ rest c):=by
 intro rest;induction rest with
 |nil=>
  intro done out c n hn hs ho _ hc;refine Ev.step (f:=λk=>zaz.l1 k out (c:Int)) (λk=>?_) (zjJ out c (by omega) (by simp at hn;omega));simp only[zaz.l0];simp only[List.length_nil] at hn;rw[if_neg (by omega)]
 |cons x rest ih=>
  intro done out c n hn hs ho hin hc;have hx:=hin.cons.1;simp only[List.length_cons] at hn;have hcar:=zfB (B:=10) (x:=x.toNat) (by omega) hc (by omega);have hxm:x.toNat*by_<=10*9:=Nat.mul_le_mul (by omega) hby;(have hxe:x=(x.toNat:Int):=by omega);have:=ih (done++[x]) (out++[(((x.toNat*by_+c)%10:Nat):Int)]) ((x.toNat*by_+c) / 10) n (by simp;omega) hs (by simp[ho]) hin.cons.2 hcar;unfold mulGo;rw[List.append_assoc,List.append_assoc] at this;simp only[List.singleton_append] at this;refine Ev.step (f:=λk=>zaz.l0 k (by_:Int) (out++[(((x.toNat*by_+c)%10:Nat):Int)]) (((x.toNat*by_+c) / 10:Nat):Int) (done++x::rest) (n:Int) ((done++[x]).length:Int)) (λk=>?_) this;simp only[zaz.l0];have em:(wrap64 ((c:Int)+(wrap64 ((wrap64 (rd (done++x::rest) (done.length:Int)))*(by_:Int)))))=((x.toNat*by_+c:Nat):Int):=by
   rw[zd3,zaF (x:=x) (by omega) (by omega)];(have h1:x*(by_:Int)=((x.toNat*by_:Nat):Int):=by rw[Int.natCast_mul,<-hxe]);rw[h1,zaF (x:=((x.toNat*by_:Nat):Int)) (by omega) (by omega),zaF (by omega) (by omega)];omega
  rw[if_pos (by omega),if_pos (by omega),if_pos (by rw[List.length_append,List.length_cons];omega),if_pos (by omega),em,zcY (by omega),zda (by omega)];(have e1:(((x.toNat*by_+c:Nat):Int)%10%256)=(((x.toNat*by_+c)%10:Nat):Int):=by omega);(have e2:(((x.toNat*by_+c:Nat):Int) / 10)=(((x.toNat*by_+c) / 10:Nat):Int):=by omega);rw[e1,e2,zaF (by omega) (by omega),zaF (by omega) (by omega)];congr 1;simp
theorem ze5(xs:List Int)(by_:Nat)(hby:by_<=9)(hin:InB 10 xs)(hl:xs.length<=50000):Ev (λk=>zaz.f k xs (by_:Int)) (mulGo 10 by_ xs 0):=by
 have:=zjK by_ hby xs [] [] 0 xs.length (by simp) hl rfl hin (by omega);simpa [zaz.f] using this
theorem zjL(m:Nat)(v:Int)(t:List Int):(List.replicate (m+1) (0:Int)++t).set m v=List.replicate m 0++v::t:=by
 have h1:List.replicate (m+1) (0:Int)=List.replicate m 0++[0]:=List.replicate_succ';have h2:=set_mid (List.replicate m (0:Int)) 0 v t;rw[List.length_replicate] at h2;rw[h1,List.append_assoc];exact h2
theorem zk5(all:List Int)(hall:all.length<=50000): ∀(rest done:List Int),all=done++rest->InB 10 rest->
 Ev (λk=>zbf.l0 k all (List.replicate rest.length 0++done.reverse.map (λx=>48+x)) all (all.length:Int) (done.length:Int)) (strOfNums (all.reverse.map (λx=>48+x))):=by
 intro rest;induction rest with
 |nil=>
  intro done h _;rw[List.append_nil] at h;subst h;refine Ev.step (f:=λ_=>some (strOfNums (all.reverse.map (λx=>48+x)))) (λk=>?_) (Ev.now _);simp only[zbf.l0];rw[if_neg (by omega)];simp
 |cons x rest ih=>
  intro done h hin;have hx:=hin.cons.1;have:=ih (done++[x]) (by rw[h];simp) hin.cons.2;rw[List.reverse_append,List.map_append,List.reverse_singleton,List.map_cons,List.map_nil,List.singleton_append] at this;(have hlen:all.length=done.length+(rest.length+1):=by rw[h];simp);have hw:(wrap64 ((wrap64 ((all.length:Int)-1))-(done.length:Int)))=(rest.length:Int):=by
   rw[zaF (x:=(all.length:Int)-1) (by omega) (by omega),zaF (by omega) (by omega)];omega
  refine Ev.step (f:=λk=>zbf.l0 k all (List.replicate rest.length 0++(48+x)::done.reverse.map (λx=>48+x)) all (all.length:Int) ((done++[x]).length:Int)) (λk=>?_) this;simp only[zbf.l0];(have hrd:rd all (done.length:Int)=x:=by rw[h];exact zd3 done x rest);rw[if_pos (by omega),if_pos (by omega),if_pos (by omega),hw,if_pos (by omega),if_pos (by simp;omega),hrd,Int.toNat_natCast,List.length_cons,zjL,zaF (by omega) (by omega)];(have e1:(48+x)%256=48+x:=by omega);rw[e1];congr 1;simp
theorem zho{l:List Int}(h:InB 10 l):strOfNums (l.reverse.map (λx=>48+x))=S (textLE l):=by
 unfold S textLE;rw[<-S_L (strOfNums _),zeo,List.map_map];have e:List.map ((λn:Int=>UInt8.ofNat n.toNat)∘λx=>48+x) l.reverse=List.map (λx:Int=>ch x.toNat) l.reverse:=by
  apply List.map_congr_left;intro x hx;have:=h x (List.mem_reverse.1 hx);simp only[Function.comp];unfold ch;congr 1;omega
 rw[e];rfl
theorem zhp(l:List Int)(h:InB 10 l)(hl:l.length<=50000):Ev (λk=>zbf.f k l) (S (textLE l)):=by
 have:=zk5 l hl l [] rfl h;rw[zho h] at this;unfold zbf.f;refine Ev.congr (λk=>?_) this;rw[if_pos (by omega),if_pos (by omega)];simp
theorem zf6(l:List Int)(back:Nat)(h:InB 10 l)(hl:l.length<=20000)(hb:back<=2000):
 Ev (λk=>(zbf.f k l).bind λt=>(zaB.f k t (wrap64 ((l.length:Int)-(back:Int)))).bind λbt=>some (bt.1,bt.2,(0:Int))) ((decS (decOf (lv 10 l) (-(back:Int)))).1,(decS (decOf (lv 10 l) (-(back:Int)))).2,0):=by
 refine Ev.bind (zhp l h (by omega)) ?_;have h1:=ze2 (S (textLE l)) ((l.length:Int)-(back:Int)) (by rw[zas,zdQ];omega) (by omega) (by omega);rw[L_S,zcC (zf3 h),zf2 h,zdQ] at h1;(have:(l.length:Int)-(back:Int)-(l.length:Int)= -(back:Int):=by omega);rw[this] at h1;refine Ev.congr (λk=>?_) (Ev.bind (f:=λ_ bt=>some (bt.1,bt.2,(0:Int))) h1 (Ev.now _));rw[zaF (by omega) (by omega)]
theorem zjM: ∀(d i:Nat) (e:Int) (l:List Int),e= -((i+d:Nat):Int)->i+d<=1200->InB 10 l->l.length+d<=20000->
 Ev (λk=>zaA.l1 k e l (i:Int) (-(i:Int))) ((decS (decOf (lv 10 l*5^d) e)).1,(decS (decOf (lv 10 l*5^d) e)).2,0):=by
 intro d;induction d with
 |zero=>
  intro i e l he hi h hl;subst he;rw[Nat.pow_zero,Nat.mul_one];refine Ev.step (λk=>?_) (zf6 l i h (by omega) (by omega));simp only[zaA.l1];rw[if_neg (by omega)]
 |succ d ih=>
  intro i e l he hi h hl;have h1:=ze5 l 5 (by omega) h (by omega);have h2:=ih (i+1) e (mulGo 10 5 l 0) (by rw[he];congr 2;omega) (by omega) (zdu (by omega) l 0 h (by omega)) (by have:=zdk (B:=10) (by_:=5) l 0;omega);rw[zdp (by omega),Nat.mul_assoc,<-Nat.pow_succ'] at h2;refine Ev.step (λk=>?_) (Ev.bind (f:=λk t=>zaA.l1 k e t ((i+1:Nat):Int) (-((i+1:Nat):Int))) h1 h2);simp only[zaA.l1];rw[if_pos (by omega),zaF (by omega) (by omega),zaF (by omega) (by omega)];(have e1:(i:Int)+1=((i+1:Nat):Int):=by omega);(have e2: -(i:Int)-1= -((i+1:Nat):Int):=by omega);rw[e1,e2];rfl
theorem zjN: ∀(d i:Nat) (e:Nat) (l:List Int),e=i+d->e<=1200->InB 10 l->l.length+d<=20000->
 Ev (λk=>zaA.l0 k (e:Int) l 0 (i:Int)) ((decS (decOf (lv 10 l*2^d) 0)).1,(decS (decOf (lv 10 l*2^d) 0)).2,0):=by
 intro d;induction d with
 |zero=>
  intro i e l he hi h hl;rw[Nat.pow_zero,Nat.mul_one];refine Ev.step (f:=λk=>zaA.l1 k (e:Int) l 0 0) (λk=>?_) (Ev.step (λk=>?_) (zf6 l 0 h (by omega) (by omega)))
  ·simp only[zaA.l0];rw[if_neg (by omega)]
  ·simp only[zaA.l1];rw[if_neg (by omega)];rfl
 |succ d ih=>
  intro i e l he hi h hl;have h1:=ze5 l 2 (by omega) h (by omega);have h2:=ih (i+1) e (mulGo 10 2 l 0) (by omega) (by omega) (zdu (by omega) l 0 h (by omega)) (by have:=zdk (B:=10) (by_:=2) l 0;omega);rw[zdp (by omega),Nat.mul_assoc,<-Nat.pow_succ'] at h2;refine Ev.step (λk=>?_) (Ev.bind (f:=λk t=>zaA.l0 k (e:Int) t 0 ((i+1:Nat):Int)) h1 h2);simp only[zaA.l0];rw[if_pos (by omega),zaF (by omega) (by omega)];rfl
theorem zgD(m:Nat)(e:Int)(hm:m<18446744073709551616):Ev (λk=>zaA.f k (m:Int) e) (exactS m e):=by
 unfold exactS;by_cases h1:e< -1200
 ·rw[if_pos (.inl h1)];refine Ev.congr (f:=λk=>zaA.j0 k (m:Int) e true) (λk=>?_) (Ev.step (f:=λ_=>some ((⟨#[]⟩:ByteArray),(0:Int),(1:Int))) (λk=>rfl) (Ev.now _));unfold zaA.f;rw[if_pos h1]
 ·by_cases h2:1200<e
  ·rw[if_pos (.inr h2)];refine Ev.congr (f:=λk=>zaA.j0 k (m:Int) e true) (λk=>?_) (Ev.step (f:=λ_=>some ((⟨#[]⟩:ByteArray),(0:Int),(1:Int))) (λk=>rfl) (Ev.now _));unfold zaA.f;rw[if_neg h1,decide_eq_true (by omega)]
  ·rw[if_neg (by omega)];have hin:=zjp 20 m;have hlen:=zig 20 m;have hv:=zif 20 m (by omega);refine Ev.congr (f:=λk=>zaA.j0 k (m:Int) e false) (λk=>?_) (Ev.step (λk=>?_) (Ev.bind (f:=λk t=>zaA.l0 k e t 0 0) (znD m hm) ?_))
   ·unfold zaA.f;rw[if_neg h1,decide_eq_false (by omega)]
   ·simp only[zaA.j0];rw[if_neg (by simp)]
   ·unfold eBase eLim;by_cases h3:e<0
    ·rw[if_pos h3,if_pos h3];have key:=zjM e.natAbs 0 e (dLE 20 m) (by omega) (by omega) hin (by omega);rw[hv] at key;refine Ev.step (f:=λk=>zaA.l1 k e (dLE 20 m) 0 0) (λk=>?_) key;simp only[zaA.l0];rw[if_neg (by omega)]
    ·rw[if_neg h3,if_neg h3];have key:=zjN e.natAbs 0 e.natAbs (dLE 20 m) (by omega) (by omega) hin (by omega);rw[hv] at key;(have e1:(e.natAbs:Int)=e:=by omega);rw[e1] at key;exact key
def sumD(a:List UInt8)(p:Int)(b:List UInt8)(q:Int):List UInt8×Int:=
  decOf (sv a p (min (p-a.length) (q-b.length))+sv b q (min (p-a.length) (q-b.length))) (min (p-a.length) (q-b.length))
theorem zdY{a b:List UInt8}{p q E:Int}(h1:E<=p-a.length)(h2:E<=q-b.length):sumD a p b q=decOf (sv a p E+sv b q E) E:=by
 unfold sumD;obtain⟨k,hk⟩: ∃k:Nat,E=min (p-(a.length:Int)) (q-b.length)-k:=⟨(min (p-(a.length:Int)) (q-b.length)-E).toNat,by omega⟩;rw[hk,zeH a p _ (by omega),zeH b q _ (by omega),<-Nat.add_mul,zdE]
theorem zgE(a:List UInt8)(p:Int)(b:List UInt8)(q:Int):sumD a p b q=sumD b q a p:=by
 rw[zdY (a:=a) (b:=b) (E:=min (p-(a.length:Int)) (q-b.length)) (by omega) (by omega),zdY (a:=b) (b:=a) (E:=min (p-(a.length:Int)) (q-b.length)) (by omega) (by omega),Nat.add_comm]
theorem zdf{b:List UInt8}{q:Int}(hb:InForm b q)(p:Int):sumD [] p b q=(b,q):=by
 rw[zdY (E:=min (p-(([]:List UInt8).length:Int)) (q-b.length)) (by omega) (by omega)];(have:sv [] p (min (p-(([]:List UInt8).length:Int)) (q-b.length))=0:=by unfold sv;rw[zbP,Nat.zero_mul]);rw[this,Nat.zero_add,zkN hb (by omega)]
theorem zew{a:List UInt8}{p:Int}(ha:InForm a p)(q:Int):sumD a p [] q=(a,p):=by rw[zgE,zdf ha]
theorem zhq{A B v c m:Nat}(h:v+c*10^m=A%10^m+B%10^m):
 v+(c+A / 10^m%10+B / 10^m%10)%10*10^m+(c+A / 10^m%10+B / 10^m%10) / 10*10^(m+1)=A%10^(m+1)+B%10^(m+1):=by
 have e1:=Nat.mod_pow_succ (x:=A) (b:=10) (k:=m);have e2:=Nat.mod_pow_succ (x:=B) (b:=10) (k:=m);rw[e1,e2];generalize hs:c+A / 10^m%10+B / 10^m%10=s;have hd:=Nat.div_add_mod s 10;(have e3:s / 10*10^(m+1)=10*(s / 10)*10^m:=by rw[Nat.pow_succ,Nat.mul_comm (10^m) 10,<-Nat.mul_assoc,Nat.mul_comm (s / 10) 10]);rw[e3];(have e4:s%10*10^m+10*(s / 10)*10^m=s*10^m:=by rw[<-Nat.add_mul];congr 1;omega);(have e5:s*10^m=c*10^m+10^m*(A / 10^m%10)+10^m*(B / 10^m%10):=by rw[<-hs,Nat.add_mul,Nat.add_mul,Nat.mul_comm (A / 10^m%10),Nat.mul_comm (B / 10^m%10)]);omega
theorem zjO{s:Nat}(h:s<=19):wrap64 (Int.tdiv (s:Int) 10)=((s / 10:Nat):Int):=by
 rw[zda (x:=(s:Int)) (Int.natCast_nonneg s),zaF (x:=(s:Int) / 10) (by omega) (by omega)];omega
theorem zjP(s:Nat):Int.tmod (s:Int) 10%256=((s%10:Nat):Int):=by
 rw[zcY (x:=(s:Int)) (Int.natCast_nonneg s)];omega
theorem zme{a b:List UInt8}{p q E top:Int}(ha:AllD a)(hb:AllD b)(h1:E<=p-a.length)(h2:E<=q-b.length)
    (hba:a.length<=4000/\ -10000<=p/\p<=10000) (hbb:b.length<=4000/\ -10000<=q/\q<=10000) (hE: -20000<=E) (ht:p<=top/\q<=top/\top<=20000) (hEt:E<=top):
    ∀(d:Nat) (out:List Int) (c:Nat),(d:Int)=top+1-E-out.length->InB 10 out->c<=1->lv 10 out+c*10^out.length=sv a p E%10^out.length+sv b q E%10^out.length->
      Ev (λk=>zao.l0 k top out (c:Int) (E+out.length) (S a) p (S b) q) (decS (decOf (sv a p E+sv b q E) E)):=by
  intro d;induction d with
  |zero=>
    intro out c hd hin hc hv;have hla:=zdF ha h1;have hlb:=zdF hb h2;have hA:10^(p-E).toNat<=10^(out.length-1):=Nat.pow_le_pow_right (by omega) (by omega);have hB:10^(q-E).toNat<=10^(out.length-1):=Nat.pow_le_pow_right (by omega) (by omega);(have hpw:10^out.length=10^(out.length-1)*10:=by rw[<-Nat.pow_succ];congr 1;omega);rw[Nat.mod_eq_of_lt (by omega),Nat.mod_eq_of_lt (by omega)] at hv;have B:c=0:=by
      rcases Nat.eq_zero_or_pos c with h|h
      ·exact h
      ·(have:c=1:=by omega);subst this;omega
    rw[B,Nat.zero_mul,Nat.add_zero] at hv;have h3:=ze2 (S (textLE out)) (top+1) (by rw[zas,zdQ];omega) (by omega) (by omega);rw[L_S,zcC (zf3 hin),zf2 hin,zdQ,hv] at h3;(have e:top+1-(out.length:Int)=E:=by omega);rw[e] at h3;refine Ev.step (λk=>?_) (Ev.bind (f:=λk t=>(zaB.f k t (top+1)).bind λbt=>some (bt.1,bt.2)) (zhp out hin (by omega)) (Ev.bind (f:=λ_ bt=>some (bt.1,bt.2)) h3 (Ev.now _)));simp only[zao.l0];rw[if_neg (by omega),zaF (by omega) (by omega)]
  |succ d ih=>
    intro out c hd hin hc hv;have d1:=digit_eq (x:=E+out.length) ha h1 (by omega) (by omega);have d2:=digit_eq (x:=E+out.length) hb h2 (by omega) (by omega);(have en:(E+(out.length:Int)-E).toNat=out.length:=by omega);rw[en] at d1 d2;have hst:=zhq hv;generalize hs:c+sv a p E / 10^out.length%10+sv b q E / 10^out.length%10=s at hst;have A:s<=19:=by omega
    have:=ih (out++[((s%10:Nat):Int)]) (s / 10) (by simp;omega) (hin.append (InB.mk ⟨by omega,by omega⟩ (InB.nil 10))) (by omega) (by
      rw[zeg,List.length_append,List.length_singleton]
      simp only[lv,Int.toNat_natCast,Nat.mul_zero,Nat.add_zero]
      rw[Nat.mul_comm (10^out.length) (s%10)]
      exact hst)
    rw[List.length_append,List.length_singleton] at this;refine Ev.step (f:=λk=>zao.l0 k top (out++[((s%10:Nat):Int)]) ((s / 10:Nat):Int) (E+((out.length+1:Nat):Int)) (S a) p (S b) q) (λk=>?_) this;simp only[zao.l0];have em:(wrap64 ((c:Int)+(wrap64 (((sv a p E / 10^out.length%10:Nat):Int)+((sv b q E / 10^out.length%10:Nat):Int)))))=(s:Int):=by
      rw[zaF (x:=((sv a p E / 10^out.length%10:Nat):Int)+((sv b q E / 10^out.length%10:Nat):Int)) (by omega) (by omega),zaF (by omega) (by omega)];omega
    have e3:wrap64 (E+(out.length:Int)+1)=E+((out.length+1:Nat):Int):=by
      rw[zaF (x:=E+(out.length:Int)+1) (by omega) (by omega)];omega
    (have e4:E+(out.length:Int)<=top:=by omega);(have e5:out.length<140737488355328:=by omega);rw[if_pos e4,d1,Option.bind_some,d2,Option.bind_some,if_pos e5,em,zjP,zjO A,e3]
theorem zfp{a b:List UInt8}{p q:Int}(ha:InForm a p)(hb:InForm b q)(hba:a.length<=4000/\ -10000<=p/\p<=10000)(hbb:b.length<=4000/\ -10000<=q/\q<=10000):
 Ev (λk=>zao.f k (S a) p (S b) q) (decS (sumD a p b q)):=by
 unfold zao.f;rw[zbn,L_S,zbn,L_S];by_cases h1:a=[]
 ·refine Ev.congr (λk=>by rw[if_pos h1]) ?_;subst h1;rw[zdf hb];exact Ev.now _
 ·refine Ev.congr (λk=>by rw[if_neg h1]) ?_;by_cases h2:b=[]
  ·refine Ev.congr (λk=>by rw[if_pos h2]) ?_;subst h2;rw[zew ha];exact Ev.now _
  ·have hal:0<a.length:=List.length_pos_iff.2 h1;have key: ∀(E:Int),E=min (p-(a.length:Int)) (q-b.length)-> ∀top:Int,top=max p q->Ev (λk=>zao.j1 k top E (S a) p (S b) q) (decS (sumD a p b q)):=by
    intro E hE top ht;have h3:=zme (E:=E) (p:=p) (q:=q) (top:=top) ha.1 hb.1 (by omega) (by omega) hba hbb (by omega) (by omega) (by omega) (top+1-E).toNat [] 0 (by simp;omega) (InB.nil 10) (by omega) (by simp[lv,Nat.mod_one]);rw[<-zdY (E:=E) (p:=p) (q:=q) (by omega) (by omega)] at h3;refine Ev.step (λk=>?_) h3;simp only[zao.j1];simp
   have A: ∀top:Int,top=max p q->Ev (λk=>zao.j0 k top (p-a.length) (S a) p (S b) q) (decS (sumD a p b q)):=by
    intro top ht;by_cases h4:q-(b.length:Int)<p-a.length
    ·refine Ev.step (f:=λk=>zao.j1 k top (q-b.length) (S a) p (S b) q) (λk=>?_) (key _ (by omega) top ht);simp only[zao.j0];rw[zdq b q (by omega),Option.bind_some,if_pos h4,Option.bind_some]
    ·refine Ev.step (f:=λk=>zao.j1 k top (p-a.length) (S a) p (S b) q) (λk=>?_) (key _ (by omega) top ht);simp only[zao.j0];rw[zdq b q (by omega),Option.bind_some,if_neg h4]
   by_cases h5:q>p
   ·exact Ev.congr (λk=>by rw[if_neg h2,zdq a p (by omega),Option.bind_some,if_pos h5]) (A q (by omega))
   ·exact Ev.congr (λk=>by rw[if_neg h2,zdq a p (by omega),Option.bind_some,if_neg h5]) (A p (by omega))
def toI(l:List UInt8):List Int:=l.map λb=>(b.toNat:Int)
theorem zcy(a b:List UInt8):toI (a++b)=toI a++toI b:=List.map_append
theorem zdc(a:List UInt8):(toI a).length=a.length:=List.length_map _
theorem zgF(l:List UInt8):bytesOf (S l)=toI l:=rfl
theorem zdI(l:List UInt8):strOfNums (toI l)=S l:=by
 rw[<-S_L (strOfNums (toI l)),zeo];congr 1;unfold toI;rw[List.map_map];have:List.map ((λn:Int=>UInt8.ofNat n.toNat)∘λb:UInt8=>(b.toNat:Int)) l=List.map id l:=by
  apply List.map_congr_left;intro c _;simp[Function.comp]
 rw[this,List.map_id]
theorem zmf(A:ByteArray)(p:Int)(B:ByteArray)(q:Int)(n:Nat)(hn:n<=100000)(h2:2<=n)(hA:A.size+1<=n)(r:ByteArray×Int×Int)
 (h:Ev (λk=>zaR.j2 k (cpyAt (List.replicate n 48) 1 A) A p B q) r):
 ∀(d i:Nat),i+d=n->Ev (λk=>zaR.l0 k (List.replicate i 48++List.replicate d 0) (n:Int) (i:Int) A p B q) r:=by
 intro d;induction d with
 |zero=>
  intro i hi;refine Ev.step (λk=>?_) h;(have e:i=n:=by omega);subst e;simp only[zaR.l0];rw[if_neg (by omega),List.replicate_zero,List.append_nil,if_pos (by rw[List.length_replicate];omega),if_pos (by rw[List.length_replicate];omega),if_pos (by rw[List.length_replicate];omega)]
 |succ d ih=>
  intro i hi;refine Ev.step (λk=>?_) (ih (i+1) (by omega));simp only[zaR.l0];have e:(List.replicate i (48:Int)++List.replicate (d+1) 0).set i 48=List.replicate (i+1) 48++List.replicate d 0:=by
   have:=set_mid (List.replicate i (48:Int)) 0 48 (List.replicate d 0);rw[List.length_replicate] at this;rw[List.replicate_succ,this,List.replicate_succ' (n:=i)];simp
  rw[if_pos (by omega),if_pos (by omega),if_pos (by simp;omega),Int.toNat_natCast,e,zaF (by omega) (by omega)];rfl
theorem znd{a b:List UInt8}{p q E:Int}{n:Nat}(orig:List UInt8)(ho:AllD orig)(hol:orig.length=n)(hn:(n:Int)=p+1-E)(hov:val orig=sv a p E)(ha:AllD a)(hb:AllD b)
    (h1:E<=p-a.length) (h2:E<=q-b.length) (hqp:q<=p)
    (hba:a.length<=4000/\ -10000<=p/\p<=10000) (hbb:b.length<=4000/\ -10000<=q/\q<=10000) (hE: -20000<=E) (hEp:E<p):
    ∀(j:Nat) (done:List UInt8) (c:Nat),j+done.length=n->AllD done->c<=1->val done+c*10^done.length=sv a p E%10^done.length+sv b q E%10^done.length->
      Ev (λk=>zaR.l1 k (toI (orig.take j)++toI done) (c:Int) ((j:Int)-1) (S a) p (S b) q)
        (if(decOf (sv a p E+sv b q E) E).1.length>2000 then((⟨#[]⟩:ByteArray),0,2) else((decS (decOf (sv a p E+sv b q E) E)).1,(decS (decOf (sv a p E+sv b q E) E)).2,0)):=by
  intro j;induction j with
  |zero=>
    intro done c hd hin hc hv;have hla:=zdF ha h1;have hlb:=zdF hb h2;have hA:10^(p-E).toNat<=10^(done.length-1):=Nat.pow_le_pow_right (by omega) (by omega);have hB:10^(q-E).toNat<=10^(done.length-1):=Nat.pow_le_pow_right (by omega) (by omega);(have hpw:10^done.length=10^(done.length-1)*10:=by rw[<-Nat.pow_succ];congr 1;omega);rw[Nat.mod_eq_of_lt (by omega),Nat.mod_eq_of_lt (by omega)] at hv;have B:c=0:=by
      rcases Nat.eq_zero_or_pos c with h|h
      ·exact h
      ·(have:c=1:=by omega);subst this;omega
    rw[B,Nat.zero_mul,Nat.add_zero] at hv;have hf:=zet (S done) (p+1) (by rw[zas];omega) (by omega) (by omega);rw[L_S,zcC hin,hv] at hf;(have e:p+1-(done.length:Int)=E:=by omega);rw[e] at hf;refine Ev.step (λk=>?_) (Ev.now _);simp only[zaR.l1];rw[if_neg (by omega),List.take_zero];have e2:toI []++toI done=toI done:=rfl;rw[e2,zdI,zaF (by omega) (by omega),hf,Option.bind_some];(have e3:((decS (decOf (sv a p E+sv b q E) E)).1.size:Int)=((decOf (sv a p E+sv b q E) E).1.length:Int):=by unfold decS;rw[zas]);rw[e3];by_cases h5:(decOf (sv a p E+sv b q E) E).1.length>2000
    ·rw[if_pos h5,if_pos (by omega)]
    ·rw[if_neg h5,if_neg (by omega)]
  |succ i ih=>
    intro done c hd hin hc hv;(have hil:i<orig.length:=by omega);(have hm:done.length=n-1-i:=by omega);have hx:=ho orig[i] (List.getElem_mem hil);have hda:dig orig[i]=sv a p E / 10^done.length%10:=by
      rw[<-hov,hm,<-hol,zgB ho i hil]
    have hst:=zhq hv;rw[<-hda] at hst;generalize hs:c+dig orig[i]+sv b q E / 10^done.length%10=s at hst;(have hdl:dig orig[i]<=9:=by unfold dig;omega);have I:s<=19:=by omega
    have:=ih (ch (s%10)::done) (s / 10) (by simp;omega) (by
      intro c' hc'
      rcases List.mem_cons.1 hc' with rfl|h'
      ·rw[zcK (by omega)];omega
      ·exact hin c' h') (by omega) (by
      rw[zcw,List.length_cons,zcP (by omega)]
      omega)
    have etk:orig.take (i+1)=orig.take i++[orig[i]]:=List.take_succ_eq_append_getElem hil;(have hti:(toI (orig.take i)).length=i:=by rw[zdc,List.length_take];omega);have erd:rd (toI (orig.take (i+1))++toI done) (i:Int)=(orig[i].toNat:Int):=by
      have h3:=zd3 (toI (orig.take i)) (orig[i].toNat:Int) (toI done);rw[hti] at h3;rw[etk,zcy,List.append_assoc];exact h3
    have est: ∀v:Int,(toI (orig.take (i+1))++toI done).set i v=toI (orig.take i)++v::toI done:=by
      intro v;have h3:=set_mid (toI (orig.take i)) (orig[i].toNat:Int) v (toI done);rw[hti] at h3;rw[etk,zcy,List.append_assoc];exact h3
    have ecur:toI (orig.take i)++toI (ch (s%10)::done)=toI (orig.take i)++(48+((s%10:Nat):Int))::toI done:=by
      unfold toI;rw[List.map_cons,zcK (by omega)];congr 2
    rw[ecur] at this;(have edig:((orig[i].toNat:Int)-48)%256=(dig orig[i]:Int):=by unfold dig;omega);refine Ev.step (λk=>?_) this;(have ei:(((i+1:Nat):Int)-1)=(i:Int):=by omega);simp only[zaR.l1];(have hll:((toI (orig.take (i+1))++toI done).length:Int)=(n:Int):=by rw[List.length_append,zdc,zdc,List.length_take];omega);have ew:(wrap64 ((wrap64 ((i:Int)-1))-(wrap64 (p-q))))=(i:Int)-1-(p-q):=by
      rw[zaF (x:=(i:Int)-1) (by omega) (by omega),zaF (x:=p-q) (by omega) (by omega),zaF (by omega) (by omega)]
    rw[ei,if_pos (by omega),if_pos (by omega),if_pos (by rw[hll];omega),ew,Int.toNat_natCast,erd,edig,zaF (x:=(i:Int)-1) (by omega) (by omega)];simp only[est,zas]
    -- the other one's digit at this place
    have hdb: ∀r:Option (ByteArray×Int×Int),True:=λ_=>trivial;have A:=digit_eq (x:=p-i) hb h2 (by omega) (by omega);(have en:(p-(i:Int)-E).toNat=done.length:=by omega);rw[en] at A;unfold zbh.f at A;have D:(wrap64 ((wrap64 (q-1))-(p-(i:Int))))=(i:Int)-1-(p-q):=by
      rw[zaF (x:=q-1) (by omega) (by omega),zaF (by omega) (by omega)];omega
    rw[D,zas] at A;by_cases c1:(i:Int)-1-(p-q)>=0
    ·rw[if_pos c1];rw[if_neg (by omega)] at A;by_cases c2:(i:Int)-1-(p-q)<(b.length:Int)
     ·rw[if_pos c2,if_pos c1];rw[if_neg (by omega),if_pos c1,if_pos c2] at A;(injection A with A);rw[A];(have e1:(((dig orig[i]:Int)+(c:Int))%256+((sv b q E / 10^done.length%10:Nat):Int))%256=(s:Int):=by omega);rw[e1];(have e2:(s:Int)%10=((s%10:Nat):Int):=by omega);(have e3:(s:Int) / 10=((s / 10:Nat):Int):=by omega);rw[e2,e3]
     ·rw[if_neg c2];rw[if_pos (by omega)] at A;(injection A with A);(have e1:(((dig orig[i]:Int)+(c:Int))%256)=(s:Int):=by omega);rw[e1];(have e2:(s:Int)%10=((s%10:Nat):Int):=by omega);(have e3:(s:Int) / 10=((s / 10:Nat):Int):=by omega);rw[e2,e3]
    ·rw[if_neg c1];rw[if_pos (by omega)] at A;(injection A with A);(have e1:(((dig orig[i]:Int)+(c:Int))%256)=(s:Int):=by omega);rw[e1];(have e2:(s:Int)%10=((s%10:Nat):Int):=by omega);(have e3:(s:Int) / 10=((s / 10:Nat):Int):=by omega);rw[e2,e3]
def addD(a:List UInt8)(p:Int)(b:List UInt8)(q:Int):ByteArray×Int×Int:=
  if(sumD a p b q).1.length>2000 then((⟨#[]⟩:ByteArray),0,2) else((decS (sumD a p b q)).1,(decS (sumD a p b q)).2,0)
theorem zgG(a:List UInt8)(p:Int)(b:List UInt8)(q:Int):addD a p b q=addD b q a p:=by unfold addD;rw[zgE]
theorem zeX{b:List UInt8}{q:Int}(hb:InForm b q)(hl:b.length<=2000)(p:Int):addD [] p b q=(S b,q,0):=by
 unfold addD;rw[zdf hb,if_neg (show¬(b,q).1.length>2000 from by show¬b.length>2000;omega)];rfl
theorem zhr{a b:List UInt8}{p q:Int}(ha:InForm a p)(hb:InForm b q)(hn:b≠[])(h:p<q):cmpD a p b q= -1:=by
 have h1:=zdF (E:=min (p-(a.length:Int)) (q-b.length)) (p:=p) ha.1 (by omega);have h2:=zg3 (E:=min (p-(a.length:Int)) (q-b.length)) (p:=q) hb.1 hb.2.1 hn (by omega);have h3:10^(p-min (p-(a.length:Int)) (q-b.length)).toNat<=10^(q-1-min (p-(a.length:Int)) (q-b.length)).toNat:=Nat.pow_le_pow_right (by omega) (by omega);unfold cmpD;exact zdb (by omega)
theorem ze6(a:List UInt8)(p:Int)(b:List UInt8)(q:Int):cmpD a p b q= -cmpD b q a p:=by
 (have h:min (q-(b.length:Int)) (p-a.length)=min (p-(a.length:Int)) (q-b.length):=by omega);unfold cmpD;rw[h];unfold cmpN;split<;>split<;>(try split)<;>omega
theorem zij(a:List UInt8)(n:Nat)(h:a.length+1<=n):cpyAt (List.replicate n 48) 1 (S a)=toI (48::(a++List.replicate (n-1-a.length) 48)):=by
 unfold cpyAt;rw[zgF,zas];have e1:(List.replicate n (48:Int)).take 1=toI [48]:=by
  rw[List.take_replicate,Nat.min_eq_left (by omega)];rfl
 have e2:(List.replicate n (48:Int)).drop (1+a.length)=toI (List.replicate (n-1-a.length) 48):=by
  rw[List.drop_replicate];unfold toI;rw[List.map_replicate,show n-(1+a.length)=n-1-a.length by omega];rfl
 rw[e1,e2,<-zcy,<-zcy,List.append_assoc];rfl
theorem zjQ{a b:List UInt8}{p q:Int}(ha:InForm a p)(hb:InForm b q)(hna:a≠[])(hqp:q<=p)
 (hba:a.length<=4000/\ -10000<=p/\p<=10000) (hbb:b.length<=4000/\ -10000<=q/\q<=10000):Ev (λk=>zaR.j0 k (S a) p (S b) q) (addD a p b q):=by
 have hal:0<a.length:=List.length_pos_iff.2 hna;obtain⟨E,hE⟩: ∃E:Int,E=min (p-(a.length:Int)) (q-b.length):=⟨_,rfl⟩;obtain⟨n,hn⟩: ∃n:Nat,(n:Int)=p+1-E:=⟨(p+1-E).toNat,by omega⟩;have hall:AllD (48::(a++List.replicate (n-1-a.length) 48)):=by
  intro c hc;rcases List.mem_cons.1 hc with rfl|h'
  ·exact⟨by decide,by decide⟩
  ·rcases List.mem_append.1 h' with h'|h'
   ·exact ha.1 c h'
   ·rw[List.eq_of_mem_replicate h'];exact⟨by decide,by decide⟩
 have hlen:(48::(a++List.replicate (n-1-a.length) (48:UInt8))).length=n:=by
  rw[List.length_cons,List.length_append,List.length_replicate];omega
 have hval:val (48::(a++List.replicate (n-1-a.length) 48))=sv a p E:=by
  rw[zcw,val_append,zee,List.length_replicate];unfold sv;rw[show(p-(a.length:Int)-E).toNat=n-1-a.length by omega,show dig 48=0 from rfl];omega
 have h1:=znd (E:=E) (p:=p) (q:=q) (n:=n) (a:=a) (b:=b) _ hall hlen hn hval ha.1 hb.1 (by omega) (by omega) hqp hba hbb (by omega) (by omega) n [] 0 (by simp) AllD.nil (by omega) (by simp[Nat.mod_one,zbP]);rw[List.take_of_length_le (by rw[hlen];omega)] at h1;have e0:toI ([]:List UInt8)=[]:=rfl;rw[e0,List.append_nil,<-zij a n (by omega),<-zdY (E:=E) (p:=p) (q:=q) (by omega) (by omega)] at h1;have h2:Ev (λk=>zaR.j2 k (cpyAt (List.replicate n 48) 1 (S a)) (S a) p (S b) q) (addD a p b q):=by
  refine Ev.step (λk=>?_) h1;simp only[zaR.j2];(have e:(cpyAt (List.replicate n 48) 1 (S a)).length=n:=by rw[zij a n (by omega),zdc,hlen]);rw[e,zaF (x:=(n:Int)-1) (by omega) (by omega)];rfl
 have h3:=zmf (S a) p (S b) q n (by omega) (by omega) (by rw[zas];omega) _ h2 n 0 (by omega);rw[List.replicate_zero,List.nil_append] at h3;refine Ev.step (λk=>?_) h3;simp only[zaR.j0];have em:wrap64 (wrap64 (p-mn (wrap64 (p-((S a).size:Int))) (wrap64 (q-((S b).size:Int))))+1)=(n:Int):=by
  rw[zas,zas,zaF (x:=p-(a.length:Int)) (by omega) (by omega),zaF (x:=q-(b.length:Int)) (by omega) (by omega)];(have e2:mn (p-(a.length:Int)) (q-b.length)=E:=by unfold mn;split<;>omega);rw[e2,zaF (x:=p-E) (by omega) (by omega),zaF (x:=p-E+1) (by omega) (by omega)];omega
 rw[em,if_pos (by omega),Int.toNat_natCast,if_pos (by omega),Option.bind_some,List.length_replicate];rfl
def addS(s:ByteArray)(p:Int)(t:ByteArray)(q:Int):ByteArray×Int×Int:=
  if(normS s p).2.2=0 then(if(normS t q).2.2=0 then addD (L (normS s p).1) (normS s p).2.1 (L (normS t q).1) (normS t q).2.1 else((⟨#[]⟩:ByteArray),0,(normS t q).2.2)) else((⟨#[]⟩:ByteArray),0,(normS s p).2.2)
theorem zmg(s:ByteArray)(p:Int)(t:ByteArray)(q:Int):Ev (λk=>zaR.f k s p t q) (addS s p t q):=by
 unfold zaR.f addS;refine Ev.bind (zjq s p t q) ?_;rcases zcv s p with⟨e,h1,h2,_⟩|⟨l,u,h1,A,b1,b2,b3,_⟩
 ·rw[h1,if_neg h2,if_neg h2];exact Ev.congr (λk=>by rw[if_neg h2]) (Ev.now _)
 ·rw[h1,if_pos rfl,if_pos rfl];rcases zcv t q with⟨e,h3,h4,_⟩|⟨m,v,h3,B,c1,c2,c3,_⟩
  ·rw[h3,if_neg h4];exact Ev.congr (λk=>by rw[if_neg h4]) (Ev.now _)
  ·rw[h3,if_pos rfl];show Ev _ (addD (L (S l)) u (L (S m)) v);rw[L_S,L_S];by_cases n1:l=[]
   ·subst n1;rw[zeX B c1];exact Ev.congr (λk=>by rw[if_pos rfl,zbn,L_S,if_pos rfl]) (Ev.now _)
   ·by_cases n2:m=[]
    ·subst n2;rw[zgG,zeX A b1];exact Ev.congr (λk=>by rw[if_pos rfl,zbn,L_S,if_neg n1,zbn,L_S,if_pos rfl]) (Ev.now _)
    ·refine Ev.congr (λk=>by rw[if_pos rfl,zbn,L_S,if_neg n1,zbn,L_S,if_neg n2]) (Ev.bind (cmp_eq A B) ?_);by_cases n3:cmpD l u m v<0
     ·refine Ev.congr (λk=>by rw[if_pos n3]) ?_;rw[zgG];refine zjQ (a:=m) (p:=v) (b:=l) (q:=u) B A n2 ?_ (by omega) (by omega);by_cases n4:u<=v
      ·exact n4
      ·have h5:=zhr B A n1 (show v<u by omega);have h6:=ze6 l u m v;omega
     ·refine Ev.congr (λk=>by rw[if_neg n3]) ?_;refine zjQ (a:=l) (p:=u) (b:=m) (q:=v) A B n1 ?_ (by omega) (by omega);by_cases n4:v<=u
      ·exact n4
      ·have h5:=zhr A B n2 (show u<v by omega);omega
theorem zc3{n:Nat}(h:n≠0)(e:Int):e<=(decOf n e).2-(decOf n e).1.length:=by
 unfold decOf;rw[if_neg h];have:=zdi (digs n);show e<=((digs n).length:Int)+e-(rz (digs n)).length;omega
theorem zcU(n:Nat)(e:Int):sv (decOf n e).1 (decOf n e).2 e=n:=by
 by_cases h:n=0
 ·subst h;unfold sv;rw[zc9];show val []*_=0;rw[zbP,Nat.zero_mul]
 ·unfold sv decOf;rw[if_neg h];obtain⟨k,hk⟩:=zed (digs n);have hv:=zeD n;have hlen:=congrArg List.length hk;rw[List.length_append,List.length_replicate] at hlen;rw[hk,val_append,zee,List.length_replicate] at hv;show val (rz (digs n))*10^(((digs n).length:Int)+e-(rz (digs n)).length-e).toNat=n;rw[show(((digs n).length:Int)+e-(rz (digs n)).length-e).toNat=k by omega];omega
theorem zgH{n:Nat}{e:Int}:(decOf n e).1=[]↔n=0:=by
 constructor
 ·intro h;have:=zcU n e;unfold sv at this;rw[h,zbP,Nat.zero_mul] at this;exact this.symm
 ·intro h;subst h;rfl
theorem zdJ(m n:Nat)(e:Int):sumD (decOf m e).1 (decOf m e).2 (decOf n e).1 (decOf n e).2=decOf (m+n) e:=by
 by_cases hm:m=0
 ·subst hm;rw[zc9,Nat.zero_add];exact zdf (zbx n e) 0
 ·by_cases hn:n=0
  ·subst hn;rw[zc9,Nat.add_zero];exact zew (zbx m e) 0
  ·rw[zdY (E:=e) (zc3 hm e) (zc3 hn e),zcU,zcU]
theorem zk6(p q:Int):cmpD [] p [] q=0:=by
 unfold cmpD sv;rw[zbP,Nat.zero_mul,Nat.zero_mul,ze3]
theorem zgI(m n:Nat)(e:Int):cmpD (decOf m e).1 (decOf m e).2 (decOf n e).1 (decOf n e).2=cmpN m n:=by
 by_cases hm:m=0
 ·subst hm;by_cases hn:n=0
  ·subst hn;rw[zc9];exact zk6 0 0
  ·rw[zdb (show 0<n by omega)];exact zeW (zbx n e) (mt zgH.1 hn) _
 ·by_cases hn:n=0
  ·subst hn;rw[zdl (show 0<m by omega)];exact zev (zbx m e) (mt zgH.1 hm) _
  ·rw[zih (E:=e) (zc3 hm e) (zc3 hn e),zcU,zcU]
theorem zcl{n m:Nat}(h:n<10^m)(e:Int):(decOf n e).1.length<=m/\(decOf n e).2<=max 0 (e+m)/\min 0 e<=(decOf n e).2:=by
 unfold decOf;have h1:=zfC m n h;have h2:=zdi (digs n);by_cases h0:n=0
 ·rw[if_pos h0];refine⟨Nat.zero_le _,?_,?_⟩
  ·show(0:Int)<=_;omega
  ·show _<=(0:Int);omega
 ·rw[if_neg h0];refine⟨?_,?_,?_⟩
  ·show(rz (digs n)).length<=m;omega
  ·show((digs n).length:Int)+e<=_;omega
  ·show _<=((digs n).length:Int)+e;omega
theorem zne{a:List UInt8}{n:Nat}(hn:n<=a.length):val a=val (a.take n)*10^(a.length-n)+val (a.drop n):=by
 have h:=val_append (a.take n) (a.drop n);rw[List.take_append_drop,List.length_drop] at h;exact h
def downP(a:List UInt8)(n:Nat):Prop:=2*val (a.drop n)<10^(a.length-n)\/(2*val (a.drop n)=10^(a.length-n)/\val (a.take n)%2=0)
instance (a : List UInt8) (n : Nat) : Decidable (downP a n) := by unfold downP; infer_instance
def roundN(a:List UInt8)(p n:Int):List UInt8×Int:=
  if n<0 then([],0) else if(a.length:Int)<=n then(a,p) else if downP a n.toNat then decOf (val (a.take n.toNat)) (p-n) else decOf (val (a.take n.toNat)+1) (p-n)
theorem zik: ∀(n:Nat) (a:List UInt8),rz a=a->rz (a.drop n)=a.drop n
 |0,a,h=>h
 |n+1,[],_=>zhk
 |n+1,c::t,h=>zik n t (zfl h)
theorem zk7(u:List UInt8):Op.bytesLess u []=false:=by cases u<;>rfl
theorem znE{t:List UInt8}(h:AllD t)(hr:rz t=t)(hn:t≠[]):(Op.bytesLess t [53]=true↔2*val t<10^t.length)/\(t=[53]↔2*val t=10^t.length):=by
 cases t with
 |nil=>exact absurd rfl hn
 |cons c u=>
  have hc:=h.cons.1;have hv:=zc2 h.cons.2;have A:(53:UInt8).toNat=53:=rfl;have e1:Op.bytesLess (c::u) [53]=(decide (c<53)):=by
   show(decide (c<53)||(c==53&&Op.bytesLess u []))=_;rw[zk7];simp
  (have e2:(c<53)↔dig c<5:=by rw[UInt8.lt_iff_toNat_lt,A];unfold dig;omega);rw[e1,zcw,List.length_cons,Nat.pow_succ,decide_eq_true_iff,e2];generalize hP:10^u.length=P at*
  by_cases c1:dig c<5
  ·have h4:dig c*P<=4*P:=Nat.mul_le_mul_right P (by omega);refine⟨⟨λ_=>by omega,λ_=>c1⟩,⟨λh5=>?_,λh5=>?_⟩⟩
   ·injection h5 with h6 h7;rw[h6] at c1;exact absurd c1 (by decide)
   ·omega
  ·have h4:5*P<=dig c*P:=Nat.mul_le_mul_right P (by omega);refine⟨⟨λh5=>absurd h5 c1,λh5=>by omega⟩,⟨λh5=>?_,λh5=>?_⟩⟩
   ·(injection h5 with h6 h7);subst h6;subst h7;rw[List.length_nil] at hP;rw[zbP,<-hP];rfl
   ·(have h6:val u=0:=by omega);have hu:u=[]:=by
     by_cases hu:u=[]
     ·exact hu
     ·exact absurd h6 (zgj h.cons.2 (zfl hr) hu)
    subst hu;rw[List.length_nil] at hP;(have h7:dig c=5:=by rw[<-hP,zbP] at h5;omega);congr 1;apply UInt8.toNat_inj.1;unfold dig at h7;rw[A];omega
theorem zlD: ∀(m:Nat) (l:List UInt8) (k:Nat),l.length=m->AllD l-> ∃r,upGo (toI (l++List.replicate k 48)) m=toI r/\AllD r/\val r=(val l+1)*10^k/\r.length<=m+k+1
 |0,l,k,hl,h=>by
  have:l=[]:=List.length_eq_zero_iff.1 hl
  subst this
  refine⟨49::List.replicate k 48,rfl,?_,?_,?_⟩
  ·intro c hc
   rcases List.mem_cons.1 hc with rfl|h'
   ·exact⟨by decide,by decide⟩
   ·rw[List.eq_of_mem_replicate h'];exact⟨by decide,by decide⟩
  ·rw[zcw,zee,List.length_replicate,zbP];rfl
  ·rw[List.length_cons,List.length_replicate];omega
 |m+1,l,k,hl,h=>by
  rcases List.eq_nil_or_concat l with rfl|⟨t,c,rfl⟩
  ·simp at hl
  ·rw[List.concat_eq_append] at*
   have htl:t.length=m:=by simpa using hl
   have hc:=h.last
   have e0:toI (t++[c]++List.replicate k 48)=toI t++(c.toNat:Int)::toI (List.replicate k 48):=by
    rw[zcy,zcy,List.append_assoc];rfl
   have e1:rd (toI (t++[c]++List.replicate k 48)) (m:Int)=(c.toNat:Int):=by
    have:=zd3 (toI t) (c.toNat:Int) (toI (List.replicate k 48))
    rw[zdc,htl] at this
    rw[e0,this]
   have e2: ∀v:Int,(toI (t++[c]++List.replicate k 48)).set m v=toI t++v::toI (List.replicate k 48):=by
    intro v
    have:=set_mid (toI t) (c.toNat:Int) v (toI (List.replicate k 48))
    rw[zdc,htl] at this
    rw[e0,this]
   unfold upGo
   rw[e1,e2,e2]
   by_cases h9:(c.toNat:Int)<57
   ·rw[if_pos h9]
    have hd:dig c+1<10:=by unfold dig;omega
    refine⟨t++[ch (dig c+1)]++List.replicate k 48,?_,?_,?_,?_⟩
    ·have e5:((ch (dig c+1)).toNat:Int)=c.toNat+1:=by rw[zcK hd];unfold dig;omega
     rw[zcy,zcy,List.append_assoc]
     show _=toI t++((ch (dig c+1)).toNat:Int)::toI (List.replicate k 48)
     rw[e5]
    ·intro x hx
     rcases List.mem_append.1 hx with h'|h'
     ·rcases List.mem_append.1 h' with h'|h'
      ·exact h.left x h'
      ·rw[List.mem_singleton.1 h',zcK hd];omega
     ·rw[List.eq_of_mem_replicate h'];exact⟨by decide,by decide⟩
    ·rw[val_append,zee,zcB,zcB,zcP hd,List.length_replicate];rfl
    ·simp;omega
   ·rw[if_neg h9]
    obtain⟨r,r1,r2,r3,r4⟩:=zlD m t (k+1) htl h.left
    have e6:toI t++(48:Int)::toI (List.replicate k 48)=toI (t++List.replicate (k+1) 48):=by rw[zcy,List.replicate_succ];rfl
    refine⟨r,by rw[e6,r1],r2,?_,by omega⟩
    have e7:dig c=9:=by unfold dig;omega
    rw[r3,zcB,e7,Nat.pow_succ,Nat.mul_comm (10^k) 10,<-Nat.mul_assoc]
    congr 1
    omega
theorem zg8{l:List UInt8}(h:AllD l)(hl:l.length<=100000): ∃r,zcI.f (S l)=some (S r)/\AllD r/\val r=val l+1/\r.length<=l.length+1:=by
 obtain⟨r,r1,r2,r3,r4⟩:=zlD l.length l 0 rfl h;rw[List.replicate_zero,List.append_nil] at r1;refine⟨r,?_,r2,by rw[r3,Nat.pow_zero,Nat.mul_one],by omega⟩;unfold zcI.f;rw[zgF,zas,r1,if_pos hl,zdI]
theorem zcE(a:List UInt8)(n:Nat):(S a).extract 0 n=S (a.take n):=by
 rw[<-S_L ((S a).extract 0 n),zdj,L_S,List.drop_zero,Nat.sub_zero]
theorem zjj(a:List UInt8)(n:Nat):(S a).extract n (S a).size=S (a.drop n):=by
 rw[<-S_L ((S a).extract n (S a).size),zdj,L_S,zas];congr 1;apply List.take_of_length_le;rw[List.length_drop];omega
theorem zfK{a:List UInt8}{p:Int}(ha:AllD a)(hl:a.length<=4000)(hp: -100000<=p/\p<=100000)(n:Nat)(hn:n<a.length)(b:Bool)(hb:b=decide (downP a n)):
 Ev (λk=>za8.j1 k (n:Int) (S (a.take n)) b (S a) p) (decS (roundN a p n)):=by
 (have hlen:(a.take n).length=n:=by rw[List.length_take];omega);unfold roundN;rw[if_neg (show¬(n:Int)<0 by omega),if_neg (show¬(a.length:Int)<=n by omega),Int.toNat_natCast];by_cases hd:downP a n
 ·rw[if_pos hd];have hf:=zet (S (a.take n)) p (by rw[zas];omega) (by omega) (by omega);rw[L_S,zcC (ha.take n),hlen] at hf;refine Ev.step (λk=>?_) (Ev.now _);simp only[za8.j1];rw[if_pos (by rw[hb];exact decide_eq_true hd),hf,Option.bind_some]
 ·rw[if_neg hd];obtain⟨r,r1,r2,r3,r4⟩:=zg8 (ha.take n) (by omega);have hf:=zet (S r) (p+r.length-n) (by rw[zas];omega) (by omega) (by omega);rw[L_S,zcC r2,r3,show p+(r.length:Int)-n-r.length=p-n by omega] at hf;refine Ev.step (λk=>?_) (Ev.now _);simp only[za8.j1];rw[if_neg (by rw[hb,decide_eq_false hd];exact λh=>by cases h),r1,Option.bind_some,zas,zaF (x:=p+(r.length:Int)) (by omega) (by omega),zaF (x:=p+(r.length:Int)-n) (by omega) (by omega),hf,Option.bind_some]
theorem zk8{a:List UInt8}{p:Int}(ha:InForm a p)(hl:a.length<=4000)(hp: -100000<=p/\p<=100000)(n:Nat)(hn:n<a.length)(odd:Bool)(ho:odd=decide (val (a.take n)%2=1)):
 Ev (λk=>za8.j0 k (n:Int) (S (a.take n)) (S (a.drop n)) odd (S a) p) (decS (roundN a p n)):=by
 have hdl:(a.drop n).length=a.length-n:=List.length_drop;have h5:=znE (ha.1.drop n) (zik n a ha.2.2.1) (λe=>by rw[e,List.length_nil] at hdl;omega);rw[hdl] at h5;by_cases c1:Op.bytesLess (a.drop n) [53]=true
 ·refine Ev.step (λk=>?_) (zfK ha.1 hl hp n hn true (by symm;exact decide_eq_true (.inl (h5.1.1 c1))));simp only[za8.j0];rw[zbn,L_S,if_pos c1]
 ·by_cases c2:a.drop n=[53]
  ·refine Ev.step (λk=>?_) (zfK ha.1 hl hp n hn (!odd) ?_)
   ·simp only[za8.j0];rw[zbn,L_S,if_neg c1,if_pos c2]
   ·have h6:=h5.2.1 c2;by_cases c3:val (a.take n)%2=1
    ·rw[ho,decide_eq_true c3,decide_eq_false]
     ·rfl
     ·rintro(h7|⟨_,h7⟩)<;>omega
    ·rw[ho,decide_eq_false c3,decide_eq_true (show downP a n from .inr ⟨h6,by omega⟩)];rfl
  ·refine Ev.step (λk=>?_) (zfK ha.1 hl hp n hn false ?_)
   ·simp only[za8.j0];rw[zbn,L_S,if_neg c1,if_neg c2]
   ·rw[decide_eq_false];rintro(h7|⟨h7,_⟩)
    ·exact c1 (h5.1.2 h7)
    ·exact c2 (h5.2.2 h7)
theorem round_eq{a:List UInt8}{p:Int}(ha:InForm a p)(hl:a.length<=4000)(hp: -100000<=p/\p<=100000)(n:Int):Ev (λk=>za8.f k (S a) p n) (decS (roundN a p n)):=by
 unfold za8.f;by_cases c1:n<0
 ·(have e:roundN a p n=([],0):=by unfold roundN;rw[if_pos c1]);rw[e];exact Ev.congr (λk=>by rw[if_pos c1];rfl) (Ev.now _)
 ·by_cases c2:n>=(a.length:Int)
  ·(have e:roundN a p n=(a,p):=by unfold roundN;rw[if_neg c1,if_pos c2]);rw[e];exact Ev.congr (λk=>by rw[if_neg c1,zas,if_pos c2];rfl) (Ev.now _)
  ·obtain⟨m,rfl⟩: ∃m:Nat,n=(m:Int):=⟨n.toNat,by omega⟩;(have hm:m<a.length:=by omega);have key: ∀odd:Bool,odd=decide (val (a.take m)%2=1)->Ev (λk=>za8.j0 k (m:Int) ((S a).extract 0 m) ((S a).extract m (S a).size) odd (S a) p) (decS (roundN a p m)):=by
    intro odd ho;rw[zcE,zjj];exact zk8 ha hl hp m hm odd ho
   by_cases c3:(m:Int)>0
   ·refine Ev.congr (λk=>?_) (key (((((bt ((S a).extract 0 m) ((m:Int)-1))-48)%256)%2)==1) ?_)
    ·rw[if_neg c1,if_neg (by rw[zas];omega),if_pos (by omega),if_pos (by rw[zas];omega),if_pos c3,zaF (x:=(m:Int)-1) (by omega) (by omega),if_pos (by omega),Int.toNat_natCast,if_pos (by rw[zcE,zas,List.length_take];omega)]
    ·rw[zcE];obtain⟨j,rfl⟩: ∃j,m=j+1:=⟨m-1,by omega⟩;(have ej:((j+1:Nat):Int)-1=(j:Int):=by omega);(have hj:j<a.length:=by omega);rw[ej,bt_L _ j (by rw[zas,List.length_take];omega)];simp only[L_S,List.getElem_take];have etk:a.take (j+1)=a.take j++[a[j]]:=List.take_succ_eq_append_getElem hj;have hx:=ha.1 a[j] (List.getElem_mem hj);(have ev:val (a.take (j+1))=10*val (a.take j)+dig a[j]:=by rw[etk,zcB]);rw[ev];(have e3:((a[j].toNat:Int)-48)%256%2=(((10*val (a.take j)+dig a[j])%2:Nat):Int):=by unfold dig;omega);rw[e3];by_cases c4:(10*val (a.take j)+dig a[j])%2=1
     ·rw[c4];rfl
     ·rw[show(10*val (a.take j)+dig a[j])%2=0 by omega];rfl
   ·(have h0:m=0:=by omega);subst h0;refine Ev.congr (λk=>?_) (key false (by rw[List.take_zero,zbP];rfl));rw[if_neg c1,if_neg (by rw[zas];omega),if_pos (by omega),if_pos (by rw[zas];omega),if_neg c3];rfl
def roundS(s:ByteArray)(p:Int)(n:Int->Int):ByteArray×Int×Int:=
  if(normS s p).2.2=0 then((decS (roundN (L (normS s p).1) (normS s p).2.1 (n (normS s p).2.1))).1,(decS (roundN (L (normS s p).1) (normS s p).2.1 (n (normS s p).2.1))).2,0) else((⟨#[]⟩:ByteArray),0,(normS s p).2.2)
theorem zgJ(s:ByteArray)(p n:Int):Ev (λk=>zbY.f k s p n) (roundS s p λ_=>n):=by
 unfold zbY.f roundS;refine Ev.bind (zeu s p) ?_;rcases zcv s p with⟨e,h1,h2,_⟩|⟨l,u,h1,A,b1,b2,b3,_⟩
 ·rw[h1,if_neg h2];exact Ev.congr (λk=>by rw[if_neg h2]) (Ev.now _)
 ·rw[h1,if_pos rfl];exact Ev.congr (λk=>by rw[if_pos rfl]) (Ev.bind (f:=λ_ bt=>some (bt.1,bt.2,0)) (round_eq A (by omega) (by omega) n) (Ev.now _))
theorem znf(n:Int):mx (-20000) (mn n 20000)=max (-20000) (min n 20000):=by
 unfold mx mn;split<;>split<;>omega
theorem ziV(s:ByteArray)(p n:Int):Ev (λk=>zcx.f k s p n) (roundS s p λu=>u+max (-20000) (min n 20000)):=by
 unfold zcx.f roundS;refine Ev.bind (zeu s p) ?_;rcases zcv s p with⟨e,h1,h2,_⟩|⟨l,u,h1,A,b1,b2,b3,_⟩
 ·rw[h1,if_neg h2];exact Ev.congr (λk=>by rw[if_neg h2]) (Ev.now _)
 ·rw[h1,if_pos rfl];refine Ev.congr (λk=>by rw[if_pos rfl,znf,zaF (x:=u+max (-20000) (min n 20000)) (by omega) (by omega)]) (Ev.bind (f:=λ_ bt=>some (bt.1,bt.2,0)) (round_eq A (by omega) (by omega) (u+max (-20000) (min n 20000))) (Ev.now _))
end Go.Proofs.YtilidabdbhaljaaGreatDoor.Pure
end
section
namespace Go.Proofs.YtilidabdbhaljaaGreatDoor.Pure
open Go.RowKit Go.Proofs.YtilidabdbhaljaaGreatDoorW.PrintWords
def Asc(l:List UInt8):Prop:= ∀c∈l,c.toNat<128
instance (l : List UInt8) : Decidable (Asc l) := by unfold Asc; infer_instance
theorem Asc.nil:Asc []:=λc h=>by cases h
theorem Asc.app{a b:List UInt8}(ha:Asc a)(hb:Asc b):Asc (a++b):=λc h=>(List.mem_append.1 h).elim (ha c) (hb c)
theorem Asc.cons{a:UInt8}{b:List UInt8}(ha:a.toNat<128)(hb:Asc b):Asc (a::b):=λc h=>(List.mem_cons.1 h).elim (λe=>e▸ha) (hb c)
theorem Asc.take{a:List UInt8}(h:Asc a)(n:Nat):Asc (a.take n):=λc hc=>h c (List.mem_of_mem_take hc)
theorem Asc.drop{a:List UInt8}(h:Asc a)(n:Nat):Asc (a.drop n):=λc hc=>h c (List.mem_of_mem_drop hc)
theorem Asc.rep(n:Nat){a:UInt8}(ha:a.toNat<128):Asc (List.replicate n a):=λc hc=>by rw[(List.mem_replicate.1 hc).2];exact ha
theorem AllD.asc{l:List UInt8}(h:AllD l):Asc l:=λc hc=>by have:=h c hc;omega
def zsL(n:Nat):List UInt8:=List.replicate n 48
theorem zdv(n:Nat):Asc (zsL n):=Asc.rep n (by decide)
theorem zbE(n:Nat):(zsL n).length=n:=List.length_replicate
def dch(n:Nat):UInt8:=if n<10 then UInt8.ofNat (48+n) else UInt8.ofNat (87+n)
theorem zil{n:Nat}(h:n<16):(dch n).toNat<128:=by
 unfold dch;split<;>rw[UInt8.toNat_ofNat']<;>omega
def bF(b:Nat):Nat->Nat->List UInt8
  |0,n=>[dch (n%b)]
  |k+1,n=>if n / b=0 then [dch (n%b)] else bF b k (n / b)++[dch (n%b)]
def bT(b n:Nat):List UInt8:=bF b 63 n
theorem zjR{b:Nat}(h:0<b/\b<=16): ∀k n,Asc (bF b k n)
 |0,n=>Asc.cons (zil (Nat.lt_of_lt_of_le (Nat.mod_lt _ h.1) h.2)) Asc.nil
 |k+1,n=>by
  have hd:=zil (Nat.lt_of_lt_of_le (Nat.mod_lt n h.1) h.2)
  unfold bF
  split
  ·exact Asc.cons hd Asc.nil
  ·exact(zjR h k _).app (Asc.cons hd Asc.nil)
theorem zhs{b:Nat}(h:0<b/\b<=16)(n:Nat):Asc (bT b n):=zjR h 63 n
theorem zjS(b:Nat): ∀k n,(bF b k n).length<=k+1
 |0,n=>Nat.le_refl _
 |k+1,n=>by
  unfold bF
  split
  ·exact Nat.le_add_left _ _
  ·rw[List.length_append];exact Nat.succ_le_succ (zjS b k _)
theorem zeK(b:Nat): ∀k n j,n<b^(j+1)->(bF b k n).length<=j+1
 |0,n,j,h=>Nat.le_add_left _ _
 |k+1,n,j,h=>by
  unfold bF
  by_cases c:n / b=0
  ·rw[if_pos c];exact Nat.le_add_left _ _
  ·rw[if_neg c,List.length_append]
   cases j with
   |zero=>
    rw[Nat.pow_one] at h
    exact absurd (Nat.div_eq_of_lt h) c
   |succ j=>
    refine Nat.succ_le_succ (zeK b k _ j ?_)
    rw[Nat.pow_succ] at h
    exact Nat.div_lt_of_lt_mul (by rw[Nat.mul_comm];exact h)
def fillL(l:List UInt8)(n:Int):List UInt8:=l++zsL (n-l.length).toNat
theorem zcS{l:List UInt8}(h:Asc l)(n:Int):Asc (fillL l n):=h.app (zdv _)
theorem zb7(l:List UInt8)(n:Int):((fillL l n).length:Int)=max (l.length:Int) n:=by
 unfold fillL;rw[List.length_append,zbE];omega
def powL(sign:List UInt8)(e:Int)(least:Int):List UInt8:=sign++((if e<0 then [45] else [43])++(zsL (least-(bT 10 e.natAbs).length).toNat++bT 10 e.natAbs))
theorem zeL{s:List UInt8}(h:Asc s)(e least:Int):Asc (powL s e least):=by
 unfold powL;refine h.app (Asc.app ?_ ((zdv _).app (zhs (by decide) _)));split<;>exact Asc.cons (by decide) Asc.nil
def ptL(dot:Bool)(a b:List UInt8):List UInt8:=if b=[]/\dot=false then a else a++(46::b)
theorem zdw{a b:List UInt8}(ha:Asc a)(hb:Asc b)(dot:Bool):Asc (ptL dot a b):=by
 unfold ptL;split
 ·exact ha
 ·exact ha.app (Asc.cons (by decide) hb)
def eMark(big:Bool):List UInt8:=if big then [69] else [101]
theorem zjT(big:Bool):Asc (eMark big):=by cases big<;>exact Asc.cons (by decide) Asc.nil
def sciL(dot big:Bool)(l:List UInt8)(e:Int):List UInt8:=ptL dot (l.take 1) (l.drop 1)++powL (eMark big) e 2
theorem zk9{l:List UInt8}(h:Asc l)(dot big:Bool)(e:Int):Asc (sciL dot big l e):=(zdw (h.take 1) (h.drop 1) dot).app (zeL (zjT big) e 2)
def firstL(d:List UInt8×Int):Int:=if d.1=[] then 0 else d.2-1
def aroundL(dot:Bool)(l:List UInt8)(p:Int):List UInt8:=if p<=0 then ptL dot [48] (zsL (-p).toNat++l) else ptL dot ((fillL l p).take p.toNat) ((fillL l p).drop p.toNat)
theorem zh0{l:List UInt8}(h:Asc l)(dot:Bool)(p:Int):Asc (aroundL dot l p):=by
 unfold aroundL;split
 ·exact zdw (Asc.cons (by decide) Asc.nil) ((zdv _).app h) dot
 ·exact zdw ((zcS h p).take _) ((zcS h p).drop _) dot
def scaledL(dot big:Bool)(v:List UInt8×Int)(p:Int):List UInt8:=sciL dot big (fillL (roundN v.1 v.2 (p+1)).1 (p+1)) (firstL (roundN v.1 v.2 (p+1)))
def fixedL(dot:Bool)(v:List UInt8×Int)(p:Int):List UInt8:=
  if(roundN v.1 v.2 (v.2+p)).1=[] then ptL dot [48] (zsL p.toNat)
  else if(roundN v.1 v.2 (v.2+p)).2<=0 then ptL dot [48] (fillL (zsL (-(roundN v.1 v.2 (v.2+p)).2).toNat++(roundN v.1 v.2 (v.2+p)).1) p)
  else aroundL dot (fillL (roundN v.1 v.2 (v.2+p)).1 ((roundN v.1 v.2 (v.2+p)).2+p)) (roundN v.1 v.2 (v.2+p)).2
def genL(dot big:Bool)(d:List UInt8×Int)(keep top:Int):List UInt8:=
  let l:=if d.1=[] then [48] else d.1
  let m:=if dot then fillL l keep else l
  if firstL d< -4\/firstL d>=top then sciL dot big m (firstL d) else aroundL dot m (firstL d+1)
def binL(m:Nat)(e:Int):List UInt8:=bT 10 m++powL [112] e 1
end Go.Proofs.YtilidabdbhaljaaGreatDoor.Pure
end
section
namespace Go.Proofs.YtilidabdbhaljaaGreatDoor.Pure
open Go.RowKit Go.Proofs.YtilidabdbhaljaaGreatDoorW.PrintWords Go.Proofs.YtilidabdbhaljaaGreatDoorW.PrintLast Go.Proofs.YtilidabdbhaljaaGreatDoorW.PrintMore Go.Proofs.YtilidabdbhaljaaGreatDoor.Fn
theorem zbr(a b:List UInt8):S a++S b=S (a++b):=by
 rw[<-S_L (S a++S b)];congr 1
theorem zex(a:List UInt8)(n:Nat):(S a).extract n (S a).size=S (a.drop n):=by
 rw[<-S_L ((S a).extract n (S a).size)];congr 1;unfold L;rw[ByteArray.data_extract,Array.toList_extract,zas];simp[S,List.extract_eq_take_drop,List.take_of_length_le]
theorem zei(a b:Int):mx a b=max a b:=by unfold mx;omega
theorem zg9(a b:Int):mn a b=min a b:=by unfold mn;omega
theorem zlE(c:UInt8): ∀n,Lib.repeatL [c] n=List.replicate n c
 |0=>rfl
 |n+1=>by rw[Lib.repeatL,zlE c n,List.replicate_succ];rfl
theorem zgK(c:UInt8){n:Int}(h0:0<=n)(h1:n<=1000000):strings_Repeat.f (S [c]) n=some (S (List.replicate n.toNat c)):=by
 unfold strings_Repeat.f;rw[if_pos ⟨h0,h1,by rw[zas];exact(show(1:Nat)<=1000000 by decide)⟩];have:(S [c]).data.toList=[c]:=rfl;rw[this,zlE];rfl
theorem zdx{n:Int}(h0:0<=n)(h1:n<=1000000):strings_Repeat.f (⟨#[48]⟩:ByteArray) n=some (S (zsL n.toNat)):=zgK 48 h0 h1
def hexS:List UInt8:=[48,49,50,51,52,53,54,55,56,57,97,98,99,100,101,102]
theorem zjU: ∀i:Nat,i<16->bt (⟨#[48,49,50,51,52,53,54,55,56,57,97,98,99,100,101,102]⟩:ByteArray) (i:Int)=((dch i).toNat:Int):=by decide
theorem zlF{b:Nat}(hb:0<b/\b<=16): ∀(k m:Nat) (l:List Int),
 dgF (⟨#[48,49,50,51,52,53,54,55,56,57,97,98,99,100,101,102]⟩:ByteArray) b (k+1) m l=toI (bF b k m)++l
 |0,m,l=>by
  have h:=zjU (m%b) (Nat.lt_of_lt_of_le (Nat.mod_lt _ hb.1) hb.2)
  rw[dgF]
  split
  ·rw[h];rfl
  ·rw[dgF,h];rfl
 |k+1,m,l=>by
  have h:=zjU (m%b) (Nat.lt_of_lt_of_le (Nat.mod_lt _ hb.1) hb.2)
  rw[dgF,bF]
  by_cases c:m / b=0
  ·rw[if_pos c,if_pos c,h];rfl
  ·rw[if_neg c,if_neg c,zlF hb k,h]
   unfold toI
   rw[List.map_append,List.append_assoc]
   rfl
theorem zgL{b:Nat}(hb:2<=b/\b<=16){n:Nat}(hn:n<=18446744073709551615):
 zbN.f (n:Int) (b:Int) (⟨#[48,49,50,51,52,53,54,55,56,57,97,98,99,100,101,102]⟩:ByteArray)=some (S (bT b n)):=by
 unfold zbN.f;have hs:(⟨#[48,49,50,51,52,53,54,55,56,57,97,98,99,100,101,102]⟩:ByteArray).size=16:=rfl;rw[if_pos ⟨by omega,by omega,by omega,by rw[hs];omega,by rw[hs];decide⟩,Int.toNat_natCast,Int.toNat_natCast,zlF ⟨by omega,hb.2⟩,List.append_nil,zdI];rfl
theorem u64c(n:Nat)(h:n<=18446744073709551615):IntKind.u64.wrap (n:Int)=(n:Int):=IntWalk.u64_in _ ⟨by omega,by omega⟩
theorem zfL{n:Nat}(hn:n<=18446744073709551615):zbJ.f (n:Int) 10=some (S (bT 10 n)):=by
 unfold zbJ.f;rw[if_neg (by decide),if_neg (by decide),if_pos rfl,show IntKind.u64.wrap (10:Int)=((10:Nat):Int) from u64c 10 (by decide),zgL (by decide) hn];rfl
theorem zla{n:Nat}(hn:n<=18446744073709551615):zbJ.f (n:Int) 16=some (S (bT 16 n)):=by
 unfold zbJ.f;rw[if_neg (by decide),if_neg (by decide),if_neg (by decide),if_pos rfl,show IntKind.u64.wrap (16:Int)=((16:Nat):Int) from u64c 16 (by decide),zgL (by decide) hn];rfl
theorem zd5(b n:Nat):(bT b n).length<=64:=zjS b 63 n
theorem zjV(l:List (List UInt8))(h:l.length<=1000)(h2:l.flatten.length<=1000000):strings_Join.f (l.map S) (⟨#[]⟩:ByteArray)=some (S l.flatten):=by
 have e:Lib.join ((l.map S).map (·.data.toList)) (⟨#[]⟩:ByteArray).data.toList=l.flatten:=by
  have e1:(l.map S).map (·.data.toList)=l:=by
   rw[List.map_map];exact List.map_id l
  rw[e1];unfold Lib.join;have e2:(⟨#[]⟩:ByteArray).data.toList=([]:List UInt8):=rfl;rw[e2];clear h h2 e1 e2;induction l with
  |nil=>rfl
  |cons a t ih=>
   cases t with
   |nil=>simp[List.intercalate]
   |cons b u=> 
    rw[List.flatten_cons,<-ih];simp[List.intercalate,List.intersperse]
 unfold strings_Join.f;rw[if_pos ⟨by rw[List.length_map];exact h,by rw[e];exact h2⟩,e];rfl
theorem ze7(l:List (List UInt8))(h:l.length<=1000)(h2:l.flatten.length<=1000000):zaX.f (l.map S)=some (S l.flatten):=by
 unfold zaX.f;rw[zjV l h h2];rfl
theorem zgn{a b:List UInt8}(h:a.length+b.length<=1000000):zaX.f [S a,S b]=some (S (a++b)):=by
 have:=ze7 [a,b] (by simp) (by simp;omega);simpa using this
theorem zim{a b c:List UInt8}(h:a.length+b.length+c.length<=1000000):zaX.f [S a,S b,S c]=some (S (a++(b++c))):=by
 have:=ze7 [a,b,c] (by simp) (by simp;omega);simpa using this
theorem zin{a b c d:List UInt8}(h:a.length+b.length+c.length+d.length<=1000000):zaX.f [S a,S b,S c,S d]=some (S (a++(b++(c++d)))):=by
 have:=ze7 [a,b,c,d] (by simp) (by simp;omega);simpa using this
theorem w64{x:Int}(h1: -9223372036854775808<=x)(h2:x<=9223372036854775807):wrap64 x=x:=by unfold wrap64;omega
theorem zdm{l:List UInt8}{n:Int}(hl:l.length<=100000)(hn: -100000<=n/\n<=100000):zbC.f (S l) n=some (S (fillL l n)):=by
 unfold zbC.f;rw[zas,w64 (by omega) (by omega),zei,zdx (by omega) (by omega),Option.bind_some,zas,zbE,if_pos (by omega),zbr];unfold fillL;rw[show(max 0 (n-(l.length:Int))).toNat=(n-(l.length:Int)).toNat by omega]
theorem zfM{s:List UInt8}{e least:Int}(hs:s.length<=1000)(he: -100000<=e/\e<=100000)(hl:0<=least/\least<=1000):zbZ.f (S s) e least=some (S (powL s e least)):=by
 have hb:=zd5 10 e.natAbs;unfold zbZ.f powL;by_cases c:e<0
 ·rw[if_pos c,if_pos c,w64 (by omega) (by omega),show(-e)=((e.natAbs:Nat):Int) by omega,u64c _ (by omega),zfL (by omega)];simp only[Option.bind_some];rw[zas,w64 (by omega) (by omega),zei,zdx (by omega) (by omega)];simp only[Option.bind_some];rw[show(⟨#[45]⟩:ByteArray)=S [45] from rfl,zin (by rw[zbE];simp;omega)];rw[show(max 0 (least-((bT 10 e.natAbs).length:Int))).toNat=(least-((bT 10 e.natAbs).length:Int)).toNat by omega];rfl
 ·rw[if_neg c,if_neg c,show e=((e.natAbs:Nat):Int) by omega,u64c _ (by omega),Int.natAbs_natCast,zfL (by omega)];simp only[Option.bind_some];rw[zas,w64 (by omega) (by omega),zei,zdx (by omega) (by omega)];simp only[Option.bind_some];rw[show(⟨#[43]⟩:ByteArray)=S [43] from rfl,zin (by rw[zbE];simp;omega)];rw[show(max 0 (least-((bT 10 e.natAbs).length:Int))).toNat=(least-((bT 10 e.natAbs).length:Int)).toNat by omega];rfl
theorem zbD(l:List UInt8):(S l).toList=([]:List UInt8)↔l=[]:=by rw[zbn,L_S]
theorem zdd(x0 x1 x2 x3 x4 x6:Int)(dot:Bool){a b:List UInt8}(h:a.length+b.length<=500000):za5.f x0 x1 x2 x3 x4 dot x6 (S a) (S b)=some (S (ptL dot a b)):=by
 have hj:zaX.f [S a,(⟨#[46]⟩:ByteArray),S b]=some (S (a++(46::b))):=by
  rw[show(⟨#[46]⟩:ByteArray)=S [46] from rfl,zim (by simp;omega)];rfl
 unfold za5.f ptL;by_cases c:b=[]
 ·rw[if_pos ((zbD b).2 c)];cases dot with
  |true=>rw[if_pos rfl,hj,if_neg (by simp)];rfl
  |false=>rw[if_neg (by simp),if_pos ⟨c,rfl⟩]
 ·rw[if_neg (λe=>c ((zbD b).1 e)),hj,if_neg (λe=>c e.1)];rfl
theorem zc0(dot:Bool)(a b:List UInt8):(ptL dot a b).length<=a.length+b.length+1:=by
 unfold ptL;split
 ·omega
 ·simp;omega
theorem zcV(s:List UInt8){e least:Int}(hl:0<=least/\least<=1000):(powL s e least).length<=s.length+1100:=by
 have hb:=zd5 10 e.natAbs;unfold powL;rw[List.length_append,List.length_append,List.length_append,zbE];(have:(if e<0 then([45]:List UInt8) else [43]).length=1:=by split<;>rfl);omega
def bigV(v:Int):Bool:=v==69||v==71
theorem zjW(x0 x1 x2 x3 x4 v:Int)(dot:Bool){l:List UInt8}{e:Int}(hn:l≠[])(hl:l.length<=100000)(he: -100000<=e/\e<=100000):
 Ev (λk=>zaG.f k x0 x1 x2 x3 x4 dot v (S l) e) (S (sciL dot (bigV v) l e)):=by
 have h1:1<=l.length:=Nat.succ_le_of_lt (List.length_pos_iff.2 hn);have hp:=zdd x0 x1 x2 x3 x4 v dot (a:=l.take 1) (b:=l.drop 1) (by rw[List.length_take,List.length_drop];omega);have hlen:=zc0 dot (l.take 1) (l.drop 1);rw[List.length_take,List.length_drop] at hlen;have key: ∀big:Bool,Ev (λk=>zaG.j0 k (S l) e (⟨#[101]⟩:ByteArray) big x0 x1 x2 x3 x4 dot v) (S (sciL dot big l e)):=by
  intro big;have hw:=zcV (eMark big) (e:=e) (least:=2) (by decide);(have hm:(eMark big).length=1:=by cases big<;>rfl);have hq:=zfM (s:=eMark big) (e:=e) (least:=2) (by omega) he (by decide);refine Ev.step (f:=λ_=>some (S (sciL dot big l e))) (λk=>?_) (Ev.now _);simp only[zaG.j0];rw[zas,zcE,<-zas l,zex,zas,hp];cases big with
  |true=>
   rw[if_pos rfl,if_pos (by decide),if_pos (by omega)];simp only[Option.bind_some];rw[show(⟨#[69]⟩:ByteArray)=S (eMark true) from rfl,hq];simp only[Option.bind_some];rw[zgn (by omega)];rfl
  |false=>
   rw[if_neg (by simp),if_pos (by decide),if_pos (by omega)];simp only[Option.bind_some];rw[show(⟨#[101]⟩:ByteArray)=S (eMark false) from rfl,hq];simp only[Option.bind_some];rw[zgn (by omega)];rfl
 unfold zaG.f;by_cases c:v=69
 ·refine eP c ?_;(have:bigV v=true:=by unfold bigV;rw[c];rfl);rw[this];exact key true
 ·refine eN c ?_;(have:bigV v=(v==71):=by unfold bigV;rw[beq_eq_false_iff_ne.mpr c];rfl);rw[this];exact key _
theorem zfN(l:List UInt8){p:Int}(hp: -100000<=p/\p<=100000):zcc.f (S l) p=some (firstL (l,p)):=by
 unfold zcc.f firstL;by_cases c:l=[]
 ·rw[if_pos ((zbD l).2 c),if_pos c]
 ·rw[if_neg (λe=>c ((zbD l).1 e)),if_neg c,w64 (by omega) (by omega)]
theorem zgM(x0 x1 x2 x3 x4 x6:Int)(dot:Bool){l:List UInt8}{p:Int}(hl:l.length<=100000)(hp: -100000<=p/\p<=100000):zaW.f x0 x1 x2 x3 x4 dot x6 (S l) p=some (S (aroundL dot l p)):=by
 unfold zaW.f aroundL;by_cases c:p<=0
 ·rw[if_pos c,if_pos c,w64 (by omega) (by omega),zdx (by omega) (by omega)];simp only[Option.bind_some];rw[zas,zas,zbE,if_pos (by omega),zbr,show(⟨#[48]⟩:ByteArray)=S [48] from rfl,zdd _ _ _ _ _ _ _ (by rw[List.length_append,zbE];simp;omega)];rfl
 ·have hf:=zb7 l p;rw[if_neg c,if_neg c,zdm hl hp];simp only[Option.bind_some];rw[zas,if_pos (by omega),if_pos (by omega),zcE,<-zas (fillL l p),zex,zdd _ _ _ _ _ _ _ (by rw[List.length_take,List.length_drop];omega)];rfl
theorem zjX(x0 x1 x4 x6:Int)(dot:Bool){m:Nat}{e:Int}(hm:m<=18446744073709551615)(he: -100000<=e/\e<=100000):zbg.f x0 x1 (m:Int) e x4 dot x6=some (S (binL m e)):=by
 have hb:=zd5 10 m;have hw:=zcV ([112]:List UInt8) (e:=e) (least:=1) (by decide);unfold zbg.f binL;rw[zfL hm];simp only[Option.bind_some];rw[show(⟨#[112]⟩:ByteArray)=S [112] from rfl,zfM (by decide) he (by decide)];simp only[Option.bind_some];rw[zgn (by simp at hw;omega)];rfl
def sixL(n:Nat):List UInt8:=zsL (16-(bT 16 n).length)++bT 16 n
theorem zht{n:Nat}(hn:n<=18446744073709551615):(bT 16 n).length<=16:=zeK 16 63 n 15 (by omega)
theorem zfO{n:Nat}(hn:n<=18446744073709551615):(sixL n).length=16:=by
 have:=zht hn;unfold sixL;rw[List.length_append,zbE];omega
theorem zhu{n:Nat}(hn:n<=18446744073709551615):zbF.f (n:Int)=some (S (sixL n)):=by
 have hb:=zht hn;unfold zbF.f sixL;rw[zla hn];simp only[Option.bind_some];rw[zas,w64 (by omega) (by omega),zdx (by omega) (by omega)];simp only[Option.bind_some];rw[zas,zbE,if_pos (by omega),zbr,show((16:Int)-((bT 16 n).length:Int)).toNat=16-(bT 16 n).length by omega]
theorem zio(c:UInt8)(n:Int):zcf.f (c.toNat:Int) n=some (S (List.replicate (min n 1000).toNat c)):=by
 unfold zcf.f;have e:strOfNums [(c.toNat:Int)]=S [c]:=zdI [c];rw[e,zei,zg9,zgK c (by omega) (by omega),show(max 0 (min n 1000)).toNat=(min n 1000).toNat by omega];rfl
def padL(l:List UInt8)(minus zero:Bool)(wid:Int):List UInt8:=
  if minus then l++List.replicate (max 0 (min wid 1000)-l.length).toNat 32 else if zero then List.replicate (max 0 (min wid 1000)-l.length).toNat 48++l else List.replicate (max 0 (min wid 1000)-l.length).toNat 32++l
theorem zlb{l:List UInt8}(h:Asc l)(hl:l.length<=1000000):zcR.f (S l)=some (l.length:Int):=by
 have ha:(S l).data.toList.all (λb=>b.toNat<128)=true:=List.all_eq_true.2 (λc hc=>decide_eq_true (h c hc));unfold zcR.f;rw[if_pos ⟨by rw[zas];exact hl,ha⟩,zas]
theorem zjY{l:List UInt8}(h:Asc l)(hl:l.length<=900000)(p m s sp z:Bool)(wid prec v:Int):zci.f (S l) p m s sp z wid prec v=some (S (padL l m z wid)):=by
 unfold zci.f padL;rw[zlb h (by omega)];simp only[Option.bind_some];rw[zei,zg9,w64 (by omega) (by omega)];have hf:=λc:UInt8=>zio c (max 0 (min wid 1000)-(l.length:Int));(have hm:(min (max 0 (min wid 1000)-(l.length:Int)) 1000).toNat=(max 0 (min wid 1000)-(l.length:Int)).toNat:=by omega);rw[hm] at hf;have A:=hf 32;have B:=hf 48;rw[show(((32:UInt8).toNat:Nat):Int)=32 from rfl] at A;rw[show(((48:UInt8).toNat:Nat):Int)=48 from rfl] at B;by_cases c:max 0 (min wid 1000)-(l.length:Int)<=0
 ·(have e0:(max 0 (min wid 1000)-(l.length:Int)).toNat=0:=by omega);rw[if_pos c,e0];simp
 ·rw[if_neg c,A,B];simp only[Option.bind_some,zas,List.length_replicate];cases m with
  |true=>rw[if_pos rfl,if_pos (by omega),zbr];simp
  |false=>
   cases z with
   |true=>rw[if_neg (by simp),if_pos rfl,if_pos (by omega),zbr];simp
   |false=>rw[if_neg (by simp),if_neg (by simp),if_pos (by omega),zbr];simp
end Go.Proofs.YtilidabdbhaljaaGreatDoor.Pure
end
section
namespace Go.Proofs.YtilidabdbhaljaaGreatDoor.Pure
open Go.RowKit Go.Proofs.YtilidabdbhaljaaGreatDoorW.PrintWords Go.Proofs.YtilidabdbhaljaaGreatDoor.Fn
theorem zip{l:List UInt8}(h:AllD l):l.all isD=true:=List.all_eq_true.2 λc hc=>(zdX c).2 (h c hc)
theorem ziW{l:List UInt8}{p:Int}(h:InForm l p):formL l p=(l,p):=by rw[zcC h.1,zef h]
theorem zcN{l:List UInt8}{p:Int}(h:InForm l p)(hl:l.length<=2000)(hp: -5000<=p/\p<=5000):normS (S l) p=(S l,p,0):=by
 unfold normS normTail;rw[if_neg (by rw[zas];omega),L_S,if_pos (zip h.1),if_neg (by omega),if_neg (by omega),ziW h];rfl
theorem zmh{a b:List UInt8}{p q:Int}(ha:InForm a p)(hb:InForm b q)(h1:a.length<=2000/\ -5000<=p/\p<=5000)(h2:b.length<=2000/\ -5000<=q/\q<=5000):addS (S a) p (S b) q=addD a p b q:=by
 unfold addS;rw[zcN ha h1.1 h1.2,zcN hb h2.1 h2.2,if_pos rfl,if_pos rfl];show addD (L (S a)) p (L (S b)) q=_;rw[L_S,L_S]
theorem zmi{a b:List UInt8}{p q:Int}(ha:InForm a p)(hb:InForm b q)(h1:a.length<=2000/\ -5000<=p/\p<=5000)(h2:b.length<=2000/\ -5000<=q/\q<=5000):cmpS (S a) p (S b) q=(cmpD a p b q,0):=by
 unfold cmpS;rw[zcN ha h1.1 h1.2,zcN hb h2.1 h2.2,if_pos rfl,if_pos rfl];show(cmpD (L (S a)) p (L (S b)) q,(0:Int))=_;rw[L_S,L_S]
theorem zjZ(k j:Nat):(10:Nat)^(k+j)=10^k*(2^j*5^j):=by
 rw[Nat.pow_add,<-Nat.mul_pow]
theorem zhv(n:Nat)(x:Int)(V:Nat)(h: -(V:Int)<=x):decOf n x=decOf (n*10^(x+V).toNat) (-(V:Int)):=by
 have:=zdE n (x+V).toNat x;rw[<-this];congr 1;omega
theorem zej(m n U V:Nat)(e x:Int)(hU: -(U:Int)<=e)(hV:U<=V)(hx: -(V:Int)<=x):
 cmpD (decOf (m*eBase e^e.natAbs) (eLim e)).1 (decOf (m*eBase e^e.natAbs) (eLim e)).2 (decOf n x).1 (decOf n x).2=cmpN (m*2^(e+U).toNat*10^V) (n*10^(x+V).toNat*2^U):=by
 (have he: -(V:Int)<=eLim e:=by unfold eLim;split<;>omega);rw[zhv _ (eLim e) V he,zhv n x V hx,zgI,<-zhl _ _ (2^U) (Nat.pow_pos (by omega))];congr 1;unfold eLim eBase;by_cases c:e<0
 ·rw[if_pos c,if_pos c];obtain⟨j,rfl⟩: ∃j:Nat,e= -(j:Int):=⟨e.natAbs,by omega⟩;(have e1:(-(j:Int)).natAbs=j:=by omega);(have e2:(-(j:Int)+(V:Int)).toNat=V-j:=by omega);(have e3:(-(j:Int)+(U:Int)).toNat=U-j:=by omega);rw[e1,e2,e3];obtain⟨u,rfl⟩: ∃u,U=u+j:=⟨U-j,by omega⟩;obtain⟨v,rfl⟩: ∃v,V=v+j:=⟨V-j,by omega⟩;rw[Nat.add_sub_cancel,Nat.add_sub_cancel,zjZ,Nat.pow_add];simp only[Nat.mul_assoc,Nat.mul_comm,Nat.mul_left_comm]
 ·rw[if_neg c,if_neg c];obtain⟨j,rfl⟩: ∃j:Nat,e=(j:Int):=⟨e.natAbs,by omega⟩;(have e1:((j:Int)).natAbs=j:=by omega);(have e2:((0:Int)+(V:Int)).toNat=V:=by omega);(have e3:((j:Int)+(U:Int)).toNat=j+U:=by omega);rw[e1,e2,e3,Nat.pow_add];simp only[Nat.mul_assoc,Nat.mul_comm,Nat.mul_left_comm]
def vvGo(n:Nat):Nat:=if n=0 then 20000 else vvGo (n / 2)
def vv:Nat:=vvGo 0
theorem zdr:vv=20000:=by unfold vv;rw[vvGo];rfl
def CC:Nat:=10^vv
theorem zey:0<CC:=Nat.pow_pos (by omega)
def uu(wide:Bool):Nat:=ll wide+1
def dX(wide:Bool)(n:Nat)(x:Int):Nat:=n*10^(x+vv).toNat*2^uu wide
def flo(wide:Bool)(X:Nat):Nat:=if fW (ff wide) (ii wide)*(2*CC)<=X then ii wide else fFind (ff wide) X (2*CC) 64 0
def rdX(wide:Bool)(X:Nat):Nat:=fNear (ff wide) (ii wide) X (2*CC) (flo wide X)
theorem zeM(wide:Bool)(X:Nat):fFloor (ff wide) (ii wide) X (2*CC) (flo wide X):=by
 unfold flo;by_cases c:fW (ff wide) (ii wide)*(2*CC)<=X
 ·rw[if_pos c];exact⟨Nat.le_refl _,c,λh=>absurd h (Nat.lt_irrefl _)⟩
 ·rw[if_neg c];obtain⟨h1,h2,h3,h4⟩:=zeI (ff wide) X (2*CC) 64 0 (by rw[zgk];omega);have hi:=(zeh wide).2.2;(have e:(2:Nat)^64=18446744073709551616:=by decide);have h5:fW (ff wide) (ii wide)*(2*CC)<=fW (ff wide) (0+2^64)*(2*CC):=Nat.mul_le_mul_right _ (zg6 (by omega));have h6:=h2 (by omega);generalize fFind (ff wide) X (2*CC) 64 0=q at*
  refine⟨?_,h1,λ_=>h6⟩;by_cases c2:ii wide<=q
  ·have:=Nat.mul_le_mul_right (2*CC) (zg6 (f:=ff wide) c2);omega
  ·omega
end Go.Proofs.YtilidabdbhaljaaGreatDoor.Pure
end
section
namespace Go.Proofs.YtilidabdbhaljaaGreatDoor.Fn
open Go.RowKit Go.Proofs.YtilidabdbhaljaaGreatDoorW.PrintWords Go.Proofs.YtilidabdbhaljaaGreatDoorW.PrintLast Go.Proofs.YtilidabdbhaljaaGreatDoorW.PrintMore
set_option maxHeartbeats 8000000
set_option maxRecDepth 100000
section
attribute [local go_sem] fnW_0 fnW_1 fnW_2 fnW_3 fnW_4 fnW_5 fnW_guard fnW_eql zaC zaD zaI zaJ
def zcq.f(k:Nat)(D:Int)(E:Int)(I:Int)(a1:Int):Option (ByteArray×Int):=(zbB.f D E I a1).bind λA=>((zaE.f k A.1 A.2).bind λB=>(some (B.1,B.2.1)))
theorem zcq.calls(k:Nat)(I:Int)(J:Int)(K:Int)(a1:Int)(r1:ByteArray)(r2:Int)(w:World)(h:zcq.f k I J K a1=some (r1,r2)):
 Calls Tryz.prog 103 #[.agg #[.int .i64 I,.int .i64 J,.int .u64 K],.int .u64 a1] w λe w'=>e= .returned (.agg #[.string r1,.int .i64 r2])/\Below w.heap.size w w':=by
 have aH:=Tryz.underlying60;have aI:=Tryz.underlying74;have HB:=zaa.mk (Below.refl w.heap.size w);have H:((zbB.f I J K a1).bind λaa=>((zaE.f k aa.1 aa.2).bind λab=>(some (ab.1,ab.2.1))))=some (r1,r2):=h;clear h;replace H:=bs H;obtain⟨⟨ac,ad⟩,A3,H⟩:=H;dsimp only at H;replace H:=bs H;obtain⟨⟨ae,af,ah⟩,A4,H⟩:=H;dsimp only at H;obtain⟨rfl,rfl⟩:=o2 H;go_enter Tryz.func103,Tryz.ntmps103;go_wp2_with (first|((with_reducible refine zae (N:=2) rfl ?_);refine zaf rfl (N:=2) rfl (cs:=#[.int .i64 I,.int .i64 J,.int .u64 K]) (t:=60) gz ?_;intro A hg w5 hbox hb;have az:=gN bz hg;have D:=zaa.mk hbox;replace HB:=bN bz hb;clear hb hbox hg)|((with_reducible refine zae (N:=4) rfl ?_);refine zaf rfl (N:=4) rfl (cs:=#[.string (⟨#[]⟩:ByteArray),.int .i64 0]) (t:=74) gz ?_;intro B hg w6 hbox hb;have aA:=gN bz hg;have M:=lN (g:=A) hg bk;have O:=rN (g:=A) hg bk;replace D:=kN (g:=A) hb bk;have E:=zaa.mk hbox;replace HB:=bN bz hb;clear hb hbox hg;have aJ:=M.out;have aK:=O.out;obtain⟨ar,au,av,aw,ax,ay⟩:=cz3 D)|((with_reducible refine zac (f:=38) rfl ?_);refine gB Tryz.func38 (zbB.calls I J K a1 ac ad _ A3.out) ?_;intro w9 hb;replace D:=kN (g:=A) hb bk;replace E:=kN (g:=B) hb bk;replace HB:=bN bz hb;clear hb)|((with_reducible refine zac (f:=102) rfl ?_);refine gB Tryz.func102 (zaE.calls k ac ad ae af ah _ A4.out) ?_;intro aL hb;replace D:=kN (g:=A) hb bk;replace E:=kN (g:=B) hb bk;replace HB:=bN bz hb;clear hb)|((with_reducible refine zae (N:=5) rfl ?_);refine zaf rfl (N:=5) rfl (cs:=#[.string (⟨#[]⟩:ByteArray),.int .i64 0]) (t:=74) gz ?_;intro aB hg aM hbox hb;have aC:=gN bz hg;have U:=lN (g:=A) hg bk;have X:=rN (g:=A) hg bk;have Y:=lN (g:=B) hg bk;have Z:=rN (g:=B) hg bk;replace D:=kN (g:=A) hb bk;replace E:=kN (g:=B) hb bk;have ag:=zaa.mk hbox;replace HB:=bN bz hb;clear hb hbox hg;have aD:=X.out;have aE:=U.out;have aF:=Z.out;have aG:=Y.out;obtain⟨ai,aj,ak,al⟩:=cz2 ag;obtain⟨am,an,ao,ap⟩:=cz2 E));refine bodyPost_ret (results_cell_row rfl _ _ B 74 #[.string ae,.int .i64 af] (0,0) _ rfl bk Tryz.underlying74 rfl (by kernel_rfl)) rfl ?_;exact⟨ez,bz⟩
end
end Go.Proofs.YtilidabdbhaljaaGreatDoor.Fn
end
section
namespace Go.Proofs.YtilidabdbhaljaaGreatDoor.Pure
open Go.RowKit Go.Proofs.YtilidabdbhaljaaGreatDoorW.PrintWords Go.Proofs.YtilidabdbhaljaaGreatDoor.Fn
def exD(m:Nat)(e:Int):List UInt8×Int:=decOf (m*eBase e^e.natAbs) (eLim e)
theorem zd6(m:Nat)(e:Int):InForm (exD m e).1 (exD m e).2:=zbx _ _
theorem zcW(m:Nat){e:Int}(h: -1200<=e/\e<=1200):exactS m e=(S (exD m e).1,(exD m e).2,0):=by
 unfold exactS;rw[if_neg (by omega)];rfl
theorem zdK{m:Nat}(hm:m<18446744073709551616){e:Int}(h: -1200<=e/\e<=1200):(exD m e).1.length<=1300/\ -1200<=(exD m e).2/\(exD m e).2<=1300:=by
 obtain⟨T,hT⟩: ∃T:Nat,T=1200:=⟨_,rfl⟩;have hb:eBase e^e.natAbs<=10^T:=by
  refine Nat.le_trans (Nat.pow_le_pow_left (show eBase e<=10 by unfold eBase;split<;>omega) _) (Nat.pow_le_pow_right (by omega) (by omega))
 have hlt:m*eBase e^e.natAbs<10^(20+T):=by
  rw[Nat.pow_add];(have A:(10:Nat)^20=100000000000000000000:=by decide);generalize eBase e^e.natAbs=B at*
  have hp:0<10^T:=Nat.pow_pos (by omega);generalize 10^T=P at*
  exact Nat.lt_of_le_of_lt (Nat.mul_le_mul_left _ hb) (Nat.mul_lt_mul_of_pos_right (by omega) hp)
 have:=zcl hlt (eLim e);unfold exD;unfold eLim at*
 (split at this<;>rename_i c);all_goals(first|rw[if_pos c]|rw[if_neg c]);omega
theorem zj0{a b:List UInt8}{p q:Int}(ha:InForm a p)(hb:InForm b q)(h1:a.length<=2000/\ -5000<=p/\p<=5000)(h2:b.length<=2000/\ -5000<=q/\q<=5000):Ev (λk=>zbK.f k (S a) p (S b) q) (cmpD a p b q):=by
 unfold zbK.f;have h:=zl4 (S a) p (S b) q;rw[zmi ha hb h1 h2] at h;exact Ev.bind (f:=λ_ bt=>some bt.1) h (Ev.now _)
theorem zdT(wide:Bool){p:Nat}(hp:p<=ii wide):fE (ff wide) p<=2046/\fM (ff wide) p<9007199254740992:=by
 have h1:=ziR (ff wide) p;have hd:p / 2^ff wide<=ii wide / 2^ff wide:=Nat.div_le_div_right hp;(have h2:ii wide / 2^ff wide<=2047/\2^(ff wide+1)<=9007199254740992:=by cases wide<;>decide);unfold fE;omega
theorem zdL(wide:Bool):149<=ll wide/\ll wide<=1074:=by cases wide<;>simp[ll]
theorem fEl(wide:Bool){p:Nat}(hp:p<=ii wide): -1074<=(fE (ff wide) p:Int)-(ll wide:Int)/\(fE (ff wide) p:Int)-(ll wide:Int)<=1100:=by
 have h1:=(zdT wide hp).1;have h2:=zdL wide;cases wide
 ·(have:ii false / 2^ff false=255:=by decide);have hd:p / 2^ff false<=ii false / 2^ff false:=Nat.div_le_div_right hp;unfold fE at*
  omega
 ·have:ll true=1074:=rfl;omega
theorem zg1(wide:Bool){p:Nat}(hp:p<=ii wide):
 Ev (λk=>zcq.f k (ff wide:Int) (-(ll wide:Int)) (ii wide:Int) (p:Int)) (decS (exD (fM (ff wide) p) ((fE (ff wide) p:Int)-(ll wide:Int)))):=by
 unfold zcq.f;have hi:=zeh wide;rw[zfG wide p (by omega)];simp only[Option.bind_some];have h:=zd4 (fM (ff wide) p) ((fE (ff wide) p:Int)-(ll wide:Int)) (by have:=(zdT wide hp).2;omega);rw[zcW _ (by have:=fEl wide hp;omega)] at h;exact Ev.bind (f:=λ_ bt=>some (bt.1,bt.2.1)) h (Ev.now _)
theorem zhw(a b:Nat):cmpN a b>0↔b<a:=by
 unfold cmpN;by_cases h1:a<b
 ·rw[if_pos h1];omega
 ·rw[if_neg h1];by_cases h2:b<a
  ·rw[if_pos h2];omega
  ·rw[if_neg h2];omega
theorem ze8(a b:Nat):cmpN a b=0↔a=b:=by
 unfold cmpN;by_cases h1:a<b
 ·rw[if_pos h1];omega
 ·rw[if_neg h1];by_cases h2:b<a
  ·rw[if_pos h2];omega
  ·rw[if_neg h2];omega
theorem zgN(a b:Nat):cmpN a b= -cmpN b a:=by
 unfold cmpN;by_cases h1:a<b
 ·rw[if_pos h1,if_neg (by omega),if_pos h1]
 ·rw[if_neg h1];by_cases h2:b<a
  ·rw[if_pos h2,if_pos h2];rfl
  ·rw[if_neg h2,if_neg h2,if_neg h1];rfl
theorem zh1(wide:Bool){p:Nat}(hp:p<=ii wide){l:List UInt8}{q:Int}(hl:InForm l q)(hx: -(vv:Int)<=q-l.length):
 cmpD (exD (fM (ff wide) p) ((fE (ff wide) p:Int)-(ll wide:Int))).1 (exD (fM (ff wide) p) ((fE (ff wide) p:Int)-(ll wide:Int))).2 l q=cmpN (fW (ff wide) p*(2*CC)) (dX wide (val l) (q-l.length)):=by
 have h:=zej (fM (ff wide) p) (val l) (uu wide) vv ((fE (ff wide) p:Int)-(ll wide:Int)) (q-l.length) (by unfold uu;omega) (by have:=zf5 wide;have:=zdr;unfold uu;omega) hx;rw[zef hl] at h;unfold exD;rw[h];unfold dX;congr 1;(have e:((fE (ff wide) p:Int)-(ll wide:Int)+(uu wide:Int)).toNat=fE (ff wide) p+1:=by unfold uu;omega);rw[e,Nat.pow_succ];unfold fW CC;rw[Nat.mul_assoc,Nat.mul_assoc,Nat.mul_assoc]
def rdS(wide:Bool)(s:ByteArray)(p:Int):Int×Int:=
  if(normS s p).2.2=0 then((rdX wide (dX wide (val (L (normS s p).1)) ((normS s p).2.1-(L (normS s p).1).length)):Int),0) else(0,(normS s p).2.2)
theorem zlG(wide:Bool):fW (ff wide) (ii wide)*2<=10^400*2^uu wide/\2^uu wide<=10^401:=by
 cases wide<;>decide+kernel
theorem zng(wide:Bool){l:List UInt8}{q:Int}(hl:InForm l q)(h:400<q)(hx:l.length<=2000):fW (ff wide) (ii wide)*(2*CC)<=dX wide (val l) (q-l.length):=by
 have hn:l≠[]:=by
  intro e;have:=hl.2.2.2 e;omega
 have h1:=zg3 hl.1 hl.2.1 hn (p:=q) (E:= -(vv:Int)) (by have:=zdr;omega);unfold sv at h1;obtain⟨F,hF⟩: ∃F:Nat,F=400:=⟨_,rfl⟩;(have e1:(q-1- -(vv:Int)).toNat=(q-401).toNat+(F+vv):=by omega);rw[e1,Int.sub_neg,Nat.pow_add,Nat.pow_add] at h1;have h2:=(zlG wide).1;rw[<-hF] at h2;unfold dX;have h3:1<=10^(q-401).toNat:=Nat.pow_pos (by omega);have hC:CC=10^vv:=rfl;rw[<-hC] at h1;generalize val l*10^(q-l.length+vv).toNat=Y at*
 have h4:10^F*CC<=Y:=Nat.le_trans (Nat.le_mul_of_pos_left _ h3) h1;have h5:=Nat.mul_le_mul_right (2^uu wide) h4;have h6:=Nat.mul_le_mul_right CC h2;refine Nat.le_trans ?_ h5;refine Nat.le_trans (Nat.le_of_eq ?_) (Nat.le_trans h6 (Nat.le_of_eq ?_))
 ·rw[Nat.mul_assoc]
 ·rw[Nat.mul_assoc,Nat.mul_assoc,Nat.mul_comm CC]
theorem zmj(wide:Bool){l:List UInt8}{q:Int}(hl:InForm l q)(h:q< -400)(h2: -7000<=q)(hx:l.length<=2000):dX wide (val l) (q-l.length)<=CC:=by
 have h1:=zdF hl.1 (p:=q) (E:= -(vv:Int)) (by have:=zdr;omega);unfold sv at h1;obtain⟨T,hT⟩: ∃T:Nat,T=401:=⟨_,rfl⟩;have hv:=zdr;have h3:10^(q- -(vv:Int)).toNat<=10^(vv-T):=Nat.pow_le_pow_right (by omega) (by omega);rw[Int.sub_neg] at h1;have h4:=(zlG wide).2;rw[<-hT] at h4;unfold dX;have hC:CC=10^(vv-T)*10^T:=by
  unfold CC;rw[<-Nat.pow_add];congr 1;omega
 rw[hC];exact Nat.mul_le_mul (by omega) h4
theorem zj1(wide:Bool){X:Nat}(h:fW (ff wide) (ii wide)*(2*CC)<=X):rdX wide X=ii wide:=by
 have e:=zdR (by have:=zey;omega) (zeM wide X) (⟨Nat.le_refl _,h,λh=>absurd h (Nat.lt_irrefl _)⟩:fFloor (ff wide) (ii wide) X (2*CC) (ii wide));unfold rdX;rw[e];unfold fNear;rw[if_pos rfl]
theorem zj2(wide:Bool):fW (ff wide) 1=1:=by cases wide<;>decide
theorem zmk(wide:Bool){X:Nat}(h:X<=CC):rdX wide X=0:=by
 have hC:=zey;have hi:=zeh wide;have e:=zdR (by omega) (zeM wide X) (⟨Nat.zero_le _,by rw[zgk];omega,λ_=>by rw[zj2];omega⟩:fFloor (ff wide) (ii wide) X (2*CC) 0);unfold rdX;rw[e];have hu: ¬fUp (ff wide) X (2*CC) 0:=by
  unfold fUp;rw[zgk,Nat.zero_add,zj2];omega
 unfold fNear;rw[if_neg (by omega),if_neg hu]
theorem ziX(wide:Bool){X p:Nat}(h:fFloor (ff wide) (ii wide) X (2*CC) p):rdX wide X=if p=ii wide then ii wide else if X>(fW (ff wide) p+fW (ff wide) (p+1))*CC\/(X=(fW (ff wide) p+fW (ff wide) (p+1))*CC/\p%2=1) then p+1 else p:=by
 have e:=zdR (by have:=zey;omega) (zeM wide X) h;unfold rdX;rw[e];unfold fNear;by_cases c:p=ii wide
 ·rw[if_pos c,if_pos c]
 ·rw[if_neg c,if_neg c];have hu:fUp (ff wide) X (2*CC) p↔(X>(fW (ff wide) p+fW (ff wide) (p+1))*CC\/(X=(fW (ff wide) p+fW (ff wide) (p+1))*CC/\p%2=1)):=by
   unfold fUp;rw[show(fW (ff wide) p+fW (ff wide) (p+1))*(2*CC)=2*((fW (ff wide) p+fW (ff wide) (p+1))*CC) by rw[Nat.mul_left_comm]];omega
  by_cases c2:fUp (ff wide) X (2*CC) p
  ·rw[if_pos c2,if_pos (hu.1 c2)]
  ·rw[if_neg c2,if_neg (λh=>c2 (hu.2 h))]
def Nm(n K:Nat)(xs:List Int):Prop:=InB 10 xs/\lv 10 xs=n/\xs.length<=K
theorem zdn{n K:Nat}{xs:List Int}(h:Nm n K xs)(hK:K<=50000): ∃ys,Ev (λk=>zaz.f k xs 2) ys/\Nm (2*n) (K+1) ys:=by
 obtain⟨h1,h2,h3⟩:=h;refine⟨_,ze5 xs 2 (by omega) h1 (by omega),zdu (by omega) xs 0 h1 (by omega),?_,?_⟩
 ·rw[zdp (by omega),h2,Nat.mul_comm]
 ·have:=zdk (B:=10) (by_:=2) xs 0;omega
theorem ziY{xs:List Int}(h:InB 10 xs)(i:Int):0<=rd xs i/\rd xs i<10:=by
 unfold rd;rw[List.getD_eq_getElem?_getD];cases hg:xs[i.toNat]? with
 |none=>simp
 |some x=>exact h x (List.mem_of_getElem? hg)
theorem ziq{xs:List Int}(h:InB 10 xs)(j:Nat):lv 10 (xs.take (j+1))=lv 10 (xs.take j)+10^j*(rd xs (j:Int)).toNat/\lv 10 (xs.take j)<10^j:=by
 constructor
 ·by_cases hj:j<xs.length
  ·rw[List.take_succ_eq_append_getElem hj,zeg,List.length_take,Nat.min_eq_left (by omega)];(have:rd xs (j:Int)=xs[j]:=by unfold rd;simp[List.getD_eq_getElem?_getD,List.getElem?_eq_getElem hj]);rw[this];simp[lv]
  ·(have:rd xs (j:Int)=0:=by unfold rd;simp[List.getD_eq_getElem?_getD];rw[List.getElem?_eq_none (by omega)];rfl);rw[this,List.take_of_length_le (by omega),List.take_of_length_le (by omega)];simp
 ·have h1:InB 10 (xs.take j):=λx hx=>h x (List.mem_of_mem_take hx);refine Nat.lt_of_lt_of_le (zlB h1) (Nat.pow_le_pow_right (by omega) ?_);rw[List.length_take];omega
theorem zml{a b:List Int}(ha:InB 10 a)(hb:InB 10 b): ∀j:Nat,j<=1000000->Ev (λk=>zax.l0 k a b ((j:Int)-1)) (decide (lv 10 (a.take j)<lv 10 (b.take j))):=by
 intro j;induction j with
 |zero=>
  intro _;refine Ev.step (f:=λ_=>some false) (λk=>?_) ?_
  ·simp only[zax.l0];rw[if_neg (by omega)]
  ·simp[lv];exact Ev.now _
 |succ j ih=>
  intro hj;have h1:=ziq ha j;have h2:=ziq hb j;have h3:=ziY ha (j:Int);have h4:=ziY hb (j:Int);have hnext:=ih (by omega);have hw:wrap64 ((j:Int)-1)=(j:Int)-1:=zaF (by omega) (by omega);(have hx:(((j+1:Nat):Int)-1)=(j:Int):=by omega);rw[hx]
  -- the digits
  have key:Ev (λk=>if rd a (j:Int)=rd b (j:Int) then zax.l0 k a b (wrap64 ((j:Int)-1)) else some (decide (rd a (j:Int)<rd b (j:Int)))) (decide (lv 10 (a.take (j+1))<lv 10 (b.take (j+1)))):=by
   rw[h1.1,h2.1,hw];have hp:=h1.2;have hq:=h2.2;by_cases c:rd a (j:Int)=rd b (j:Int)
   ·refine eP c ?_;rw[c];have e:decide (lv 10 (a.take j)+10^j*(rd b (j:Int)).toNat<lv 10 (b.take j)+10^j*(rd b (j:Int)).toNat)=decide (lv 10 (a.take j)<lv 10 (b.take j)):=decide_eq_decide.2 (by omega);rw[e];exact hnext
   ·refine eN c ?_;have e:decide (rd a (j:Int)<rd b (j:Int))=decide (lv 10 (a.take j)+10^j*(rd a (j:Int)).toNat<lv 10 (b.take j)+10^j*(rd b (j:Int)).toNat):=by
     apply decide_eq_decide.2;generalize lv 10 (a.take j)=p at*
     generalize lv 10 (b.take j)=q at*
     generalize rd a (j:Int)=x at*
     generalize rd b (j:Int)=y at*
     obtain⟨u,rfl⟩: ∃u:Nat,x=u:=⟨x.toNat,by omega⟩;obtain⟨v,rfl⟩: ∃v:Nat,y=v:=⟨y.toNat,by omega⟩;rw[Int.toNat_natCast,Int.toNat_natCast];generalize 10^j=T at*
     rcases Nat.lt_trichotomy u v with h|h|h
     ·have:T*(u+1)<=T*v:=Nat.mul_le_mul_left _ h;rw[Nat.mul_add] at this;omega
     ·omega
     ·have:T*(v+1)<=T*u:=Nat.mul_le_mul_left _ h;rw[Nat.mul_add] at this;omega
    rw[e];exact Ev.now _
  have zero_of: ∀l:List Int,¬((j:Int)<(l.length:Int))->rd l (j:Int)=0:=λl hl=>by
   unfold rd;rw[List.getD_eq_getElem?_getD,Int.toNat_natCast,List.getElem?_eq_none (by omega)];rfl
  have j2: ∀x7:Int,x7=rd a (j:Int)->Ev (λk=>zax.j2 k a b (j:Int) x7 0) (decide (lv 10 (a.take (j+1))<lv 10 (b.take (j+1)))):=by
   intro x7 e7;refine Ev.step (f:=λk=>if rd a (j:Int)=rd b (j:Int) then zax.l0 k a b (wrap64 ((j:Int)-1)) else some (decide (rd a (j:Int)<rd b (j:Int)))) (λk=>?_) key;simp only[zax.j2];by_cases cb:(j:Int)<(b.length:Int)
   ·rw[if_pos cb,if_pos (by omega),e7]
   ·rw[if_neg cb,e7,zero_of b cb]
  by_cases ca:(j:Int)<(a.length:Int)
  ·refine Ev.step (f:=λk=>zax.j2 k a b (j:Int) (rd a (j:Int)) 0) (λk=>?_) (j2 _ rfl);simp only[zax.l0];rw[if_pos (by omega),if_pos ca,if_pos (by omega)]
  ·refine Ev.step (f:=λk=>zax.j2 k a b (j:Int) 0 0) (λk=>?_) (j2 _ (zero_of a ca).symm);simp only[zax.l0];rw[if_pos (by omega),if_neg ca]
theorem zdZ{m n K K':Nat}{a b:List Int}(ha:Nm m K a)(hb:Nm n K' b)(hK:K<=500000)(hK':K'<=500000):Ev (λk=>zax.f k a b) (decide (m<n)):=by
 obtain⟨a1,a2,a3⟩:=ha;obtain⟨b1,b2,b3⟩:=hb;have go: ∀N:Nat,a.length<=N->b.length<=N->N<=1000000->Ev (λk=>zax.j0 k a b (N:Int)) (decide (m<n)):=by
  intro N h1 h2 h3;have:=zml a1 b1 N h3;rw[List.take_of_length_le h1,List.take_of_length_le h2,a2,b2] at this;refine Ev.step (f:=λk=>zax.l0 k a b ((N:Int)-1)) (λk=>?_) this;simp only[zax.j0];rw[zaF (by omega) (by omega)]
 unfold zax.f;by_cases c:(b.length:Int)>(a.length:Int)
 ·exact eP c (go b.length (by omega) (Nat.le_refl _) (by omega))
 ·exact eN c (go a.length (Nat.le_refl _) (by omega) (by omega))
def subGo:List Int->List Int->Nat->List Int
  |[],_,_=>[]
  |x::xs,bs,c=>if x<(c:Int)+bs.headD 0 then(x+10-c-bs.headD 0)::subGo xs bs.tail 1 else(x-c-bs.headD 0)::subGo xs bs.tail 0
theorem zd0(B:Nat)(x:Int)(xs:List Int):lv B (x::xs)=x.toNat+B*lv B xs:=rfl
theorem zj3{bs:List Int}(h:InB 10 bs):(0<=bs.headD 0/\bs.headD 0<10)/\InB 10 bs.tail/\lv 10 bs=(bs.headD 0).toNat+10*lv 10 bs.tail:=by
 cases bs with
 |nil=>exact⟨by simp,InB.nil 10,by simp[lv]⟩
 |cons b bs=>exact⟨h.cons.1,h.cons.2,rfl⟩
theorem ze9: ∀(xs bs:List Int) (c:Nat),InB 10 xs->InB 10 bs->c<=1->lv 10 bs+c<=lv 10 xs->lv 10 (subGo xs bs c)+lv 10 bs+c=lv 10 xs/\InB 10 (subGo xs bs c)/\(subGo xs bs c).length=xs.length
  |[],bs,c,_,_,_,h=>by
    have h0:lv 10 []=0:=rfl
    refine⟨?_,InB.nil 10,rfl⟩
    unfold subGo
    omega
  |x::xs,bs,c,hx,hb,hc,h=>by
    obtain⟨⟨b0,b1⟩,hbt,hbv⟩:=zj3 hb
    have A:=hx.cons.1
    rw[zd0] at h
    rw[zd0]
    unfold subGo
    generalize bs.headD 0=b at*
    by_cases c1:x<(c:Int)+b
    ·rw[if_pos c1]
     obtain⟨h1,h2,h3⟩:=ze9 xs bs.tail 1 hx.cons.2 hbt (by omega) (by omega)
     refine⟨?_,InB.mk ⟨by omega,by omega⟩ h2,by simp[h3]⟩
     rw[zd0]
     omega
    ·rw[if_neg c1]
     obtain⟨h1,h2,h3⟩:=ze9 xs bs.tail 0 hx.cons.2 hbt (by omega) (by omega)
     refine⟨?_,InB.mk ⟨by omega,by omega⟩ h2,by simp[h3]⟩
     rw[zd0]
     omega
theorem head_drop(b:List Int)(i:Nat):(b.drop i).headD 0=rd b (i:Int)/\(b.drop i).tail=b.drop (i+1):=by
 constructor
 ·unfold rd;rw[List.getD_eq_getElem?_getD,Int.toNat_natCast,List.headD_eq_head?_getD,List.head?_drop]
 ·rw[List.tail_drop]
theorem zhx{b:List Int}(hb:InB 10 b): ∀(rest done:List Int) (c n:Nat),c<=1->InB 10 rest->n=done.length+rest.length->n<=1000000->
    Ev (λk=>zaU.l0 k b (c:Int) (done++rest) (n:Int) (done.length:Int)) (done++subGo rest (b.drop done.length) c)
  |[],done,c,n,hc,_,hn,hN=>by
    refine Ev.step (f:=λ_=>some (done++[])) (λk=>?_) (by unfold subGo;exact Ev.now _)
    simp only[zaU.l0]
    rw[if_neg (by simp at hn;omega)]
  |x::rest,done,c,n,hc,hin,hn,hN=>by
    have hx:=hin.cons.1
    have hr:=ziY hb (done.length:Int)
    obtain⟨e1,e2⟩:=head_drop b done.length
    simp only[List.length_cons] at hn
    have hstep: ∀(y:Int) (c':Nat),c'<=1->Ev (λk=>zaU.l0 k b (c':Int) ((done++x::rest).set ((done.length:Int)).toNat y) (n:Int) (wrap64 ((done.length:Int)+1))) (done++y::subGo rest (b.drop (done.length+1)) c'):=by
      intro y c' hc';have:=zhx hb rest (done++[y]) c' n hc' hin.cons.2 (by simp;omega) hN;rw[List.length_append,List.length_singleton,List.append_assoc,List.append_assoc] at this;rw[Int.toNat_natCast,set_mid,zaF (by omega) (by omega)];simpa using this
    have hrd:rd (done++x::rest) (done.length:Int)=x:=zd3 done x rest
    have hlen:(done.length:Int)<((done++x::rest).length:Int):=by simp;omega
    have main:Ev (λk=>if x-c-rd b (done.length:Int)<0 then zaU.l0 k b 1 ((done++x::rest).set ((done.length:Int)).toNat ((x-c-rd b (done.length:Int)+10)%256)) (n:Int) (wrap64 ((done.length:Int)+1)) else zaU.l0 k b 0 ((done++x::rest).set ((done.length:Int)).toNat ((x-c-rd b (done.length:Int))%256)) (n:Int) (wrap64 ((done.length:Int)+1))) (done++subGo (x::rest) (b.drop done.length) c):=by
      unfold subGo
      rw[e1,e2]
      by_cases c1:x-c-rd b (done.length:Int)<0
      ·refine eP c1 ?_
       rw[if_pos (by omega),show(x-c-rd b (done.length:Int)+10)%256=x+10-c-rd b (done.length:Int) by omega]
       exact hstep _ 1 (by omega)
      ·refine eN c1 ?_
       rw[if_neg (by omega),show(x-c-rd b (done.length:Int))%256=x-c-rd b (done.length:Int) by omega]
       exact hstep _ 0 (by omega)
    refine Ev.step (λk=>?_) main
    simp only[zaU.l0]
    rw[if_pos (by omega),if_pos (by omega),if_pos hlen,hrd]
    have w1:wrap64 (wrap64 x-(c:Int))=x-c:=by rw[zaF (x:=x) (by omega) (by omega),zaF (by omega) (by omega)]
    rw[w1]
    by_cases c2:(done.length:Int)<(b.length:Int)
    ·rw[if_pos c2,zaF (x:=rd b (done.length:Int)) (by omega) (by omega),zaF (x:=x-c-rd b (done.length:Int)) (by omega) (by omega),zaF (x:=x-c-rd b (done.length:Int)+10) (by omega) (by omega)]
    ·have hz:rd b (done.length:Int)=0:=by
       unfold rd
       rw[List.getD_eq_getElem?_getD,Int.toNat_natCast,List.getElem?_eq_none (by omega)]
       rfl
     rw[if_neg c2,hz,Int.sub_zero,zaF (x:=x-c+10) (by omega) (by omega)]
theorem zlc{m n K K':Nat}{a b:List Int}(ha:Nm m K a)(hb:Nm n K' b)(hnm:n<=m)(hK:K<=1000000): ∃ys,Ev (λk=>zaU.f k a b) ys/\Nm (m-n) K ys:=by
 obtain⟨a1,a2,a3⟩:=ha;obtain⟨b1,b2,b3⟩:=hb;obtain⟨h1,h2,h3⟩:=ze9 a b 0 a1 b1 (by omega) (by omega);refine⟨subGo a b 0,?_,h2,by omega,by omega⟩;unfold zaU.f;have:=zhx b1 a [] 0 a.length (by omega) a1 (by simp) (by omega);refine Ev.congr (λk=>?_) this;simp only[Option.bind_some,List.nil_append,List.length_nil,Nat.zero_add];rw[if_pos (by omega)];rfl
theorem zld{l:List UInt8}(hl:AllD l): ∀(j:Nat) (out:List Int),j<=l.length->InB 10 out->out.length+j<=200000->
 ∃ys,Ev (λk=>zaY.l0 k (S l) out ((j:Int)-1)) ys/\Nm (lv 10 out+10^out.length*val (l.take j)) (out.length+j) ys:=by
 intro j;induction j with
 |zero=>
  intro out _ ho _;refine⟨out,Ev.step (f:=λ_=>some out) (λk=>?_) (Ev.now _),ho,?_,by omega⟩
  ·simp only[zaY.l0];rw[if_neg (by omega)]
  ·rw[List.take_zero,zbP];simp
 |succ j ih=>
  intro out hj ho hol;have hb:=hl l[j] (List.getElem_mem (by omega));have hbt:bt (S l) (j:Int)=(l[j].toNat:Int):=by
   have:=bt_L (S l) j (by rw[zas];omega);simpa [L_S] using this
  (have hd:((l[j].toNat:Int)-48)%256=(dig l[j]:Int):=by unfold dig;omega);(have hdl:dig l[j]<10:=by unfold dig;omega);obtain⟨ys,h1,h2,h3,h4⟩:=ih (out++[(dig l[j]:Int)]) (by omega) (ho.append (InB.mk ⟨by omega,by omega⟩ (InB.nil 10))) (by simp;omega);rw[List.length_append,List.length_singleton] at h4;refine⟨ys,Ev.step (f:=λk=>zaY.l0 k (S l) (out++[(dig l[j]:Int)]) ((j:Int)-1)) (λk=>?_) h1,h2,?_,by omega⟩
  ·simp only[zaY.l0];rw[show(((j+1:Nat):Int)-1)=(j:Int) by omega,if_pos (by omega),if_pos (by omega),if_pos (by rw[zas];omega),if_pos (by omega),hbt,hd,zaF (by omega) (by omega)]
  ·rw[h3,zeg,List.length_append,List.length_singleton,List.take_succ_eq_append_getElem (by omega),zcB,zd0,Int.toNat_natCast,show lv 10 []=0 from rfl,Nat.pow_succ];generalize 10^out.length=T;have e1:=Nat.mul_add T (10*val (List.take j l)) (dig l[j]);(have e2:T*10*val (List.take j l)=T*(10*val (List.take j l)):=by rw[Nat.mul_assoc]);rw[Nat.mul_zero,Nat.add_zero];omega
theorem zle(z:Nat):lv 10 (List.replicate z (0:Int))=0:=by
 induction z with
 |zero=>rfl
 |succ z ih=>rw[List.replicate_succ,zd0,ih];rfl
theorem zeN{l:List UInt8}(hl:AllD l)(z:Nat)(h:z+l.length<=100000): ∃ys,Ev (λk=>zaY.f k (S l) (z:Int)) ys/\Nm (val l*10^z) (z+l.length) ys:=by
 obtain⟨ys,h1,h2,h3,h4⟩:=zld hl l.length (List.replicate z (0:Int)) (Nat.le_refl _) (λx hx=>by rw[(List.mem_replicate.1 hx).2];omega) (by rw[List.length_replicate];omega);rw[List.length_replicate] at h3 h4;refine⟨ys,?_,h2,by rw[h3,zle,List.take_of_length_le (Nat.le_refl _),Nat.zero_add,Nat.mul_comm],h4⟩;unfold zaY.f;refine Ev.congr (λk=>?_) h1;rw[if_pos (by omega),Int.toNat_natCast,if_pos (by omega),zas,zaF (by omega) (by omega)]
def Tab(n K:Nat)(tabs:List (List Int)):Prop:= ∀i:Nat,i<tabs.length->Nm (n*2^i) (K+i) (zb3 tabs (i:Int))
theorem zhy(tabs:List (List Int))(y:List Int)(i:Nat)(h:i<tabs.length+1):zb3 (tabs++[y]) (i:Int)=if i<tabs.length then zb3 tabs (i:Int) else y:=by
 unfold zb3;rw[Int.toNat_natCast,List.getD_eq_getElem?_getD,List.getD_eq_getElem?_getD];by_cases c:i<tabs.length
 ·rw[if_pos c,List.getElem?_append_left c]
 ·rw[if_neg c];(obtain rfl:i=tabs.length:=by omega);simp
theorem Tab.snoc{n K:Nat}{tabs:List (List Int)}{y:List Int}(h:Tab n K tabs)(hy:Nm (n*2^tabs.length) (K+tabs.length) y):Tab n K (tabs++[y]):=by
 intro i hi;rw[List.length_append,List.length_singleton] at hi;rw[zhy tabs y i hi];by_cases c:i<tabs.length
 ·rw[if_pos c];exact h i c
 ·rw[if_neg c];(obtain rfl:i=tabs.length:=by omega);exact hy
theorem zj4{n K':Nat}{tabs:List (List Int)}(ht:Tab n K' tabs)(hn:0<n)(hK':K'<=100000): ∀(j:Nat) (m K q:Nat) (xs:List Int),j<=tabs.length->j<=60->Nm m K xs->K<=100000->m<n*2^j->q*2^j+m / n<=9007199254740992->
 ∃ys,Ev (λk=>zaM.l1 k xs tabs (q:Int) ((j:Int)-1)) (((q*2^j+m / n:Nat):Int),ys)/\Nm (m%n) K ys:=by
 intro j;induction j with
 |zero=>
  intro m K q xs _ _ hx _ hm _;rw[Nat.pow_zero,Nat.mul_one] at hm;refine⟨xs,Ev.step (f:=λ_=>some ((q:Int),xs)) (λk=>?_) ?_,by rw[Nat.mod_eq_of_lt hm];exact hx⟩
  ·simp only[zaM.l1];rw[if_neg (by omega)]
  ·rw[Nat.div_eq_of_lt hm];simp;exact Ev.now _
 |succ j ih=>
  intro m K q xs hjt hj hx hK hm hq;have hT:=ht j (by omega);(have e2:q*2^(j+1)=2*q*2^j:=by rw[Nat.pow_succ,Nat.mul_comm 2 q,Nat.mul_assoc,Nat.mul_comm 2]);have hpos:0<2^j:=Nat.pow_pos (by omega);have A:2*q<=2*q*2^j:=Nat.le_mul_of_pos_right _ hpos;rw[e2] at hq;have B:2*q<=9007199254740992:=Nat.le_trans A (Nat.le_trans (Nat.le_add_right _ _) hq);have hl:=zdZ hx hT (by omega) (by omega);by_cases c:m<n*2^j
  ·obtain⟨ys,h1,h2⟩:=ih m K (2*q) xs (by omega) (by omega) hx hK c (by omega);refine⟨ys,?_,h2⟩;rw[e2];rw[decide_eq_true c] at hl;refine Ev.step (f:=λk=>(zax.f k xs (zb3 tabs (j:Int))).bind λt=>if t=true then zaM.l1 k xs tabs ((2*q:Nat):Int) ((j:Int)-1) else(zaU.f k xs (zb3 tabs (j:Int))).bind λt2=>zaM.l1 k t2 tabs ((2*q+1:Nat):Int) ((j:Int)-1)) (λk=>?_) (Ev.bind hl (eP rfl h1));simp only[zaM.l1];rw[show(((j+1:Nat):Int)-1)=(j:Int) by omega,if_pos (by omega),if_pos (by omega),if_pos (by omega),show(2:Int)*(q:Int)=((2*q:Nat):Int) by omega,u64N (2*q) (by omega),show(((2*q:Nat):Int)+1)=((2*q+1:Nat):Int) by omega,u64N (2*q+1) (by omega),zaF (by omega) (by omega)]
  ·have hge:n*2^j<=m:=Nat.le_of_not_lt c;have e3:(m-n*2^j) / n=m / n-2^j:=Nat.sub_mul_div m n (2^j);have e4:2^j<=m / n:=(Nat.le_div_iff_mul_le hn).2 (by rw[Nat.mul_comm];exact hge);have e5:(m-n*2^j)%n=m%n:=by
    obtain⟨u,rfl⟩: ∃u,m=n*2^j+u:=⟨m-n*2^j,by omega⟩;rw[Nat.add_sub_cancel_left,Nat.mul_add_mod]
   have e6:m-n*2^j<n*2^j:=by
    rw[Nat.pow_succ,<-Nat.mul_assoc] at hm;omega
   (have e7:(2*q+1)*2^j=2*q*2^j+2^j:=by rw[Nat.add_mul,Nat.one_mul]);obtain⟨zs,g1,g2⟩:=zlc hx hT hge (by omega);obtain⟨ys,h1,h2⟩:=ih (m-n*2^j) K (2*q+1) zs (by omega) (by omega) g2 hK e6 (by rw[e3,e7];omega);rw[e5] at h2;rw[e3,e7,show 2*q*2^j+2^j+(m / n-2^j)=2*q*2^j+m / n by omega] at h1;refine⟨ys,?_,h2⟩;rw[e2];rw[decide_eq_false c] at hl;refine Ev.step (f:=λk=>(zax.f k xs (zb3 tabs (j:Int))).bind λt=>if t=true then zaM.l1 k xs tabs ((2*q:Nat):Int) ((j:Int)-1) else(zaU.f k xs (zb3 tabs (j:Int))).bind λt2=>zaM.l1 k t2 tabs ((2*q+1:Nat):Int) ((j:Int)-1)) (λk=>?_) (Ev.bind hl (eN (by decide) (Ev.bind g1 h1)));simp only[zaM.l1];rw[show(((j+1:Nat):Int)-1)=(j:Int) by omega,if_pos (by omega),if_pos (by omega),if_pos (by omega),show(2:Int)*(q:Int)=((2*q:Nat):Int) by omega,u64N (2*q) (by omega),show(((2*q:Nat):Int)+1)=((2*q+1:Nat):Int) by omega,u64N (2*q+1) (by omega),zaF (by omega) (by omega)]
theorem zj5{m n K K':Nat}{xs:List Int}(bits:Nat)(hx:Nm m K xs)(hn:0<n)(hK:K<=10000)(hK':K'<=10000)(A:1<=bits)(B:bits<=53+1)(hm:m<n*2^bits)(hq:m / n<=9007199254740992):
 ∀(d:Nat) (tabs:List (List Int)),tabs.length+d=bits->1<=tabs.length->Tab n K' tabs->
 ∃ys,Ev (λk=>zaM.l0 k xs (bits:Int) tabs (tabs.length:Int)) (((m / n:Nat):Int),ys)/\Nm (m%n) K ys:=by
 intro d;induction d with
 |zero=>
  intro tabs hd h1 ht;obtain⟨ys,g1,g2⟩:=zj4 ht hn (by omega) bits m K 0 xs (by omega) (by omega) hx (by omega) hm (by omega);rw[Nat.zero_mul,Nat.zero_add] at g1;refine⟨ys,Ev.step (f:=λk=>zaM.l1 k xs tabs 0 ((bits:Int)-1)) (λk=>?_) g1,g2⟩;simp only[zaM.l0];rw[if_neg (by omega),zaF (x:=(bits:Int)-1) (by omega) (by omega)]
 |succ d ih=>
  intro tabs hd h1 ht;obtain⟨i,hi⟩: ∃i,tabs.length=i+1:=⟨tabs.length-1,by omega⟩;have hl:=ht i (by omega);obtain⟨y,y1,y2⟩:=zdn hl (by omega);have hy:Nm (n*2^tabs.length) (K'+tabs.length) y:=by
   rw[hi,Nat.pow_succ,<-Nat.mul_assoc,Nat.mul_comm _ 2];exact y2
  obtain⟨ys,g1,g2⟩:=ih (tabs++[y]) (by simp;omega) (by simp) (ht.snoc hy);refine⟨ys,Ev.step (f:=λk=>(zaz.f k (zb3 tabs (i:Int)) 2).bind λt=>zaM.l0 k xs (bits:Int) (tabs++[t]) (((tabs++[y]).length:Nat):Int)) (λk=>?_) (Ev.bind y1 g1),g2⟩;simp only[zaM.l0];(have e1:wrap64 ((tabs.length:Int)-1)=(i:Int):=by rw[zaF (by omega) (by omega)];omega);(have e2:wrap64 ((tabs.length:Int)+1)=(((tabs++[y]).length:Nat):Int):=by rw[zaF (by omega) (by omega)];simp);rw[if_pos (by omega),e1,e2,if_pos (by omega),if_pos (by omega)];simp only[if_pos (show tabs.length<5864062014805 by omega)]
theorem zj6{m n K K':Nat}{xs ys:List Int}(bits:Nat)(hx:Nm m K xs)(hy:Nm n K' ys)(hn:0<n)(hK:K<=10000)(hK':K'<=10000)(A:1<=bits)(B:bits<=53+1)(hm:m<n*2^bits)(hq:m / n<=9007199254740992):
 ∃zs,Ev (λk=>zaM.f k xs ys (bits:Int)) (((m / n:Nat):Int),zs)/\Nm (m%n) K zs:=by
 refine zj5 bits hx hn hK hK' A B hm hq (bits-1) [ys] (by simp;omega) (by simp) ?_;intro i hi;(obtain rfl:i=0:=by simpa using hi);simpa [zb3] using hy
theorem zez(wide:Bool):23<=ff wide/\ff wide<=52:=by cases wide<;>simp[ff]
theorem zhz(wide:Bool)(k m:Nat)(hk:k<=3000)(hm:m<2^(ff wide+1)):
 Ev (λn=>zad.j8 n (ff wide:Int) (-(ll wide:Int)) (ii wide:Int) ((k:Int)-(ll wide:Int)) (m:Int)) ((if m<2^ff wide then(m:Int) else((min (ii wide) (k*2^ff wide+m):Nat):Int)),0):=by
 obtain⟨A,-,-,hP,-⟩:=zfo wide;have hf:=zez wide;have hl:=zdL wide;have hi:=zeh wide;have hpw:=zdH (ff wide) (by omega);refine Ev.step (λn=>by simp only[zad.j8];rfl) ?_;refine Ev.bind hpw ?_;rw[Nat.pow_succ] at hm;by_cases c:m<2^ff wide
 ·rw[if_pos c];refine Ev.congr (λn=>if_pos (by omega)) (Ev.now _)
 ·rw[if_neg c];refine Ev.congr (λn=>if_neg (by omega)) ?_;refine Ev.bind hpw ?_;refine Ev.bind hpw ?_;have hkP:k*2^ff wide<=3000*4503599627370496:=Nat.mul_le_mul hk hP;have e1:wrap64 (wrap64 ((k:Int)-(ll wide:Int)- -(ll wide:Int))+1)=((k+1:Nat):Int):=by
   rw[zaF (x:=(k:Int)-(ll wide:Int)- -(ll wide:Int)) (by omega) (by omega),zaF (by omega) (by omega)];omega
  (have e2:(k+1)*2^ff wide=k*2^ff wide+2^ff wide:=by rw[Nat.add_mul,Nat.one_mul]);rw[e1];generalize 2^ff wide=P at*
  (have e3:((k+1:Nat):Int)*(P:Int)=(((k+1)*P:Nat):Int):=by simp);rw[u64N (k+1) (by omega),e3,e2];generalize k*P=Q at*
  rw[u64N (Q+P) (by omega),show(((Q+P:Nat):Int)+(m:Int))=((Q+P+m:Nat):Int) by omega,u64N (Q+P+m) (by omega),show(((Q+P+m:Nat):Int)-(P:Int))=((Q+m:Nat):Int) by omega,u64N (Q+m) (by omega)];refine Ev.congr (λn=>?_) (Ev.now _);by_cases c2:ii wide<Q+m
  ·rw[if_pos (by omega),Nat.min_eq_left (by omega)]
  ·rw[if_neg (by omega),Nat.min_eq_right (by omega)]
theorem zmm(wide:Bool):2^ff wide<=ii wide:=by cases wide<;>decide
theorem zhA(wide:Bool)(k m:Nat)(hk:k<=2900)(hm:m<=2^(ff wide+1))(h:2^ff wide<=m\/k=0):
 Ev (λn=>zad.j7 n (ff wide:Int) (-(ll wide:Int)) (ii wide:Int) ((k:Int)-(ll wide:Int)) (m:Int)) (((min (ii wide) (k*2^ff wide+m):Nat):Int),0):=by
 obtain⟨B,-,-,hP,-⟩:=zfo wide;have hf:=zez wide;have hl:=zdL wide;have hPi:=zmm wide;refine Ev.step (λn=>by simp only[zad.j7];rfl) ?_;rw[show wrap64 ((ff wide:Int)+1)=((ff wide+1:Nat):Int) by rw[zaF (by omega) (by omega)];omega];refine Ev.bind (zdH (ff wide+1) (by omega)) ?_;by_cases c:m=2^(ff wide+1)
 ·refine Ev.congr (λn=>if_pos (by omega)) ?_;(have e1:wrap64 ((k:Int)-(ll wide:Int)+1)=((k+1:Nat):Int)-(ll wide:Int):=by rw[zaF (by omega) (by omega)];omega);(have e2:m / 2=2^ff wide:=by rw[c,Nat.pow_succ];omega);rw[e1,show(2:Int)=((2:Nat):Int) from rfl,tdivN,e2,u64N _ (by omega)];have:=zhz wide (k+1) (2^ff wide) (by omega) (by rw[Nat.pow_succ];omega);rw[if_neg (Nat.lt_irrefl _)] at this;rw[c,Nat.pow_succ];rw[Nat.add_mul,Nat.one_mul] at this;rw[show k*2^ff wide+2^ff wide*2=k*2^ff wide+2^ff wide+2^ff wide by omega];exact this
 ·refine Ev.congr (λn=>if_neg (by omega)) ?_;have:=zhz wide k m (by omega) (by omega);by_cases c2:m<2^ff wide
  ·rw[if_pos c2] at this;have A:k=0:=h.resolve_left (by omega);rw[A,Nat.zero_mul,Nat.zero_add,Nat.min_eq_right (by omega)];rw[A] at this;exact this
  ·rw[if_neg c2] at this;exact this
theorem zhB(wide:Bool){a b k K K' X:Nat}{xs ys:List Int}(hx:Nm a K xs)(hy:Nm b K' ys)(hK:K<=9000)(hK':K'<=9000)(hb:0<b)(hk:k<=2900)
 (hlt:a<b*2^(ff wide+1)) (hge:k=0\/b*2^ff wide<=a) (hE:a*2^k*(2*CC)=X*b):
 Ev (λn=>zad.j5 n (ff wide:Int) (-(ll wide:Int)) (ii wide:Int) xs ys ((k:Int)-(ll wide:Int))) ((rdX wide X:Int),0):=by
 have hf:=zez wide;have hC:=zey;have hat:=λp=> @ziX wide X p;have hbg:= @zj1 wide X;generalize CC=C at*
 obtain⟨J,-,-,hP,-⟩:=zfo wide;have E:a / b<2^(ff wide+1):=(Nat.div_lt_iff_lt_mul hb).2 (by rw[Nat.mul_comm];exact hlt);have A:2^ff wide<=a / b\/k=0:=hge.symm.imp (λh=>(Nat.le_div_iff_mul_le hb).2 (by rw[Nat.mul_comm];exact h)) id;(have M:2^(ff wide+1)<=9007199254740992:=by rw[Nat.pow_succ];omega);have hw:wrap64 ((ff wide:Int)+2)=((ff wide+2:Nat):Int):=by rw[zaF (by omega) (by omega)];omega
 obtain⟨zs,d1,d2⟩:=zj6 (ff wide+2) hx hy hb (Nat.le_trans hK (by decide)) (Nat.le_trans hK' (by decide)) (Nat.le_add_left 1 _) (Nat.add_le_add_right hf.2 2) (by
  have:2^(ff wide+1)<=2^(ff wide+2):=Nat.pow_le_pow_right (by omega) (by omega)
  exact Nat.lt_of_lt_of_le hlt (Nat.mul_le_mul_left _ this)) (by omega)
 obtain⟨ts,t1,t2⟩:=zdn d2 (by omega);have hdm:=Nat.div_add_mod a b;have hml:=Nat.mod_lt a hb
 -- the floor
 obtain⟨m,hmm⟩: ∃m,a / b=m:=⟨_,rfl⟩;obtain⟨r,hrr⟩: ∃r,a%b=r:=⟨_,rfl⟩;rw[hmm] at E A d1 hdm;rw[hrr] at t2 hdm hml;have w0:fW (ff wide) (k*2^ff wide+m)=m*2^k:=zg4 (by omega) A;(have w1:fW (ff wide) (k*2^ff wide+m+1)=(m+1)*2^k:=by rw[Nat.add_assoc];exact zg4 (by omega) (A.imp (λh=>by omega) id));have I:0<2^k:=Nat.pow_pos (by omega)
 -- everything times b, in multiples of T = 2^k C
 obtain⟨T,hT⟩: ∃T,2^k*C=T:=⟨_,rfl⟩;(have B:0<T:=by rw[<-hT];exact Nat.mul_pos I hC);(have hXb:X*b=2*a*T:=by rw[<-hE,<-hT];simp only[Nat.mul_assoc,Nat.mul_comm,Nat.mul_left_comm]);(have f0:m*2^k*(2*C)=2*m*T:=by rw[<-hT];simp only[Nat.mul_assoc,Nat.mul_comm,Nat.mul_left_comm]);(have f1:(m+1)*2^k*(2*C)=2*(m+1)*T:=by rw[<-hT];simp only[Nat.mul_assoc,Nat.mul_comm,Nat.mul_left_comm]);have f2:(m*2^k+(m+1)*2^k)*C=(2*m+1)*T:=by
  rw[<-hT,<-Nat.add_mul,show m+(m+1)=2*m+1 by omega];simp only[Nat.mul_assoc]
 have le_b: ∀u:Nat,u*T<=X↔u*b<=2*a:=by
  intro u;rw[<-Nat.mul_le_mul_right_iff hb,hXb,show u*T*b=u*b*T by rw[Nat.mul_assoc,Nat.mul_comm T,Nat.mul_assoc],Nat.mul_le_mul_right_iff B]
 (have g0:m*2^k*(2*C)<=X:=by rw[f0,le_b,Nat.mul_assoc,Nat.mul_comm m b];omega);have g1:X<(m+1)*2^k*(2*C):=by
  rw[f1];refine Nat.lt_of_not_le λh=>?_;have:=(le_b _).1 h;rw[Nat.mul_assoc,Nat.add_mul,Nat.one_mul,Nat.mul_comm m b] at this;omega
 have up_lt:(m*2^k+(m+1)*2^k)*C<X↔b<2*r:=by
  have h1:=le_b (2*m+1);(have e:(2*m+1)*b=2*(b*m)+b:=by rw[Nat.add_mul,Nat.one_mul,Nat.mul_assoc,Nat.mul_comm m b]);rw[f2];constructor
  ·intro h;have h3:(2*m+1)*b≠2*a:=by
    intro e2;(have:(2*m+1)*T*b=X*b:=by rw[hXb,<-e2,Nat.mul_assoc,Nat.mul_comm T,Nat.mul_assoc]);have:=Nat.eq_of_mul_eq_mul_right hb this;omega
   have h2:=h1.1 (Nat.le_of_lt h);omega
  ·intro h;refine Nat.lt_of_le_of_ne (h1.2 (by omega)) λe2=>?_;(have:(2*m+1)*T*b=X*b:=by rw[e2]);rw[hXb,show(2*m+1)*T*b=(2*m+1)*b*T by rw[Nat.mul_assoc,Nat.mul_comm T,Nat.mul_assoc]] at this;have:=Nat.eq_of_mul_eq_mul_right B this;omega
 have zg8:X=(m*2^k+(m+1)*2^k)*C↔b=2*r:=by
  (have e:(2*m+1)*b=2*(b*m)+b:=by rw[Nat.add_mul,Nat.one_mul,Nat.mul_assoc,Nat.mul_comm m b]);rw[f2];constructor
  ·intro h;(have:(2*m+1)*T*b=X*b:=by rw[h]);rw[hXb,show(2*m+1)*T*b=(2*m+1)*b*T by rw[Nat.mul_assoc,Nat.mul_comm T,Nat.mul_assoc]] at this;have:=Nat.eq_of_mul_eq_mul_right B this;omega
  ·intro h;(have:X*b=(2*m+1)*T*b:=by rw[hXb,show(2*m+1)*T*b=(2*m+1)*b*T by rw[Nat.mul_assoc,Nat.mul_comm T,Nat.mul_assoc]];congr 1;omega);exact Nat.eq_of_mul_eq_mul_right hb this
 -- what is read
 have hread:(rdX wide X:Nat)=min (ii wide) (k*2^ff wide+if b<2*r\/(b=2*r/\m%2=1) then m+1 else m):=by
  by_cases c:k*2^ff wide+m<ii wide
  ·have hfl:fFloor (ff wide) (ii wide) X (2*C) (k*2^ff wide+m):=⟨by omega,by rw[w0];exact g0,λ_=>by rw[w1];exact g1⟩;have hpar:(k*2^ff wide+m)%2=m%2:=by
    obtain⟨u,hu⟩: ∃u,ff wide=u+1:=⟨ff wide-1,(Nat.sub_add_cancel (Nat.le_trans (by decide) hf.1)).symm⟩;rw[hu,Nat.pow_succ,<-Nat.mul_assoc];omega
   rw[hat _ hfl,if_neg (by omega),w0,w1,hpar];by_cases c2:b<2*r\/(b=2*r/\m%2=1)
   ·rw[if_pos (c2.imp up_lt.2 (λh=>⟨zg8.2 h.1,h.2⟩)),if_pos c2,Nat.min_eq_right (by omega)];rfl
   ·rw[if_neg (λh=>c2 (h.imp up_lt.1 (λh=>⟨zg8.1 h.1,h.2⟩))),if_neg c2,Nat.min_eq_right (by omega)]
  ·have hbig:fW (ff wide) (ii wide)*(2*C)<=X:=Nat.le_trans (Nat.mul_le_mul_right _ (zg6 (Nat.le_of_not_lt c))) (by rw[w0];exact g0);rw[hbg hbig,Nat.min_eq_left];split<;>omega
 rw[hread]
 -- the code
 refine Ev.step (λn=>by simp only[zad.j5];rfl) ?_;rw[hw];refine Ev.bind d1 ?_;refine Ev.bind t1 ?_;have l1:=zdZ hy t2 (by omega) (by omega);have l2:=zdZ t2 hy (by omega) (by omega);refine Ev.bind l1 ?_;have D: ∀t:Bool,Ev (λn=>zad.j6 n (ff wide:Int) (-(ll wide:Int)) (ii wide:Int) ((k:Int)-(ll wide:Int)) (m:Int) t) (((min (ii wide) (k*2^ff wide+if t=true then m+1 else m):Nat):Int),0):=by
  intro t;refine Ev.step (λn=>by simp only[zad.j6];rfl) ?_;cases t
  ·refine Ev.congr (λn=>if_neg (by decide)) ?_;rw[if_neg (by decide)];exact zhA wide k m hk (by omega) A
  ·refine Ev.congr (λn=>if_pos rfl) ?_;rw[if_pos rfl,show((m:Int)+1)=((m+1:Nat):Int) by omega,u64N (m+1) (by omega)];exact zhA wide k (m+1) hk (by omega) (A.imp (λh=>by omega) id)
 by_cases c1:b<2*r
 ·refine Ev.congr (λn=>if_pos (decide_eq_true c1)) ?_;have:=D true;rw[if_pos rfl] at this;rw[if_pos (.inl c1)];exact this
 ·refine Ev.congr (λn=>if_neg (by rw[decide_eq_false c1];decide)) ?_;refine Ev.bind l2 ?_;by_cases c2:2*r<b
  ·refine Ev.congr (λn=>if_pos (decide_eq_true c2)) ?_;have:=D false;rw[if_neg (by decide)] at this;rw[if_neg (by omega)];exact this
  ·refine Ev.congr (λn=>if_neg (by rw[decide_eq_false c2];decide)) ?_;have:=D (m%2==1:Bool);rw[show(2:Int)=((2:Nat):Int) from rfl,tmodN,zhm wide];have e:(if b<2*r\/(b=2*r/\m%2=1) then m+1 else m)=if(m%2==1:Bool)=true then m+1 else m:=by
    by_cases c3:m%2=1
    ·rw[if_pos (.inr ⟨by omega,c3⟩),if_pos (by simpa using c3)]
    ·rw[if_neg (by omega),if_neg (by simpa using c3)]
   rw[e];exact this
theorem znh(k L:Nat)(hk:k+1<=2900)(hL:L<=1074):wrap64 (((k+1:Nat):Int)-(L:Int)-1)=(k:Int)-(L:Int):=by
 rw[zaF (by omega) (by omega)];omega
theorem znF(k L:Nat):(((k+1:Nat):Int)-(L:Int))> -(L:Int):=by omega
theorem zni(k L:Nat)(hk:k<=2900)(hL:L<=1074):wrap64 ((k:Int)-(L:Int)+1)=((k+1:Nat):Int)-(L:Int):=by
 rw[zaF (by omega) (by omega)];omega
theorem znG(i f:Nat)(h:i<=f)(hf:f<=52):wrap64 ((i:Int)+1)=((i+1:Nat):Int):=by
 rw[zaF (by omega) (by omega)];omega
theorem znH(K D:Nat)(h:K+60+D<=9000):K+D<=9000:=by omega
theorem znj(K D f:Nat)(h:K+60+D<=9000)(hf:f<=52):K+(f+1)+D<=9000:=by omega
theorem znk(K D i f:Nat)(h:K+60+D<=9000)(hf:f<=52)(hi:i<=f):K+i<=50000:=by omega
theorem znI(i d f:Nat)(h:i+(d+1)=f+1):i<=f/\i+1+d=f+1:=by omega
theorem zir(i f:Nat):(i<=f->(i:Int)<=(f:Int))/\ ¬(((f+1:Nat):Int)<=(f:Int)):=by omega
theorem zj7{a b k X C:Nat}(h:a*2^(k+1)*(2*C)=X*b):2*a*2^k*(2*C)=X*b:=by
 rw[<-h,Nat.pow_succ];simp only[Nat.mul_assoc,Nat.mul_comm,Nat.mul_left_comm]
theorem zmn{a b k X C:Nat}(h:a*2^k*(2*C)=X*b):a*2^(k+1)*(2*C)=X*(2*b):=by
 (have:X*(2*b)=2*(X*b):=by simp only[Nat.mul_assoc,Nat.mul_comm,Nat.mul_left_comm]);rw[this,<-h,Nat.pow_succ];simp only[Nat.mul_assoc,Nat.mul_comm,Nat.mul_left_comm]
theorem zhC(wide:Bool){b K' K2 X:Nat}{ys zs:List Int}(hy:Nm b K' ys)(hK':K'<=9000)(hz:Nm (b*2^(ff wide+1)) K2 zs)(A:K2<=9000)(hb:0<b):
 ∀(k a K:Nat) (xs:List Int),Nm a K xs->K+k<=9000->k<=2900->a<b*2^(ff wide+1)->a*2^k*(2*CC)=X*b->
 Ev (λn=>zad.l2 n (ff wide:Int) (-(ll wide:Int)) (ii wide:Int) xs ys zs ((k:Int)-(ll wide:Int))) ((rdX wide X:Int),0):=by
 have hl:=zdL wide;intro k;induction k with
 |zero=>
  intro a K xs hx hK hk hlt hE;refine Ev.step (f:=λn=>zad.j5 n (ff wide:Int) (-(ll wide:Int)) (ii wide:Int) xs ys (((0:Nat):Int)-(ll wide:Int))) (λn=>?_) (zhB wide hx hy hK hK' hb hk hlt (.inl rfl) hE);simp only[zad.l2];rw[if_neg (by omega)]
 |succ k ih=>
  intro a K xs hx hK hk hlt hE;obtain⟨ts,t1,t2⟩:=zdn hx (Nat.le_trans (Nat.le_add_right K (k+1)) (Nat.le_trans hK (by decide)));have hl:=zdZ t2 hz (Nat.le_trans (show K+1<=9000 from Nat.le_trans (Nat.add_le_add_left (Nat.le_add_left 1 k) K) hK) (by decide)) (Nat.le_trans A (by decide));have hw:=znh k (ll wide) hk (zdL wide).2;have hcond:=znF k (ll wide);refine Ev.step (f:=λn=>(zaz.f n xs 2).bind λt=>(zax.f n t zs).bind λc=>if c=true then zad.l2 n (ff wide:Int) (-(ll wide:Int)) (ii wide:Int) t ys zs ((k:Int)-(ll wide:Int)) else zad.j5 n (ff wide:Int) (-(ll wide:Int)) (ii wide:Int) xs ys (((k+1:Nat):Int)-(ll wide:Int))) (λn=>?_) ?_
  ·simp only[zad.l2];rw[if_pos hcond,hw]
  ·refine Ev.bind t1 ?_;refine Ev.bind hl ?_;by_cases c:2*a<b*2^(ff wide+1)
   ·refine Ev.congr (λn=>if_pos (decide_eq_true c)) ?_;exact ih (2*a) (K+1) ts t2 (by rw[Nat.add_assoc,Nat.add_comm 1 k];exact hK) (Nat.le_trans (Nat.le_succ k) hk) c (zj7 hE)
   ·refine Ev.congr (λn=>if_neg (by rw[decide_eq_false c];decide)) ?_;refine zhB wide hx hy (Nat.le_trans (Nat.le_add_right K (k+1)) hK) hK' hb hk hlt (.inr ?_) hE;have h3:=Nat.le_of_not_lt c;rw[Nat.pow_succ,<-Nat.mul_assoc,Nat.mul_comm _ 2] at h3;exact Nat.le_of_mul_le_mul_left h3 (by decide)
theorem zlf(wide:Bool){a K X:Nat}{xs:List Int}(hx:Nm a K xs)(hK:K<=5000):
 ∀(d k b K' K2:Nat) (ys zs:List Int),Nm b K' ys->K'+d<=9000->Nm (b*2^(ff wide+1)) K2 zs->K2+d<=9000->0<b->k+d<=2900->a<b*2^(ff wide+1)*2^d->a*2^k*(2*CC)=X*b->
 Ev (λn=>zad.l1 n (ff wide:Int) (-(ll wide:Int)) (ii wide:Int) xs ys zs ((k:Int)-(ll wide:Int))) ((rdX wide X:Int),0):=by
 intro d;induction d with
 |zero=>
  intro k b K' K2 ys zs hy hK' hz A hb hk hlt hE;rw[Nat.pow_zero,Nat.mul_one] at hlt;have hl:=zdZ hx hz (Nat.le_trans hK (by decide)) (Nat.le_trans A (by decide));rw[decide_eq_true hlt] at hl;refine Ev.step (λn=>by simp only[zad.l1];rfl) ?_;refine Ev.bind hl ?_;refine Ev.congr (λn=>if_pos rfl) ?_;exact zhC wide hy hK' hz A hb k a K xs hx (Nat.le_trans (Nat.add_le_add hK hk) (by decide)) hk hlt hE
 |succ d ih=>
  intro k b K' K2 ys zs hy hK' hz A hb hk hlt hE;have hl:=zdZ hx hz (Nat.le_trans hK (by decide)) (Nat.le_trans (Nat.le_add_right K2 (d+1)) (Nat.le_trans A (by decide)));refine Ev.step (λn=>by simp only[zad.l1];rfl) ?_;refine Ev.bind hl ?_;by_cases c:a<b*2^(ff wide+1)
  ·refine Ev.congr (λn=>if_pos (decide_eq_true c)) ?_;exact zhC wide hy (Nat.le_trans (Nat.le_add_right K' (d+1)) hK') hz (Nat.le_trans (Nat.le_add_right K2 (d+1)) A) hb k a K xs hx (Nat.le_trans (Nat.add_le_add hK (Nat.le_trans (Nat.le_add_right k (d+1)) hk)) (by decide)) (Nat.le_trans (Nat.le_add_right k (d+1)) hk) c hE
  ·refine Ev.congr (λn=>if_neg (by rw[decide_eq_false c];decide)) ?_;obtain⟨ts,t1,t2⟩:=zdn hy (Nat.le_trans (Nat.le_add_right K' (d+1)) (Nat.le_trans hK' (by decide)));obtain⟨us,u1,u2⟩:=zdn hz (Nat.le_trans (Nat.le_add_right K2 (d+1)) (Nat.le_trans A (by decide)));rw[<-Nat.mul_assoc] at u2;refine Ev.bind t1 ?_;refine Ev.bind u1 ?_;have hw:=zni k (ll wide) (Nat.le_trans (Nat.le_add_right k (d+1)) hk) (zdL wide).2;rw[hw];refine ih (k+1) (2*b) (K'+1) (K2+1) ts us t2 (by rw[Nat.add_assoc,Nat.add_comm 1 d];exact hK') u2 (by rw[Nat.add_assoc,Nat.add_comm 1 d];exact A) (Nat.mul_pos (by decide) hb) (by rw[Nat.add_assoc,Nat.add_comm 1 d];exact hk) ?_ (zmn hE);rw[Nat.pow_succ 2 d,<-Nat.mul_assoc,Nat.mul_comm _ 2,<-Nat.mul_assoc,<-Nat.mul_assoc] at hlt;exact hlt
theorem zlg(wide:Bool){a b K K' X D:Nat}{xs ys:List Int}(hx:Nm a K xs)(hK:K<=5000)(hy:Nm b K' ys)(hb:0<b)(hD:K'+60+D<=9000)(hk:ll wide+D<=2900)
 (hlt:a<b*2^(ff wide+1)*2^D) (hE:a*2^ll wide*(2*CC)=X*b):
 ∀(d i:Nat) (zs:List Int),i+d=ff wide+1->Nm (b*2^i) (K'+i) zs->
 Ev (λn=>zad.l0 n (ff wide:Int) (-(ll wide:Int)) (ii wide:Int) xs ys zs (i:Int)) ((rdX wide X:Int),0):=by
 intro d;induction d with
 |zero=>
  intro i zs hi hz;have hf:=zez wide;obtain rfl:i=ff wide+1:=hi;have h1:=zlf wide hx hK D (ll wide) b K' (K'+(ff wide+1)) ys zs hy (znH _ _ hD) hz (znj _ _ _ hD hf.2) hb hk hlt hE;rw[Int.sub_self] at h1;refine Ev.step (λn=>?_) h1;simp only[zad.l0];rw[if_neg (zir 0 _).2]
 |succ d ih=>
  intro i zs hi hz;have hf:=zez wide;obtain⟨hif,A⟩:=znI _ _ _ hi;obtain⟨us,u1,u2⟩:=zdn hz (znk _ _ _ _ hD hf.2 hif);rw[show 2*(b*2^i)=b*2^(i+1) by rw[Nat.pow_succ,Nat.mul_comm 2,Nat.mul_assoc],Nat.add_assoc] at u2;have h1:=ih (i+1) us A u2;refine Ev.step (f:=λn=>(zaz.f n zs 2).bind λt=>zad.l0 n (ff wide:Int) (-(ll wide:Int)) (ii wide:Int) xs ys t ((i+1:Nat):Int)) (λn=>?_) (Ev.bind u1 h1);simp only[zad.l0];rw[if_pos ((zir _ _).1 hif),znG i _ hif hf.2]
theorem zhD(wide:Bool){a b K K' X D:Nat}{xs ys:List Int}(hx:Nm a K xs)(hK:K<=5000)(hy:Nm b K' ys)(hb:0<b)(hD:K'+60+D<=9000)(hk:ll wide+D<=2900)
 (hlt:a<b*2^(ff wide+1)*2^D) (hE:a*2^ll wide*(2*CC)=X*b):
 Ev (λn=>zad.j1 n (ff wide:Int) (-(ll wide:Int)) (ii wide:Int) xs ys) ((rdX wide X:Int),0):=by
 have h:=zlg wide hx hK hy hb hD hk hlt hE (ff wide+1) 0 ys (Nat.zero_add _) (by rw[Nat.pow_zero,Nat.mul_one];exact hy);refine Ev.step (λn=>?_) h;simp only[zad.j1,Option.bind_some,List.nil_append,List.length_nil,Nat.zero_add];have h3:ys.length<140737488355328:=Nat.lt_of_le_of_lt (Nat.le_trans hy.2.2 (Nat.le_trans (Nat.le_add_right K' (60+D)) (by rw[<-Nat.add_assoc];exact hD))) (by decide);rw[if_pos h3];rfl
theorem zis:(10:Nat)^400<=2^1329:=by decide+kernel
theorem zlh(wide:Bool){v n d T D:Nat}(hv:v<10^n)(hT:T=400)(hD:D=1329)(h:n<=d+T):v*10^0<1*10^d*2^(ff wide+1)*2^D:=by
 rw[Nat.pow_zero,Nat.mul_one,Nat.one_mul];(have h1:v<10^d*10^T:=by rw[<-Nat.pow_add];exact Nat.lt_of_lt_of_le hv (Nat.pow_le_pow_right (by decide) h));(have h2:10^T<=2^D:=by rw[hT,hD];exact zis);have h3:0<2^(ff wide+1):=Nat.pow_pos (by decide);have h4:10^d*10^T<=10^d*2^(ff wide+1)*2^D:=Nat.mul_le_mul (Nat.le_mul_of_pos_right _ h3) h2;exact Nat.lt_of_lt_of_le h1 h4
theorem zj8(wide:Bool){v n z T D:Nat}(hv:v<10^n)(hT:T=400)(hD:D=1329)(h:n+z<=T):v*10^z<1*10^0*2^(ff wide+1)*2^D:=by
 rw[Nat.pow_zero,Nat.mul_one,Nat.one_mul];have h1:v*10^z<10^T:=by
  refine Nat.lt_of_lt_of_le (Nat.mul_lt_mul_of_pos_right hv (Nat.pow_pos (by decide))) ?_;rw[<-Nat.pow_add];exact Nat.pow_le_pow_right (by decide) h
 (have h2:10^T<=2^D:=by rw[hT,hD];exact zis);have h3:0<2^(ff wide+1):=Nat.pow_pos (by decide);exact Nat.lt_of_lt_of_le h1 (Nat.le_trans h2 (Nat.le_mul_of_pos_left _ h3))
theorem zli(wide:Bool)(v z:Nat)(x:Int)(hx:x=(z:Int)):v*10^z*2^ll wide*(2*CC)=dX wide v x*(1*10^0):=by
 (have e:(x+(vv:Int)).toNat=z+vv:=by rw[hx];omega);unfold dX uu;rw[e,Nat.pow_zero,Nat.pow_add,Nat.pow_succ];unfold CC;generalize 10^vv=C;generalize 2^ll wide=L;simp only[Nat.mul_assoc,Nat.mul_comm,Nat.mul_left_comm,Nat.mul_one,Nat.one_mul]
theorem zlj(wide:Bool)(v d:Nat)(x:Int)(hx:x= -(d:Int))(hd:d<=vv):v*10^0*2^ll wide*(2*CC)=dX wide v x*(1*10^d):=by
 obtain⟨u,hu⟩: ∃u,vv=u+d:=⟨vv-d,by omega⟩;(have e:(x+(vv:Int)).toNat=u:=by rw[hx,hu];omega);unfold dX uu CC;rw[e,Nat.pow_zero,hu,Nat.pow_add,Nat.pow_succ];generalize 10^u=C;generalize 2^ll wide=L;simp only[Nat.mul_assoc,Nat.mul_comm,Nat.mul_left_comm,Nat.mul_one,Nat.one_mul]
theorem zhE:AllD [49]:=by
 intro c hc;(obtain rfl:c=49:=by simpa using hc);decide
theorem zit:val [49]=1:=rfl
theorem zhF(wide:Bool){l:List UInt8}{q:Int}(hf:InForm l q)(hlen:l.length<=2000)(A: -7000<=q)(B:q<=5000)(c:Bool)(hc:c=decide (l=[]\/q< -400)):
 Ev (λn=>zad.j0 n (ff wide:Int) (-(ll wide:Int)) (ii wide:Int) c (S l) q) ((rdX wide (dX wide (val l) (q-l.length)):Int),0):=by
 have hll:=zdL wide;obtain⟨D,hD⟩: ∃D:Nat,D=1329:=⟨_,rfl⟩;refine Ev.step (λn=>by simp only[zad.j0];rfl) ?_;by_cases c1:l=[]\/q< -400
 ·rw[hc,decide_eq_true c1];refine Ev.congr (λn=>if_pos rfl) ?_;have h0:dX wide (val l) (q-l.length)<=CC:=by
   by_cases c2:q< -400
   ·exact zmj wide hf c2 A hlen
   ·have e:=c1.resolve_right c2;unfold dX;rw[e,zbP,Nat.zero_mul,Nat.zero_mul];exact Nat.zero_le _
  rw[zmk wide h0];exact Ev.now _
 ·rw[hc,decide_eq_false c1];refine Ev.congr (λn=>if_neg (by decide)) ?_;(have E: -400<=q:=by omega);by_cases c2:q>400
  ·refine Ev.congr (λn=>if_pos c2) ?_;rw[zj1 wide (zng wide hf c2 hlen)];exact Ev.now _
  ·refine Ev.congr (λn=>if_neg c2) ?_;obtain⟨a0,a1,a2⟩:=zeN hf.1 0 (by omega);obtain⟨b0,b1,b2⟩:=zeN zhE 0 (by simp);refine Ev.bind a1 ?_;refine Ev.bind (g:=λn=>zaY.f n (⟨#[49]⟩:ByteArray) 0) b1 ?_;rw[zas];by_cases c3:(l.length:Int)<q
   ·refine Ev.congr (λn=>if_pos c3) ?_;obtain⟨z,hz⟩: ∃z:Nat,q-l.length=(z:Int):=⟨(q-l.length).toNat,by omega⟩;obtain⟨d0,d1,d2⟩:=zeN hf.1 z (by omega);rw[zaF (by omega) (by omega),hz];refine Ev.bind d1 ?_;rw[zit] at b2;exact zhD wide d2 (by omega) b2 (by decide) (D:=D) (by simp;omega) (by omega) (zj8 wide (zc2 hf.1) rfl hD (by omega)) (zli wide _ z _ rfl)
   ·refine Ev.congr (λn=>if_neg c3) ?_;obtain⟨d,hd⟩: ∃d:Nat,(l.length:Int)-q=(d:Int):=⟨((l.length:Int)-q).toNat,by omega⟩;obtain⟨d0,d1,d2⟩:=zeN zhE d (by simp;omega);rw[zaF (by omega) (by omega),hd];refine Ev.bind (g:=λn=>zaY.f n (⟨#[49]⟩:ByteArray) (d:Int)) d1 ?_;rw[zit] at d2;(have hx:q-l.length= -(d:Int):=by omega);rw[hx];have hv:=zdr;exact zhD wide a2 (by omega) d2 (by rw[Nat.one_mul];exact Nat.pow_pos (by decide)) (D:=D) (by simp;omega) (by omega) (zlh wide (zc2 hf.1) rfl hD (by omega)) (zlj wide _ d _ rfl (by omega))
theorem zhG(wide:Bool)(s:ByteArray)(p0:Int):Ev (λk=>zad.f k s p0 (szB wide)) (rdS wide s p0):=by
 obtain⟨E,I,hW,hP,-,hI,-⟩:=zfo wide;have hii:=zeh wide;unfold zad.f;rw[zfH,zfI];simp only[Option.bind_some,if_true];refine Ev.bind (zfA s p0) ?_;unfold rdS;rcases zcv s p0 with⟨e,h1,h2,_⟩|⟨l,q,h1,hf,hlen,A,B,_,_⟩
 ·rw[h1,if_neg h2];exact eN h2 (Ev.now _)
 ·rw[h1,if_pos rfl];refine eP rfl ?_;simp only[L_S];refine Ev.bind (zdH (ww wide) (zlC wide)) ?_;refine Ev.bind (zdH (ff wide) (Nat.le_trans (zg7 wide) (by decide))) ?_;have e1:IntKind.u64.wrap (IntKind.u64.wrap (((2^ww wide:Nat):Int)-1)*((2^ff wide:Nat):Int))=(ii wide:Int):=by
   have D:=hI;generalize 2^ww wide=W at*
   generalize 2^ff wide=P at*
   rw[show((W:Int)-1)=((W-1:Nat):Int) by omega,u64N (W-1) (by omega),show(((W-1:Nat):Int)*(P:Int))=(((W-1)*P:Nat):Int) by simp,<-D,u64N _ (by omega)]
  rw[e1];(have hSl:((S l).toList=([]:List UInt8))↔l=[]:=by rw[zbn,L_S]);by_cases c:l=[]
  ·refine eP (hSl.2 c) ?_;exact zhF wide hf hlen A B true (decide_eq_true (.inl c)).symm
  ·refine eN (λh=>c (hSl.1 h)) ?_;exact zhF wide hf hlen A B (decide (q< -400)) (decide_eq_decide.2 (by simp[c]))
def loX(wide:Bool)(p:Nat):Nat:=(fW (ff wide) (p-1)+fW (ff wide) p)*CC
def hiX(wide:Bool)(p:Nat):Nat:=(fW (ff wide) p+fW (ff wide) (p+1))*CC
def inX(wide:Bool)(p X:Nat):Prop:=(loX wide p<X/\X<hiX wide p)\/(p%2=0/\loX wide p<=X/\X<=hiX wide p)
theorem zep{u v C:Nat}(h:u<v)(hC:0<C):u*(2*C)<(u+v)*C/\(u+v)*C<v*(2*C):=by
 (have e1:u*(2*C)=u*C+u*C:=by rw[Nat.mul_left_comm];omega);(have e2:v*(2*C)=v*C+v*C:=by rw[Nat.mul_left_comm];omega);have h3:u*C<v*C:=Nat.mul_lt_mul_of_pos_right h hC;rw[e1,e2,Nat.add_mul];omega
theorem zmo(wide:Bool){p:Nat}(hp:0<p)(hi:p<ii wide)(X:Nat):inX wide p X↔rdX wide X=p:=by
 have hC:=zey;obtain⟨a,rfl⟩: ∃a,p=a+1:=⟨p-1,by omega⟩;have m1:=zep (zg5 (f:=ff wide) (Nat.lt_succ_self a)) hC;have m2:=zep (zg5 (f:=ff wide) (Nat.lt_succ_self (a+1))) hC;have hat:=λq=> @ziX wide X q;have hfl:=zeM wide X;have hun:=λq (h:fFloor (ff wide) (ii wide) X (2*CC) q)=>zdR (by omega) hfl h;unfold inX loX hiX;rw[Nat.add_sub_cancel];simp only[Nat.succ_eq_add_one] at m1 m2;constructor
 ·intro h;by_cases c:fW (ff wide) (a+1)*(2*CC)<=X
  ·have hf:fFloor (ff wide) (ii wide) X (2*CC) (a+1):=⟨by omega,c,λ_=>by omega⟩;rw[hat _ hf,if_neg (by omega),if_neg (by omega)]
  ·have hf:fFloor (ff wide) (ii wide) X (2*CC) a:=⟨by omega,by omega,λ_=>by omega⟩;rw[hat _ hf,if_neg (by omega),if_pos (by omega)]
 ·intro h;have hr:=hat _ hfl;rw[h] at hr;by_cases c1:flo wide X=ii wide
  ·rw[if_pos c1] at hr;omega
  ·rw[if_neg c1] at hr;obtain⟨g1,g2,g3⟩:=hfl;have A:=g3 (by omega);by_cases c2:X>(fW (ff wide) (flo wide X)+fW (ff wide) (flo wide X+1))*CC\/(X=(fW (ff wide) (flo wide X)+fW (ff wide) (flo wide X+1))*CC/\flo wide X%2=1)
   ·rw[if_pos c2] at hr;(have e:flo wide X=a:=by omega);rw[e] at c2 g2 A;omega
   ·rw[if_neg c2] at hr;(have e:flo wide X=a+1:=by omega);rw[e] at c2 g2 A;omega
theorem zmp{f p:Nat}(hp:0<p)(h:fM f p≠2^f\/fE f p=0):fE f (p-1)=fE f p:=by
 obtain⟨e1,e2⟩:=fOf f p;have hlt:=ziR f p;have h2:=zcZ f;by_cases c:fE f p=0
 ·rw[c,Nat.zero_mul,Nat.zero_add] at e1;have:=(fParts f 0 (p-1) (by omega) (.inr rfl)).2;rw[Nat.zero_mul,Nat.zero_add] at this;rw[this,c]
 ·have h3:=h.resolve_right c;have h4:=e2.resolve_right c;have:=(fParts f (fE f p) (fM f p-1) (by omega) (.inl (by omega))).2;rw[show fE f p*2^f+(fM f p-1)=p-1 by omega] at this;exact this
theorem zlk{f p:Nat}(h:fM f p=2^f)(h2:fE f p≠0):fE f (p-1)+1=fE f p:=by
 obtain⟨e1,e2⟩:=fOf f p;have hp:=zcZ f;obtain⟨k,hk⟩:=Nat.exists_eq_succ_of_ne_zero h2;rw[Nat.succ_eq_add_one] at hk;have:=(fParts f k (2^(f+1)-1) (by rw[Nat.pow_succ];omega) (.inl (by rw[Nat.pow_succ];omega))).2;rw[hk,h,Nat.add_mul,Nat.one_mul] at e1;rw[show k*2^f+(2^(f+1)-1)=p-1 by rw[Nat.pow_succ];omega] at this;rw[this,hk]
theorem ziu{f p:Nat}(hp:0<p):fW f (p-1)+2^fE f (p-1)=fW f p:=by
 have:=zfm f (p-1);rw[Nat.sub_add_cancel hp] at this;exact this.symm
theorem zhH{f p:Nat}(hp:0<p):0<fM f p:=by
 obtain⟨e1,e2⟩:=fOf f p;have h2:=zcZ f;rcases e2 with h|h
 ·omega
 ·rw[h,Nat.zero_mul,Nat.zero_add] at e1;omega
theorem znl(wide:Bool)(p n:Nat)(x:Int)(hx: -(vv:Int)<=x):
 cmpD (exD (2*fM (ff wide) p+1) ((fE (ff wide) p:Int)-(ll wide:Int)-1)).1 (exD (2*fM (ff wide) p+1) ((fE (ff wide) p:Int)-(ll wide:Int)-1)).2 (decOf n x).1 (decOf n x).2=cmpN (hiX wide p) (dX wide n x):=by
 unfold exD;rw[zej (2*fM (ff wide) p+1) n (uu wide) vv _ x (by unfold uu;omega) (by have:=zf5 wide;have:=zdr;unfold uu;omega) hx];unfold dX hiX;congr 1;(have e:((fE (ff wide) p:Int)-(ll wide:Int)-1+(uu wide:Int)).toNat=fE (ff wide) p:=by unfold uu;omega);rw[e,zfm];unfold fW CC;congr 1;rw[Nat.add_mul,Nat.one_mul,Nat.mul_assoc];omega
theorem zmq(wide:Bool){p:Nat}(hp:0<p)(h:fM (ff wide) p≠2^ff wide\/fE (ff wide) p=0)(n:Nat)(x:Int)(hx: -(vv:Int)<=x):
 cmpD (exD (2*fM (ff wide) p-1) ((fE (ff wide) p:Int)-(ll wide:Int)-1)).1 (exD (2*fM (ff wide) p-1) ((fE (ff wide) p:Int)-(ll wide:Int)-1)).2 (decOf n x).1 (decOf n x).2=cmpN (loX wide p) (dX wide n x):=by
 have h1:=ziu (f:=ff wide) hp;have h2:=zhH (f:=ff wide) hp;rw[zmp hp h] at h1;unfold exD;rw[zej (2*fM (ff wide) p-1) n (uu wide) vv _ x (by unfold uu;omega) (by have:=zf5 wide;have:=zdr;unfold uu;omega) hx];unfold dX loX;congr 1;(have e:((fE (ff wide) p:Int)-(ll wide:Int)-1+(uu wide:Int)).toNat=fE (ff wide) p:=by unfold uu;omega);rw[e];have h3:fW (ff wide) p=fM (ff wide) p*2^fE (ff wide) p:=rfl;have h4:(2*fM (ff wide) p-1)*2^fE (ff wide) p+2^fE (ff wide) p=2*(fM (ff wide) p*2^fE (ff wide) p):=by
  rw[<-Nat.succ_mul,<-Nat.mul_assoc];congr 1;omega
 unfold CC;congr 1;omega
theorem zmr(wide:Bool){p:Nat}(hp:0<p)(h:fM (ff wide) p=2^ff wide)(h0:fE (ff wide) p≠0)(n:Nat)(x:Int)(hx: -(vv:Int)<=x):
 cmpD (exD (4*fM (ff wide) p-1) ((fE (ff wide) p:Int)-(ll wide:Int)-2)).1 (exD (4*fM (ff wide) p-1) ((fE (ff wide) p:Int)-(ll wide:Int)-2)).2 (decOf n x).1 (decOf n x).2=cmpN (loX wide p) (dX wide n x):=by
 have h1:=ziu (f:=ff wide) hp;have h2:=zhH (f:=ff wide) hp;have h5:=zlk h h0;obtain⟨k,hk⟩: ∃k,fE (ff wide) (p-1)=k:=⟨_,rfl⟩;rw[hk] at h1 h5;unfold exD;rw[zej (4*fM (ff wide) p-1) n (uu wide) vv _ x (by unfold uu;omega) (by have:=zf5 wide;have:=zdr;unfold uu;omega) hx];unfold dX loX;congr 1;(have e:((fE (ff wide) p:Int)-(ll wide:Int)-2+(uu wide:Int)).toNat=k:=by unfold uu;omega);rw[e];(have h3:fW (ff wide) p=fM (ff wide) p*2^(k+1):=by rw[h5];rfl);have h4:(4*fM (ff wide) p-1)*2^k+2^k=2*(fM (ff wide) p*2^(k+1)):=by
  rw[<-Nat.succ_mul,Nat.pow_succ];rw[show(4*fM (ff wide) p-1).succ=4*fM (ff wide) p by omega];rw[Nat.mul_comm (2^k) 2,<-Nat.mul_assoc,<-Nat.mul_assoc];congr 1;omega
 unfold CC;congr 1;omega
theorem zms{lo hi d:List UInt8×Int}{L H X:Nat}(wide:Bool)(p:Nat)(ends:Bool)(he:ends=decide (p%2=0))(hL:L=loX wide p)(hH:H=hiX wide p)(f1:InForm lo.1 lo.2)(f2:InForm hi.1 hi.2)(f3:InForm d.1 d.2)
 (b1:lo.1.length<=2000/\ -5000<=lo.2/\lo.2<=5000) (b2:hi.1.length<=2000/\ -5000<=hi.2/\hi.2<=5000) (b3:d.1.length<=2000/\ -5000<=d.2/\d.2<=5000)
 (c1:cmpD lo.1 lo.2 d.1 d.2=cmpN L X) (c2:cmpD hi.1 hi.2 d.1 d.2=cmpN H X) (t:Bool) (ht:t=true↔inX wide p X):
 Ev (λk=>za3.f k (S lo.1) lo.2 (S hi.1) hi.2 ends (S d.1) d.2) t:=by
 have k1:=zj0 f3 f1 b3 b1;have k2:=zj0 f3 f2 b3 b2;rw[ze6,c1,<-zgN] at k1;rw[ze6,c2,<-zgN] at k2;unfold za3.f;refine Ev.bind k1 (Ev.bind k2 (Ev.congr (λk=>?_) (Ev.now _)));unfold inX at ht;rw[<-hL,<-hH] at ht;have p1:=zhw X L;have p2:=ze8 X L;have p3:=zhw X H;have p4:=ze8 X H;generalize cmpN X L=u at*
 generalize cmpN X H=v at*
 (have q1:u>=0↔L<=X:=by omega);(have q2:v<=0↔X<=H:=by omega);(have q3:v<0↔X<H:=by omega);(have hee:ends=true↔p%2=0:=by rw[he];exact decide_eq_true_iff);have key:(if u>0 then(if v<0 then some true else(if ends=true then(if u>=0 then some (decide (v<=0)) else some false) else some false)) else(if ends=true then(if u>=0 then some (decide (v<=0)) else some false) else some false))=some (decide ((u>0/\v<0)\/(ends=true/\u>=0/\v<=0))):=by
  by_cases a1:u>0
  ·rw[if_pos a1];by_cases a2:v<0
   ·rw[if_pos a2,decide_eq_true (.inl ⟨a1,a2⟩)]
   ·rw[if_neg a2];by_cases a3:ends=true
    ·rw[if_pos a3,if_pos (by omega)];congr 1;exact decide_eq_decide.2 ⟨λh=>.inr ⟨a3,by omega,h⟩,λh=>h.elim (λh=>absurd h.2 a2) (λh=>h.2.2)⟩
    ·rw[if_neg a3,decide_eq_false (λh=>h.elim (λh=>a2 h.2) (λh=>a3 h.1))]
  ·rw[if_neg a1];by_cases a3:ends=true
   ·rw[if_pos a3];by_cases a4:u>=0
    ·rw[if_pos a4];congr 1;exact decide_eq_decide.2 ⟨λh=>.inr ⟨a3,a4,h⟩,λh=>h.elim (λh=>absurd h.1 a1) (λh=>h.2.2)⟩
    ·rw[if_neg a4,decide_eq_false (λh=>h.elim (λh=>a1 h.1) (λh=>a4 h.2.1))]
   ·rw[if_neg a3,decide_eq_false (λh=>h.elim (λh=>a1 h.1) (λh=>a3 h.1))]
 rw[key];congr 1;rw[Bool.eq_iff_iff,ht,decide_eq_true_iff,p1,q3,q1,q2,hee]
end Go.Proofs.YtilidabdbhaljaaGreatDoor.Pure
end
section
namespace Go.Proofs.YtilidabdbhaljaaGreatDoor.Fn
open Go.RowKit Go.Proofs.YtilidabdbhaljaaGreatDoorW.PrintWords Go.Proofs.YtilidabdbhaljaaGreatDoorW.PrintLast Go.Proofs.YtilidabdbhaljaaGreatDoorW.PrintMore
set_option maxHeartbeats 8000000
set_option maxRecDepth 100000
section
attribute [local go_sem] fnW_0 fnW_1 fnW_2 fnW_3 fnW_4 fnW_5 fnW_guard fnW_eql zaC zaD zaI zaJ
mutual
def zaV.j0:Nat->Int->Int->Int->Bool->Int->Int->Int->ByteArray->Int->ByteArray->Int->Bool->Option (ByteArray×Int×Int)
 |0,_,_,_,_,_,_,_,_,_,_,_,_=>none
 |k+1,x8,x9,U,X,A,B,D,K,M,E,I,J=>if X=true then((zaE.f k (IntKind.u64.wrap ((IntKind.u64.wrap (4*x9))-1)) (wrap64 (U-2))).bind λO=>(zaV.j1 k x8 A B D O.1 O.2.1 E I J)) else(zaV.j1 k x8 A B D K M E I J)
def zaV.j1:Nat->Int->Int->Int->Int->ByteArray->Int->ByteArray->Int->Bool->Option (ByteArray×Int×Int)
 |0,_,_,_,_,_,_,_,_,_=>none
 |k+1,x8,A,B,D,E,I,J,K,M=>(zcq.f k A B D x8).bind λO=>(zaV.l0 k 1 O.1 O.2 E I J K M)
def zaV.l0:Nat->Int->ByteArray->Int->ByteArray->Int->ByteArray->Int->Bool->Option (ByteArray×Int×Int)
 |0,_,_,_,_,_,_,_,_=>none
 |k+1,O,A,B,D,E,I,J,K=>(zbw.f k A B O D E I J K).bind λM=>(if M.2.2=true then(some (M.1,M.2.1,0)) else(zaV.l0 k (wrap64 (O+1)) A B D E I J K))
end
def zaV.f(k:Nat)(a0:Int)(a1:Int):Option (ByteArray×Int×Int):=(zcL.f a1).bind λA=>(if A.2.2.2=true then(if 0<=(wrap64 (a1-1)) then(if(Go.bits .and .u64 a0 (IntKind.u64.wrap ((shl .u64 1 (wrap64 (a1-1)))-1)))>=A.2.2.1 then(some ((⟨#[]⟩:ByteArray),0,1)) else((zbB.f A.1 A.2.1 A.2.2.1 (Go.bits .and .u64 a0 (IntKind.u64.wrap ((shl .u64 1 (wrap64 (a1-1)))-1)))).bind λB=>(if B.1=0 then(some ((⟨#[]⟩:ByteArray),0,0)) else((zaE.f k (IntKind.u64.wrap ((IntKind.u64.wrap (2*B.1))+1)) (wrap64 (B.2-1))).bind λD=>((zaE.f k (IntKind.u64.wrap ((IntKind.u64.wrap (2*B.1))-1)) (wrap64 (B.2-1))).bind λE=>(if 0<=A.1 then(if B.1=(shl .u64 1 A.1) then(zaV.j0 k (Go.bits .and .u64 a0 (IntKind.u64.wrap ((shl .u64 1 (wrap64 (a1-1)))-1))) B.1 B.2 (decide (B.2>A.2.1)) A.1 A.2.1 A.2.2.1 E.1 E.2.1 D.1 D.2.1 ((Int.tmod B.1 2)==0)) else(zaV.j0 k (Go.bits .and .u64 a0 (IntKind.u64.wrap ((shl .u64 1 (wrap64 (a1-1)))-1))) B.1 B.2 false A.1 A.2.1 A.2.2.1 E.1 E.2.1 D.1 D.2.1 ((Int.tmod B.1 2)==0))) else(none))))))) else(none)) else(some ((⟨#[]⟩:ByteArray),0,1)))
theorem zaV.calls(k:Nat)(a0:Int)(a1:Int)(r1:ByteArray)(r2:Int)(r3:Int)(w:World)(h:zaV.f k a0 a1=some (r1,r2,r3)):
  Calls Tryz.prog 73 #[.int .u64 a0,.int .i64 a1] w λe w'=>e= .returned (.tuple #[.agg #[.string r1,.int .i64 r2],.int .i64 r3])/\Below w.heap.size w w':=by
 have fu:=Tryz.underlying74;have fv:=Tryz.underlying60;have dS:=Tryz.underlying120;have HB:=zaa.mk (Below.refl w.heap.size w);have H:((zcL.f a1).bind λac=>(if ac.2.2.2=true then(if 0<=(wrap64 (a1-1)) then(if(Go.bits .and .u64 a0 (IntKind.u64.wrap ((shl .u64 1 (wrap64 (a1-1)))-1)))>=ac.2.2.1 then(some ((⟨#[]⟩:ByteArray),0,1)) else((zbB.f ac.1 ac.2.1 ac.2.2.1 (Go.bits .and .u64 a0 (IntKind.u64.wrap ((shl .u64 1 (wrap64 (a1-1)))-1)))).bind λag=>(if ag.1=0 then(some ((⟨#[]⟩:ByteArray),0,0)) else((zaE.f k (IntKind.u64.wrap ((IntKind.u64.wrap (2*ag.1))+1)) (wrap64 (ag.2-1))).bind λbw=>((zaE.f k (IntKind.u64.wrap ((IntKind.u64.wrap (2*ag.1))-1)) (wrap64 (ag.2-1))).bind λbA=>(if 0<=ac.1 then(if ag.1=(shl .u64 1 ac.1) then(zaV.j0 k (Go.bits .and .u64 a0 (IntKind.u64.wrap ((shl .u64 1 (wrap64 (a1-1)))-1))) ag.1 ag.2 (decide (ag.2>ac.2.1)) ac.1 ac.2.1 ac.2.2.1 bA.1 bA.2.1 bw.1 bw.2.1 ((Int.tmod ag.1 2)==0)) else(zaV.j0 k (Go.bits .and .u64 a0 (IntKind.u64.wrap ((shl .u64 1 (wrap64 (a1-1)))-1))) ag.1 ag.2 false ac.1 ac.2.1 ac.2.2.1 bA.1 bA.2.1 bw.1 bw.2.1 ((Int.tmod ag.1 2)==0))) else(none))))))) else(none)) else(some ((⟨#[]⟩:ByteArray),0,1))))=some (r1,r2,r3):=h;clear h;replace H:=bs H;obtain⟨⟨E,Y,I,cu⟩,A3,H⟩:=H;dsimp only at H;go_enter Tryz.func73,Tryz.ntmps73;(go_upto_if 23 with(first|((with_reducible refine zae (N:=4) rfl ?_);refine zaf rfl (N:=4) rfl (cs:=#[.string (⟨#[]⟩:ByteArray),.int .i64 0]) (t:=74) gz ?_;intro D hg w4 hbox hb;have dT:=gN bz hg;have O:=zaa.mk hbox;replace HB:=bN bz hb;clear hb hbox hg)|((with_reducible refine zac (f:=37) rfl ?_);refine gB Tryz.func37 (zcL.calls a1 E Y I cu _ A3.out) ?_;intro w5 hb;replace O:=kN (g:=D) (cs:=#[.string (⟨#[]⟩:ByteArray),.int .i64 0]) hb bk;replace HB:=bN bz hb;clear hb)|((with_reducible refine zae (N:=6) rfl ?_);refine zaf rfl (N:=6) rfl (cs:=#[.int .i64 0,.int .i64 0,.int .u64 0]) (t:=60) gz ?_;intro U hg w6 hbox hb;have dU:=gN bz hg;have J:=lN (g:=D) (cs:=#[.string (⟨#[]⟩:ByteArray),.int .i64 0]) hg bk;have K:=rN (g:=D) (cs:=#[.string (⟨#[]⟩:ByteArray),.int .i64 0]) hg bk;replace O:=kN (g:=D) (cs:=#[.string (⟨#[]⟩:ByteArray),.int .i64 0]) hb bk;have X:=zaa.mk hbox;replace HB:=bN bz hb;clear hb hbox hg;have fw:=K.out;have fx:=J.out;obtain⟨bB,bC,bD,bE,bG,bH⟩:=cz3 X)));(try simp only[Act.put,sA]);by_cases c9:cu=true;case neg=>
  replace c9:=Bool.eq_false_iff.mpr c9;subst c9;replace H:=hF H;obtain⟨rfl,rfl,rfl⟩:=o3 H;have fs:=J.out;have ft:=K.out;obtain⟨dJ,dK,dL,dM⟩:=cz2 O;go_wp2;refine bodyPost_ret (zaS rfl _ _ D 74 #[.string (⟨#[]⟩:ByteArray),.int .i64 0] (0,0) _ rfl bk Tryz.underlying74 rfl (by kernel_rfl)) rfl ?_;exact⟨ez,bz⟩
 subst c9;replace H:=hT H;obtain⟨aw,ar⟩:=ex (wrap64 (a1-1));(first|rw[ar] at H|simp only[ar] at H);have dN:(IntKind.i64.wrap (a1-1))=aw:=(zbb _).trans ar;obtain⟨bP,bQ,H⟩:=hG3 H;obtain⟨am,aj⟩:=ex (shl .u64 1 (aw));(first|rw[aj] at H|simp only[aj] at H);have cn:(IntKind.u64.wrap (1*2^min (aw).toNat 64))=am:=aj;have co:(aw)<=64->(IntKind.u64.wrap (1*2^(aw).toNat))=am:=zcF aj;(have dO:(IntKind.u64.wrap (2^min (aw).toNat 64))=am:=by have h_:=cn;rw[Int.one_mul] at h_;exact h_);(have dP:(aw)<=64->(IntKind.u64.wrap (2^(aw).toNat))=am:=λhle_=>by have h_:=co hle_;rw[Int.one_mul] at h_;exact h_);by_cases bI:(Go.bits .and .u64 a0 (IntKind.u64.wrap ((am)-1)))>=I
 (·replace H:=hE H bI;have an:decide (I<=(Go.bits .and .u64 a0 (IntKind.u64.wrap ((am)-1))))=true:=decide_eq_true bI;clear bI;(first|rw[an]|(simp only[zbb,zbo];rw[an])|skip);obtain⟨rfl,rfl,rfl⟩:=o3 H;have dV:=K.out;have dW:=J.out;obtain⟨cC,cD,cF,cG,cH,cI⟩:=cz3 X;obtain⟨cJ,cK,cL,cM⟩:=cz2 O;go_wp2;refine bodyPost_ret (zaS rfl _ _ D 74 #[.string (⟨#[]⟩:ByteArray),.int .i64 0] (0,0) _ rfl bk Tryz.underlying74 rfl (by kernel_rfl)) rfl ?_;exact⟨by first|exact ez|(simp only[<-ar,<-aj];exact ez),bz⟩);replace H:=hN H bI;have an:decide (I<=(Go.bits .and .u64 a0 (IntKind.u64.wrap ((am)-1))))=false:=decide_eq_false bI;clear bI;(first|rw[an]|(simp only[zbb,zbo];rw[an])|skip);replace H:=bs H;obtain⟨⟨M,bv⟩,dY,H⟩:=H;dsimp only at H;have dZ:=K.out;have d0:=J.out;obtain⟨aA,aB,aC,aD,aE,aF⟩:=cz3 X;(go_upto_if 43 with(first|((with_reducible refine zac (f:=38) rfl ?_);refine gB Tryz.func38 (zbB.calls E Y I (Go.bits .and .u64 a0 (IntKind.u64.wrap ((am)-1))) M bv _ dY.out) ?_ (hargs:=by(try simp only[List.map_toArray,List.map_cons,List.map_nil]);first|done|(simp only[aj];rfl)|rfl|(simp only[List.length_drop,List.length_take];rfl));intro fy hb;replace O:=kN (g:=D) (cs:=#[.string (⟨#[]⟩:ByteArray),.int .i64 0]) hb bk;replace X:=kN (g:=U) (cs:=#[.int .i64 E,.int .i64 Y,.int .u64 I]) hb bk;replace HB:=bN bz hb;clear hb)));(try simp only[Act.put,sA]);by_cases bK:M=0
 (·replace H:=hE H bK;obtain⟨au,av⟩:=eT bK;clear bK;(try first|rw[au]|rw[av]);obtain⟨rfl,rfl,rfl⟩:=o3 H;have d5:=J.out;have d6:=K.out;obtain⟨cN,cO,cP,cQ⟩:=cz2 O;go_wp2;refine bodyPost_ret (zaS rfl _ _ D 74 #[.string (⟨#[]⟩:ByteArray),.int .i64 0] (0,0) _ rfl bk Tryz.underlying74 rfl (by kernel_rfl)) rfl ?_;exact⟨by first|exact ez|(simp only[<-ar,<-aj];exact ez),bz⟩);replace H:=hN H bK;obtain⟨au,av⟩:=eF bK;(try first|rw[au]|rw[av]);replace H:=bs H;obtain⟨⟨ae,af,cR⟩,d9,H⟩:=H;dsimp only at H;replace H:=bs H;obtain⟨⟨bL,bM,cS⟩,ea,H⟩:=H;dsimp only at H;have bV:=zaa.mk H;clear H;(go_upto_region 13 with(first|((with_reducible refine zae (N:=11) rfl ?_);refine zaf rfl (N:=11) rfl (cs:=#[.string (⟨#[]⟩:ByteArray),.int .i64 0,.string (⟨#[]⟩:ByteArray),.int .i64 0,.bool false]) (t:=120) gz ?_;intro ad hg fz hbox hb;have eb:=gN bz hg;have ak:=lN (g:=D) (cs:=#[.string (⟨#[]⟩:ByteArray),.int .i64 0]) hg bk;have al:=rN (g:=D) (cs:=#[.string (⟨#[]⟩:ByteArray),.int .i64 0]) hg bk;have ah:=lN (g:=U) (cs:=#[.int .i64 E,.int .i64 Y,.int .u64 I]) hg bk;have ai:=rN (g:=U) (cs:=#[.int .i64 E,.int .i64 Y,.int .u64 I]) hg bk;replace O:=kN (g:=D) (cs:=#[.string (⟨#[]⟩:ByteArray),.int .i64 0]) hb bk;replace X:=kN (g:=U) (cs:=#[.int .i64 E,.int .i64 Y,.int .u64 I]) hb bk;have Z:=zaa.mk hbox;replace HB:=bN bz hb;clear hb hbox hg;have ec:=al.out;have ed:=ak.out;have ee:=ai.out;have ef:=ah.out;obtain⟨aG,aH,aI,aJ,aK,aL,aM,aN,aO,aP⟩:=cz5 Z)|((with_reducible refine zac (f:=102) rfl ?_);refine gB Tryz.func102 (zaE.calls k (IntKind.u64.wrap ((IntKind.u64.wrap (2*M))+1)) (wrap64 (bv-1)) ae af cR _ d9.out) ?_;intro fA hb;replace O:=kN (g:=D) (cs:=#[.string (⟨#[]⟩:ByteArray),.int .i64 0]) hb bk;replace X:=kN (g:=U) (cs:=#[.int .i64 E,.int .i64 Y,.int .u64 I]) hb bk;replace Z:=kN (g:=ad) (cs:=#[.string (⟨#[]⟩:ByteArray),.int .i64 0,.string (⟨#[]⟩:ByteArray),.int .i64 0,.bool ((Int.tmod M 2)==0)]) hb bk;replace HB:=bN bz hb;clear hb;obtain⟨aQ,aR,aS,aT,aU,aV,aW,aX,aY,aZ⟩:=cz5 Z)|((with_reducible refine zac (f:=102) rfl ?_);refine gB Tryz.func102 (zaE.calls k (IntKind.u64.wrap ((IntKind.u64.wrap (2*M))-1)) (wrap64 (bv-1)) bL bM cS _ ea.out) ?_;intro fC hb;replace O:=kN (g:=D) (cs:=#[.string (⟨#[]⟩:ByteArray),.int .i64 0]) hb bk;replace X:=kN (g:=U) (cs:=#[.int .i64 E,.int .i64 Y,.int .u64 I]) hb bk;replace Z:=kN (g:=ad) (cs:=#[.string (⟨#[]⟩:ByteArray),.int .i64 0,.string ae,.int .i64 af,.bool ((Int.tmod M 2)==0)]) hb bk;replace HB:=bN bz hb;clear hb;obtain⟨a2,a3,a4,a5,a6,a7,a8,a9,ba,bb⟩:=cz5 Z)));(try simp only[Act.put,sA]);go_cut [79] (λeg wc=> ∃(kq:Nat) (az:Bool),eg= .bool az/\zaa (zaV.j0 kq (Go.bits .and .u64 a0 (IntKind.u64.wrap ((am)-1))) M bv az E Y I bL bM ae af ((Int.tmod M 2)==0)=some (r1,r2,r3))/\zaa (kq<=k)/\zaa (wc.heap[D]? =some (.cells #[.string (⟨#[]⟩:ByteArray),.int .i64 0] 74 (0,0)))/\zaa (wc.heap[U]? =some (.cells #[.int .i64 E,.int .i64 Y,.int .u64 I] 60 (0,0)))/\zaa (wc.heap[ad]? =some (.cells #[.string bL,.int .i64 bM,.string ae,.int .i64 af,.bool ((Int.tmod M 2)==0)] 120 (0,0)))/\zaa (Below w.heap.size w wc));case first=>
  have H:=bV.out;clear bV;obtain⟨eh,ei,H⟩:=hG3 H;obtain⟨bO,bJ⟩:=ex (shl .u64 1 E);(first|rw[bJ] at H|simp only[bJ] at H);have cp:(IntKind.u64.wrap (1*2^min E.toNat 64))=bO:=bJ;have cq:E<=64->(IntKind.u64.wrap (1*2^E.toNat))=bO:=zcF bJ;(have dQ:(IntKind.u64.wrap (2^min E.toNat 64))=bO:=by have h_:=cp;rw[Int.one_mul] at h_;exact h_);(have dR:E<=64->(IntKind.u64.wrap (2^E.toNat))=bO:=λhle_=>by have h_:=cq hle_;rw[Int.one_mul] at h_;exact h_);by_cases bW:M=(bO)
  (·replace H:=hE H bW;obtain⟨bR,bS⟩:=eT bW;clear bW;(try first|rw[bR]|rw[bS]);have H':=zaa.mk H;clear H;have ej:=K.out;have ek:=J.out;have em:=ah.out;have en:=ai.out;obtain⟨cT,cV,cW,cX,cY,cZ⟩:=cz3 X;go_wp2;go_meet;case rel=>exact⟨_,(decide (bv>Y)),rz,H',⟨by first|omega|exact Nat.le_refl _⟩,⟨bk⟩,⟨bk⟩,⟨bk⟩,⟨bz⟩⟩);replace H:=hN H bW;obtain⟨bR,bS⟩:=eF bW;(try first|rw[bR]|rw[bS]);have H':=zaa.mk H;clear H;have eo:=K.out;have ep:=J.out;have eq:=ah.out;have er:=ai.out;obtain⟨c5,c6,c7,c8,da,db⟩:=cz3 X;go_wp2;go_meet;case rel=>exact⟨_,(false),rz,H',⟨by first|omega|exact Nat.le_refl _⟩,⟨bk⟩,⟨bk⟩,⟨bk⟩,⟨bz⟩⟩
 case rest=>
  clear bV;(try clear c9);(try clear bP);(try clear bQ);(try clear bI);(try clear an);(try clear bK);(try clear au);(try clear av);(try clear aA aB aC aD aE aF);(try clear aG aH aI aJ aK aL aM aN aO aP);(try clear aQ aR aS aT aU aV aW aX aY aZ);(try clear a2 a3 a4 a5 a6 a7 a8 a9 ba bb);(try clear bB bC bD bE bG bH);obtain⟨kq,az,rfl,HA,bU,O,X,Z,HB⟩:=hcut;cases kq with
  |zero=>exact absurd HA.out (by simp[zaV.j0])
  |succ cv=>
   have H:=HA.out;clear HA;simp only[zaV.j0] at H;have bX:=zaa.mk H;clear H;(go_upto_if 79 with(fail));go_cut [] (λwc=> ∃(kq:Nat) (A:ByteArray) (B:Int),zaa (zaV.j1 kq (Go.bits .and .u64 a0 (IntKind.u64.wrap ((am)-1))) E Y I A B ae af ((Int.tmod M 2)==0)=some (r1,r2,r3))/\zaa (kq<=cv)/\zaa (wc.heap[D]? =some (.cells #[.string (⟨#[]⟩:ByteArray),.int .i64 0] 74 (0,0)))/\zaa (wc.heap[U]? =some (.cells #[.int .i64 E,.int .i64 Y,.int .u64 I] 60 (0,0)))/\zaa (wc.heap[ad]? =some (.cells #[.string A,.int .i64 B,.string ae,.int .i64 af,.bool ((Int.tmod M 2)==0)] 120 (0,0)))/\zaa (Below w.heap.size w wc));case first=>
    have H:=bX.out;clear bX;by_cases cr:az=true
    (·subst cr;replace H:=hT H;replace H:=bs H;obtain⟨⟨cw,cx,dc⟩,et,H⟩:=H;dsimp only at H;have H':=zaa.mk H;clear H;go_wp2_with (first|((with_reducible refine zac (f:=102) rfl ?_);refine gB Tryz.func102 (zaE.calls cv (IntKind.u64.wrap ((IntKind.u64.wrap (4*M))-1)) (wrap64 (bv-2)) cw cx dc _ et.out) ?_;intro fD hb;replace O:=kN (g:=D) (cs:=#[.string (⟨#[]⟩:ByteArray),.int .i64 0]) hb bk;replace X:=kN (g:=U) (cs:=#[.int .i64 E,.int .i64 Y,.int .u64 I]) hb bk;replace Z:=kN (g:=ad) (cs:=#[.string bL,.int .i64 bM,.string ae,.int .i64 af,.bool ((Int.tmod M 2)==0)]) hb bk;replace HB:=bN bz hb;clear hb;have eu:=al.out;have ev:=ak.out;have ew:=ai.out;have ey:=ah.out;obtain⟨dd,de,df,dh,di,dj,dk,dl,dm,dn⟩:=cz5 Z));go_meet;case rel=>exact⟨_,(cw),(cx),H',⟨by have:=bU.out;first|omega|exact Nat.le_refl _⟩,⟨bk⟩,⟨bk⟩,⟨bk⟩,⟨bz⟩⟩);replace cr:=Bool.eq_false_iff.mpr cr;subst cr;replace H:=hF H;have H':=zaa.mk H;clear H;go_wp2;go_meet;case rel=>exact⟨_,(bL),(bM),H',⟨by have:=bU.out;first|omega|exact Nat.le_refl _⟩,⟨bk⟩,⟨bk⟩,⟨bk⟩,⟨bz⟩⟩
   case rest=>
    clear bX;(try clear c9);(try clear bP);(try clear bQ);(try clear bI);(try clear an);(try clear bK);(try clear au);(try clear av);(try clear aA aB aC aD aE aF);(try clear aG aH aI aJ aK aL aM aN aO aP);(try clear aQ aR aS aT aU aV aW aX aY aZ);(try clear a2 a3 a4 a5 a6 a7 a8 a9 ba bb);(try clear bB bC bD bE bG bH);obtain⟨kq,A,B,HA,cy,O,X,Z,HB⟩:=hcut;cases kq with
    |zero=>exact absurd HA.out (by simp[zaV.j1])
    |succ bY=>
     have H:=HA.out;clear HA;simp only[zaV.j1] at H;replace H:=bs H;obtain⟨⟨ax,ay⟩,eA,H⟩:=H;dsimp only at H;have H':=zaa.mk H;clear H;have eB:=K.out;have eC:=J.out;have eD:=ah.out;have eE:=ai.out;obtain⟨bZ,b0,b1,b2,b3,b4⟩:=cz3 X;go_wp2_with (first|((with_reducible refine zac (f:=103) rfl ?_);refine gB Tryz.func103 (zcq.calls bY E Y I (Go.bits .and .u64 a0 (IntKind.u64.wrap ((am)-1))) ax ay _ eA.out) ?_ (hargs:=by(try simp only[List.map_toArray,List.map_cons,List.map_nil]);first|done|(simp only[aj];rfl)|rfl|(simp only[List.length_drop,List.length_take];rfl));intro fF hb;replace O:=kN (g:=D) (cs:=#[.string (⟨#[]⟩:ByteArray),.int .i64 0]) hb bk;replace X:=kN (g:=U) (cs:=#[.int .i64 E,.int .i64 Y,.int .u64 I]) hb bk;replace Z:=kN (g:=ad) (cs:=#[.string A,.int .i64 B,.string ae,.int .i64 af,.bool ((Int.tmod M 2)==0)]) hb bk;replace HB:=bN bz hb;clear hb)|((with_reducible refine zae (N:=12) rfl ?_);refine zaf rfl (N:=12) rfl (cs:=#[.string (⟨#[]⟩:ByteArray),.int .i64 0]) (t:=74) gz ?_;intro bd hg fG hbox hb;have eG:=gN bz hg;have ao:=lN (g:=D) (cs:=#[.string (⟨#[]⟩:ByteArray),.int .i64 0]) hg bk;have ap:=rN (g:=D) (cs:=#[.string (⟨#[]⟩:ByteArray),.int .i64 0]) hg bk;have be:=lN (g:=U) (cs:=#[.int .i64 E,.int .i64 Y,.int .u64 I]) hg bk;have bf:=rN (g:=U) (cs:=#[.int .i64 E,.int .i64 Y,.int .u64 I]) hg bk;have bg:=lN (g:=ad) (cs:=#[.string A,.int .i64 B,.string ae,.int .i64 af,.bool ((Int.tmod M 2)==0)]) hg bk;have bh:=rN (g:=ad) (cs:=#[.string A,.int .i64 B,.string ae,.int .i64 af,.bool ((Int.tmod M 2)==0)]) hg bk;replace O:=kN (g:=D) (cs:=#[.string (⟨#[]⟩:ByteArray),.int .i64 0]) hb bk;replace X:=kN (g:=U) (cs:=#[.int .i64 E,.int .i64 Y,.int .u64 I]) hb bk;replace Z:=kN (g:=ad) (cs:=#[.string A,.int .i64 B,.string ae,.int .i64 af,.bool ((Int.tmod M 2)==0)]) hb bk;have bi:=zaa.mk hbox;replace HB:=bN bz hb;clear hb hbox hg;have eH:=ap.out;have eI:=ao.out;have eJ:=bf.out;have eK:=be.out;have eL:=bh.out;have eM:=bg.out;obtain⟨b5,b6,b7,b8⟩:=cz2 bi;have eO:=al.out;have eQ:=ak.out;obtain⟨ca,cb,cc,cd,ce,cf,cg,ci,cj,ck⟩:=cz5 Z));go_loopg [14] bY (λkq eR w'=> ∃(bj:Int) (aa:ByteArray) (ab:Int),eR= .int .i64 bj/\zaa (zaV.l0 kq bj ax ay A B ae af ((Int.tmod M 2)==0)=some (r1,r2,r3))/\zaa (kq<=bY)/\zaa (w'.heap[D]? =some (.cells #[.string aa,.int .i64 ab] 74 (0,0)))/\zaa (w'.heap[U]? =some (.cells #[.int .i64 E,.int .i64 Y,.int .u64 I] 60 (0,0)))/\zaa (w'.heap[ad]? =some (.cells #[.string A,.int .i64 B,.string ae,.int .i64 af,.bool ((Int.tmod M 2)==0)] 120 (0,0)))/\zaa (w'.heap[bd]? =some (.cells #[.string ax,.int .i64 ay] 74 (0,0)))/\zaa (Below w.heap.size w w'));(case atStart=>exact⟨(1),((⟨#[]⟩:ByteArray)),(0),rz,H',⟨Nat.le_refl _⟩,⟨bk⟩,⟨bk⟩,⟨bk⟩,⟨bk⟩,⟨bz⟩⟩);case round=>
      clear H';(try clear c9);(try clear bP);(try clear bQ);(try clear bI);(try clear an);(try clear bK);(try clear au);(try clear av);(try clear aA aB aC aD aE aF);(try clear aG aH aI aJ aK aL aM aN aO aP);(try clear aQ aR aS aT aU aV aW aX aY aZ);(try clear a2 a3 a4 a5 a6 a7 a8 a9 ba bb);(try clear bZ b0 b1 b2 b3 b4);(try clear b5 b6 b7 b8);(try clear ca cb cc cd ce cf cg ci cj ck);(try clear bB bC bD bE bG bH);obtain⟨bj,aa,ab,rfl,HA,dp,O,X,Z,bi,HB⟩:=hrel;cases gk with
      |zero=>exact absurd HA.out (by simp[zaV.l0])
      |succ k3=>
       have H:=HA.out;clear HA;simp only[zaV.l0] at H;replace H:=bs H;obtain⟨⟨cz,cA,cB⟩,eS,H⟩:=H;dsimp only at H;have eU:=ap.out;have eV:=ao.out;have eW:=bf.out;have eX:=be.out;have eY:=bh.out;have eZ:=bg.out;obtain⟨dq,ds,dt,du⟩:=cz2 bi;(go_upto_if 104 with(first|((with_reducible refine zac (f:=105) rfl ?_);refine gB Tryz.func105 (zbw.calls k3 ax ay bj A B ae af ((Int.tmod M 2)==0) cz cA cB _ eS.out) ?_;intro fH hb;replace O:=kN (g:=D) (cs:=#[.string aa,.int .i64 ab]) hb bk;replace X:=kN (g:=U) (cs:=#[.int .i64 E,.int .i64 Y,.int .u64 I]) hb bk;replace Z:=kN (g:=ad) (cs:=#[.string A,.int .i64 B,.string ae,.int .i64 af,.bool ((Int.tmod M 2)==0)]) hb bk;replace bi:=kN (g:=bd) (cs:=#[.string ax,.int .i64 ay]) hb bk;replace HB:=bN bz hb;clear hb)|((with_reducible refine zae (N:=15) rfl ?_);refine zaf rfl (N:=15) rfl (cs:=#[.string (⟨#[]⟩:ByteArray),.int .i64 0]) (t:=74) gz ?_;intro e0 hg fI hbox hb;have e1:=gN bz hg;have bl:=lN (g:=D) (cs:=#[.string aa,.int .i64 ab]) hg bk;have bm:=rN (g:=D) (cs:=#[.string aa,.int .i64 ab]) hg bk;have bn:=lN (g:=U) (cs:=#[.int .i64 E,.int .i64 Y,.int .u64 I]) hg bk;have bo:=rN (g:=U) (cs:=#[.int .i64 E,.int .i64 Y,.int .u64 I]) hg bk;have bp:=lN (g:=ad) (cs:=#[.string A,.int .i64 B,.string ae,.int .i64 af,.bool ((Int.tmod M 2)==0)]) hg bk;have bq:=rN (g:=ad) (cs:=#[.string A,.int .i64 B,.string ae,.int .i64 af,.bool ((Int.tmod M 2)==0)]) hg bk;have br:=lN (g:=bd) (cs:=#[.string ax,.int .i64 ay]) hg bk;have bu:=rN (g:=bd) (cs:=#[.string ax,.int .i64 ay]) hg bk;replace O:=kN (g:=D) (cs:=#[.string aa,.int .i64 ab]) hb bk;replace X:=kN (g:=U) (cs:=#[.int .i64 E,.int .i64 Y,.int .u64 I]) hb bk;replace Z:=kN (g:=ad) (cs:=#[.string A,.int .i64 B,.string ae,.int .i64 af,.bool ((Int.tmod M 2)==0)]) hb bk;replace bi:=kN (g:=bd) (cs:=#[.string ax,.int .i64 ay]) hb bk;have cm:=zaa.mk hbox;replace HB:=bN bz hb;clear hb hbox hg;have e2:=bm.out;have e3:=bl.out;have e4:=bo.out;have e5:=bn.out;have e6:=bq.out;have e7:=bp.out;have e8:=bu.out;have e9:=br.out;obtain⟨dv,dx,dy,dA⟩:=cz2 cm)));(try simp only[Act.put,sA]);by_cases ct:cB=true
       (·subst ct;replace H:=hT H;obtain⟨rfl,rfl,rfl⟩:=o3 H;have fa:=bm.out;have fb:=bl.out;have fc:=bo.out;have fe:=bn.out;have fg:=bq.out;have fh:=bp.out;have fi:=bu.out;have fj:=br.out;obtain⟨dB,dC,dD,dE⟩:=cz2 cm;have fk:=J.out;have fl:=K.out;have fm:=ak.out;have fo:=al.out;have fp:=ao.out;have fq:=ap.out;obtain⟨dF,dG,dH,dI⟩:=cz2 O;go_wp2;refine bodyPost_ret (zaS rfl _ _ D 74 #[.string cz,.int .i64 cA] (0,0) _ rfl bk Tryz.underlying74 rfl (by kernel_rfl)) rfl ?_;exact⟨by first|exact ez|(simp only[<-ar,<-aj];exact ez),bz⟩);replace ct:=Bool.eq_false_iff.mpr ct;subst ct;replace H:=hF H;have H':=zaa.mk H;clear H;go_wp2;go_roundg k3;(case measure=>have:=bU.out;have:=cy.out;have:=dp.out;omega);case rel=>exact⟨(wrap64 (bj+1)),(aa),(ab),rz,H',⟨by have:=bU.out;have:=cy.out;have:=dp.out;omega⟩,⟨bk⟩,⟨bk⟩,⟨bk⟩,⟨bk⟩,⟨bz⟩⟩
end
end Go.Proofs.YtilidabdbhaljaaGreatDoor.Fn
end
