/- The law ShortMiddles: the walks through its functions and its plain law (part 2). Own texts and the kit's printed words for this seat, without what the law does not use: put together by merge.py (of this work). -/
import Derived.Test.YtlohbokljligoaaDoorMShortMiddles1
import Derived.Handy
set_option linter.unusedVariables false
set_option linter.unusedSimpArgs false
section
namespace Go.Proofs.YtlohbokljligoaaDoor.Fn
open Go.RowKit Go.Proofs.YtlohbokljligoaaDoorW.PrintWords Go.Proofs.YtlohbokljligoaaDoorW.PrintLast Go.Proofs.YtlohbokljligoaaDoorW.PrintMore
set_option maxHeartbeats 8000000
set_option maxRecDepth 100000
def zbV(x:Int):List Int:=
  [48+x / 10 / 10 / 10 / 10 / 10 / 10 / 10 / 10%10,48+x / 10 / 10 / 10 / 10 / 10 / 10 / 10%10,48+x / 10 / 10 / 10 / 10 / 10 / 10%10,48+x / 10 / 10 / 10 / 10 / 10%10,
   48+x / 10 / 10 / 10 / 10%10,48+x / 10 / 10 / 10%10,48+x / 10 / 10%10,48+x / 10%10,48+x%10]
def limbsText(l:List Int):List Int:=(l.reverse.map zbV).flatten
def za0.f(k:Nat)(l0:List Int):Option ByteArray:=
  if l0.length<=100000/\ ∀x∈l0,0<=x/\x<=999999999 then(zai.f k l0).bind λl=>if l.length<=l0.length/\ ∀x∈l,0<=x/\x<=999999999 then zaE.f (strOfNums (limbsText l)) ⟨#[48]⟩ else none else none
theorem zg0:(Tryd.prog.info? 5).map (λi=>(i.zero,i.size,i.bytes))=some (some (.int .u8 0),1,1):=by kernel_rfl
theorem zcV(l:List Int):(limbsText l).length=9*l.length:=by
 unfold limbsText;rw[List.length_flatten,List.map_map];(have:(List.length∘zbV)=λ_=>9:=by funext x;rfl);rw[this,List.map_const',List.sum_replicate_nat,List.length_reverse];omega
theorem ze1{l:List Int}(h: ∀x∈l,0<=x/\x<=999999999)(i:Int):0<=rd l i/\rd l i<=999999999:=by
 unfold rd;rw[List.getD_eq_getElem?_getD];cases hg:l[i.toNat]? with
 |none=>simp
 |some x=>exact h x (List.mem_of_getElem? hg)
theorem zeB(W:World)(x:Int)(t:TypeId):(Kd.int .u8).C (W.alloc (.cells #[.int .u8 (48+x / 10 / 10 / 10 / 10 / 10 / 10 / 10 / 10%10),.int .u8 (48+x / 10 / 10 / 10 / 10 / 10 / 10 / 10%10),.int .u8 (48+x / 10 / 10 / 10 / 10 / 10 / 10%10),.int .u8 (48+x / 10 / 10 / 10 / 10 / 10%10),.int .u8 (48+x / 10 / 10 / 10 / 10%10),.int .u8 (48+x / 10 / 10 / 10%10),.int .u8 (48+x / 10 / 10%10),.int .u8 (48+x / 10%10),.int .u8 (48+x%10)] t)) (some ⟨W.heap.size,0,none⟩) 9 (zbV x):=by
 refine Kd.C_of_reads (d:=(0:Int)) (h1:=λ_=>rfl) (⟨rfl,by decide,λ_=>⟨_,rfl,λj hj=>?_⟩⟩:ReadsInt _ .u8 _ 9 (zbV x));rw[add_plain,zad (heap_alloc_new W _) j];(rcases j with _|_|_|_|_|_|_|_|_|j);all_goals first|rfl|omega
theorem zdm(l:List Int)(m:Nat)(h:m<l.length):limbsText (l.drop m)=limbsText (l.drop (m+1))++zbV (rd l m):=by
 unfold limbsText;rw[List.drop_eq_getElem_cons h];(have:rd l m=l[m]:=by simp[rd,List.getD_eq_getElem?_getD,List.getElem?_eq_getElem h]);rw[this,List.reverse_cons,List.map_append,List.flatten_append];simp only[List.map_cons,List.map_nil,List.flatten_cons,List.flatten_nil,List.append_nil]
set_option maxHeartbeats 4000000 in
set_option maxRecDepth 100000 in
theorem za0.calls(k:Nat)(A0:Option Addr)(c0:Nat)(l0:List Int)(r:ByteArray)(w:World)(A:Kd.C (Kd.int .u64) w A0 l0.length l0)(J:l0.length<=c0)(h:za0.f k l0=some r):
 Calls Tryd.prog 13 #[.slice A0 l0.length c0] w λe w'=>e= .returned (.string r)/\Below w.heap.size w w':=by
 unfold za0.f at h;split at h;(case isFalse=>cases h);rename_i hl;obtain⟨hlen,hpos⟩:=hl;obtain⟨l,B,h⟩:=Option.bind_eq_some_iff.1 h;split at h;(case isFalse=>cases h);rename_i K;obtain⟨hll,hlp⟩:=K;have H1:=zaa.mk B;have H2:=zaa.mk h;have HR:=zaa.mk A;have HP:=zaa.mk hlp;clear B h A hpos hlp;go_enter Tryd.func13,Tryd.ntmps13;go_wp2_with (go_at_call 21;refine(zai.calls k (λ_=>True) A0 c0 l0 l _ ⟨A0,c0,rfl,J,λW' hW=>(Kd.heap_int .u64).C (λk hk=>hW k trivial hk) HR.out⟩ H1.out).mono ?_;rintro e w1 ⟨v0,rfl,hV,hb⟩;obtain⟨A1,c1,rfl⟩:=Kd.V_slice hV;have HV:=zaa.mk hV;have HB:=zaa.mk hb;clear hV hb);have M:=zaa.mk (Kd.V_reads' HV.out).2.2;go_loopw [3,4] (λv i wr=> ∃j:Nat,j<=l.length/\i= .int .i64 ((j:Int)-1)/\zaa (Kd.R (Kd.int .u8) 5 wr w1.heap.size (λ_=>True) v (limbsText (l.drop j)))/\zaa (Below w1.heap.size w1 wr)) (λ_ i _=>(intOf i+1).toNat);(case atStart=>exact⟨l.length,Nat.le_refl _,rfl,⟨by rw[List.drop_length];exact Kd.R_nil _ _ _ _ _⟩,⟨Below.refl _ _⟩⟩);case round=>
  obtain⟨j,hj,rfl,HO,HBR⟩:=hrel;cases j with
  |zero=>
   have hcv:=zcX (P:=Tryd.prog) (dst:=9) Tryd.underlying34 Tryd.underlying5 Tryd.underlying9 (Kd.own_of_R HO.out);rw[List.drop_zero] at hcv;go_wp2_with (go_at_call 22;refine(zaE.calls (strOfNums (limbsText l)) ⟨#[48]⟩ r _ H2.out).mono ?_;rintro e w2 ⟨rfl,O⟩);go_ret;exact⟨rfl,zcn (zcn HB.out HB.out.size HBR.out) (Nat.le_trans HB.out.size HBR.out.size) O⟩
  |succ m=>
   have hm:m<l.length:=hj;obtain⟨hx,U⟩:=ze1 HP.out (m:Int);obtain⟨ad,rfl,hcell⟩:=Kd.at_int M.out (m:Int) (by omega) (by omega);have hcw:wr.cell? (ad.add m)=some (.int .u64 (rd l m)):=zbc HBR.out hcell;have hdr:=zaa.mk (zdm l m hm);generalize rd l m=x at hcw hx U hdr;rw[show(((m+1:Nat):Int)-1)=(m:Int) by omega];have aa:=λo=>zbc (zaO (Below.refl wr.heap.size wr) o) hcw;clear hcw hcell;have ab:Below w1.heap.size w1 wr:=HBR.out;go_wp2;refine wp_loop_rounds 10 ?_;(repeat any_goals(rw[rounds_succ];go_wp2_with ((with_reducible refine zcA (b:=.append) (xs:=#[.tmp 33,.tmp 34]) rfl ?_);at_builtin;refine Kd.R_append_rows (Kd.int .u8) (w0:=w1) w1.heap.size rfl (.tmp 33) (.tmp 34) 34 5 (.int .u8 0) 1 rfl Tryd.underlying34 zg0 rfl (by decide) (by omega) u3 (limbsText (l.drop (m+1))) (zbV x) _ _ _ (λ_=>True) (λ_=>False) rfl rfl ?aO ?aR (λ_ _ h=>h) (λ_ h=>h.elim) (λ_ _=>trivial) ?aB ?aS ?aL ?_;(case aO=>exact Kd.R_alloc HO.out _);(case aR=>exact zeB wr x 53);(case aB=>exact HBR.out.alloc HBR.out.size _);(case aS=>have:=HBR.out.size;simp;omega);(case aL=>rw[zcV,List.length_drop];omega);intro v1 w3 D E X I;have Y:=zaa.mk D;have Z:=zaa.mk E;clear D E X I)));go_roundw;(case rel=>exact⟨m,by omega,by go_num,⟨by rw[hdr.out];exact Y.out⟩,Z⟩);case measure=>simp[intOf]
section
attribute [local go_sem] zaw zaD
mutual
def zab.j0:Nat->Int->Int->Bool->Option (ByteArray×Int×Int)
 |0,_,_,_=>none
 |k+1,x0,x1,B=>if B=true then(some ((⟨#[]⟩:ByteArray),0,1)) else((some (([Int.tmod x0 1000000000,Int.tmod (IntKind.u64.wrap (Int.tdiv x0 1000000000)) 1000000000,IntKind.u64.wrap (Int.tdiv (IntKind.u64.wrap (Int.tdiv x0 1000000000)) 1000000000)]:List Int):List Int)).bind λA=>(if x1<0 then(zab.j1 k (wrap64 (-x1)) A 5 x1) else(zab.j1 k x1 A 2 0)))
def zab.j1:Nat->Int->List Int->Int->Int->Option (ByteArray×Int×Int)
 |0,_,_,_,_=>none
 |k+1,x1,x6,x7,x8=>zab.l0 k x1 x6 x7 x8
def zab.l0:Nat->Int->List Int->Int->Int->Option (ByteArray×Int×Int)
 |0,_,_,_,_=>none
 |k+1,x1,x6,x7,x8=>if x1>=8 then((zak.f k x6 (IntKind.u64.wrap ((IntKind.u64.wrap ((IntKind.u64.wrap ((IntKind.u64.wrap ((IntKind.u64.wrap ((IntKind.u64.wrap ((IntKind.u64.wrap (x7*x7))*x7))*x7))*x7))*x7))*x7))*x7))).bind λA=>(zab.l0 k (wrap64 (x1-8)) A x7 x8)) else(zab.l1 k x1 x6 x7 x8)
def zab.l1:Nat->Int->List Int->Int->Int->Option (ByteArray×Int×Int)
 |0,_,_,_,_=>none
 |k+1,x1,x6,x7,x8=>if x1>0 then((zak.f k x6 x7).bind λD=>(zab.l1 k (wrap64 (x1-1)) D x7 x8)) else((za0.f k x6).bind λB=>((zax.f B (wrap64 ((B.size:Int)+x8))).bind λA=>(some (A.1,A.2,0))))
end
def zab.f(k:Nat)(a0:Int)(a1:Int):Option (ByteArray×Int×Int):=if a1<(-1200) then(zab.j0 k a0 a1 true) else(zab.j0 k a0 a1 (decide (a1>1200)))
theorem zab.calls(k:Nat)(a0:Int)(a1:Int)(r1:ByteArray)(r2:Int)(r3:Int)(w:World)(h:zab.f k a0 a1=some (r1,r2,r3)):
  Calls Tryd.prog 7 #[.int .u64 a0,.int .i64 a1] w λe w'=>e= .returned (.tuple #[.agg #[.string r1,.int .i64 r2],.int .i64 r3])/\Below w.heap.size w w':=by
 have a8:=Tryd.underlying28;have HB:=zaa.mk (Below.refl w.heap.size w);have H:(if a1<(-1200) then(zab.j0 k a0 a1 true) else(zab.j0 k a0 a1 (decide (a1>1200))))=some (r1,r2,r3):=h;clear h;have aE:=zaa.mk H;clear H;go_enter Tryd.func7,Tryd.ntmps7;(go_upto_region 1 with(first|((with_reducible refine zaf (N:=4) rfl ?_);refine zae rfl (N:=4) rfl (cs:=#[.string (⟨#[]⟩:ByteArray),.int .i64 0]) (t:=28) gz ?_;intro E hg w4 hbox hb;have ak:=gN bz hg;have A:=zaa.mk hbox;replace HB:=bN bz hb;clear hb hbox hg)));(try simp only[Act.put,List.setIfInBounds_toArray,List.set_cons_zero,List.set_cons_succ]);go_cut [15] (λa3 wc=> ∃(kq:Nat) (ab:Bool),a3= .bool ab/\zaa (zab.j0 kq a0 a1 ab=some (r1,r2,r3))/\zaa (kq<=k)/\zaa (wc.heap[E]? =some (.cells #[.string (⟨#[]⟩:ByteArray),.int .i64 0] 28 (0,0)))/\zaa (Below w.heap.size w wc));case first=>
  have H:=aE.out;clear aE;by_cases c5:a1<(-1200)
  (·replace H:=hE H c5;have al:=decide_eq_true c5;clear c5;(try rw[al]);have H':=zaa.mk H;clear H;go_wp2;go_meet;case rel=>exact⟨_,(true),rz,H',⟨by first|omega|exact Nat.le_refl _⟩,⟨bk⟩,⟨bz⟩⟩);replace H:=hN H c5;have al:=decide_eq_false c5;clear c5;(try rw[al]);have H':=zaa.mk H;clear H;go_wp2;go_meet;case rel=>exact⟨_,(decide (a1>1200)),rz,H',⟨by first|omega|exact Nat.le_refl _⟩,⟨bk⟩,⟨bz⟩⟩
 case rest=>
  clear aE;obtain⟨kq,ab,rfl,HA,ah,A,HB⟩:=hcut;cases kq with
  |zero=>exact absurd HA.out (by simp[zab.j0])
  |succ aF=>
   have H:=HA.out;clear HA;simp only[zab.j0] at H;by_cases c6:ab=true
   (·subst c6;replace H:=hT H;obtain⟨rfl,rfl,rfl⟩:=o3 H;obtain⟨aX,aY,aZ,a2⟩:=cz2 A;go_wp2;refine bodyPost_ret (zaq rfl _ _ E 28 #[.string (⟨#[]⟩:ByteArray),.int .i64 0] (0,0) _ rfl bk Tryd.underlying28 rfl (by kernel_rfl)) rfl ?_;exact⟨ez,bz⟩);replace c6:=Bool.eq_false_iff.mpr c6;subst c6;replace H:=hF H;obtain⟨ac,Y⟩: ∃y_:List Int,y_=(([Int.tmod a0 1000000000,Int.tmod (IntKind.u64.wrap (Int.tdiv a0 1000000000)) 1000000000,IntKind.u64.wrap (Int.tdiv (IntKind.u64.wrap (Int.tdiv a0 1000000000)) 1000000000)]:List Int)):=⟨_,rfl⟩;(replace H:(if a1<0 then(zab.j1 aF (wrap64 (-a1)) ac 5 a1) else(zab.j1 aF a1 ac 2 0))=some (r1,r2,r3):=by first|(rw[Y];with_reducible exact H)|(have aG:=(Option.bind_some _ _).symm.trans H;rw[Y];with_reducible exact aG)|(have aG:=(Option.bind_some _ _).symm.trans H;with_reducible exact aG)|with_reducible exact H|(rw[Y];exact H)|exact H);have am:=zaa.mk Y;clear Y;have aH:=zaa.mk H;clear H;(go_upto_if 27 with(first|((with_reducible refine zaf (N:=25) rfl ?_);refine Kd.R_lit (Kd.int .u64) _ 22 ?hg (N:=25) ?hd (xs:=([Int.tmod a0 1000000000,Int.tmod (IntKind.u64.wrap (Int.tdiv a0 1000000000)) 1000000000,IntKind.u64.wrap (Int.tdiv (IntKind.u64.wrap (Int.tdiv a0 1000000000)) 1000000000)]:List Int)) (inner:=[.int .u64 (Int.tmod a0 1000000000),.int .u64 (Int.tmod (IntKind.u64.wrap (Int.tdiv a0 1000000000)) 1000000000),.int .u64 (IntKind.u64.wrap (Int.tdiv (IntKind.u64.wrap (Int.tdiv a0 1000000000)) 1000000000))]) (ok:=λ_=>True) (okp:=λ_=>True) ?hr ?hp (λ_ hk=>hk) trivial (Below.refl _ _) (Nat.le_refl _) (by simp) ?_;(case hd=>rfl);(case hg=>rfl);(case hr=>first|(go_simp;done)|(go_simp;rfl));(case hp=>exact(Reps.one (show Kd.M (Kd.int .u64) _ _ _ (Int.tmod a0 1000000000) [.int .u64 (Int.tmod a0 1000000000)] from rfl) (Reps.one (show Kd.M (Kd.int .u64) _ _ _ (Int.tmod (IntKind.u64.wrap (Int.tdiv a0 1000000000)) 1000000000) [.int .u64 (Int.tmod (IntKind.u64.wrap (Int.tdiv a0 1000000000)) 1000000000)] from rfl) (Reps.one (show Kd.M (Kd.int .u64) _ _ _ (IntKind.u64.wrap (Int.tdiv (IntKind.u64.wrap (Int.tdiv a0 1000000000)) 1000000000)) [.int .u64 (IntKind.u64.wrap (Int.tdiv (IntKind.u64.wrap (Int.tdiv a0 1000000000)) 1000000000))] from rfl) (Reps.none _ _)))));intro aL w9 ad hb hg_ hnew_;clear hg_ hnew_;(first|rw[<-am.out] at ad|(simp only[Int.reduceToNat] at ad;rw[<-am.out] at ad));have I:=zaa.mk (Kd.R_lower ad (zau bz));have J:=kN (g:=E) (cs:=#[.string (⟨#[]⟩:ByteArray),.int .i64 0]) hb bk;have K:=bN bz hb;clear A;clear HB;have an:=I;have A:=J;have HB:=K;clear I J K;clear hb ad)));(try simp only[Act.put,List.setIfInBounds_toArray,List.set_cons_zero,List.set_cons_succ]);go_cut [1,7,8] (λv1 v7 v8 wc=> ∃(kq:Nat) (ag:Int) (B:Int) (aa:Int),v1= .int .i64 ag/\v7= .int .u64 B/\v8= .int .i64 aa/\zaa (zab.j1 kq ag ac B aa=some (r1,r2,r3))/\zaa (kq<=aF)/\zaa (Kd.R (Kd.int .u64) 22 wc w.heap.size (λ_=>True) aL ac)/\zaa (wc.heap[E]? =some (.cells #[.string (⟨#[]⟩:ByteArray),.int .i64 0] 28 (0,0)))/\zaa (Below w.heap.size w wc));case first=>
    have H:=aH.out;clear aH;by_cases ai:a1<0
    (·replace H:=hE H ai;have ae:=decide_eq_true ai;clear ai;(try rw[ae]);have H':=zaa.mk H;clear H;go_wp2;go_meet;case rel=>exact⟨_,(wrap64 (-a1)),(5),(a1),rz,rz,rz,H',⟨by have:=ah.out;first|omega|exact Nat.le_refl _⟩,⟨by(with_reducible repeat(first|apply Kd.R_alloc|apply Kd.R_drewN|apply Kd.R_drew));exact an.out⟩,⟨bk⟩,⟨bz⟩⟩);replace H:=hN H ai;have ae:=decide_eq_false ai;clear ai;(try rw[ae]);have H':=zaa.mk H;clear H;go_wp2;go_meet;case rel=>exact⟨_,(a1),(2),(0),rz,rz,rz,H',⟨by have:=ah.out;first|omega|exact Nat.le_refl _⟩,⟨by(with_reducible repeat(first|apply Kd.R_alloc|apply Kd.R_drewN|apply Kd.R_drew));exact an.out⟩,⟨bk⟩,⟨bz⟩⟩
   case rest=>
    clear aH;(try clear c6);obtain⟨kq,ag,B,aa,rfl,rfl,rfl,HA,ay,D,A,HB⟩:=hcut;cases kq with
    |zero=>exact absurd HA.out (by simp[zab.j1])
    |succ aM=>
     have H:=HA.out;clear HA;simp only[zab.j1] at H;have H':=zaa.mk H;clear H;go_wp2;go_loopg [1,6] aM (λkq v1 v6 w'=> ∃(U:Int) (X:List Int),v1= .int .i64 U/\zaa (zab.l0 kq U X B aa=some (r1,r2,r3))/\zaa (kq<=aM)/\zaa (Kd.R (Kd.int .u64) 22 w' w.heap.size (λ_=>True) v6 X)/\zaa (w'.heap[E]? =some (.cells #[.string (⟨#[]⟩:ByteArray),.int .i64 0] 28 (0,0)))/\zaa (Below w.heap.size w w'));(case atStart=>exact⟨(ag),(ac),rz,H',⟨Nat.le_refl _⟩,⟨by(with_reducible repeat(first|apply Kd.R_alloc|apply Kd.R_drewN|apply Kd.R_drew));exact D.out⟩,⟨bk⟩,⟨bz⟩⟩);case round=>
      clear H';(try clear c6);obtain⟨U,X,rfl,HA,az,D,A,HB⟩:=hrel;cases gk with
      |zero=>exact absurd HA.out (by simp[zab.l0])
      |succ k3=>
       have H:=HA.out;clear HA;simp only[zab.l0] at H;by_cases af:U>=8
       (·replace H:=hE H af;have ao:decide (8<=U)=true:=decide_eq_true af;clear af;replace H:=bs H;obtain⟨aA,a4,H⟩:=H;have H':=zaa.mk H;clear H;obtain⟨ap,ar,aN⟩:=Kd.R_slice D.out;subst aN;go_wp2_with (first|((with_reducible refine zac (f:=12) rfl ?_);refine za9 (some 51) rfl rfl Tryd.func12 (by kernel_rfl) rfl #[.slice ap X.length ar,.int .u64 (IntKind.u64.wrap ((IntKind.u64.wrap ((IntKind.u64.wrap ((IntKind.u64.wrap ((IntKind.u64.wrap ((IntKind.u64.wrap ((IntKind.u64.wrap (B*B))*B))*B))*B))*B))*B))*B))] rfl lz ?_;(with_reducible refine(zak.calls k3 (λk_=>some k_=(.slice ap X.length ar:Value).ownBlock) (.slice ap X.length ar) X (IntKind.u64.wrap ((IntKind.u64.wrap ((IntKind.u64.wrap ((IntKind.u64.wrap ((IntKind.u64.wrap ((IntKind.u64.wrap ((IntKind.u64.wrap (B*B))*B))*B))*B))*B))*B))*B)) aA w _ ?side1 ?side2 a4.out).mono ?_);(case side1=>repeat(first|(with_reducible first|exact HB.out|apply zaO|apply zaS|apply zaJ|refine zaW ?_ ak.out)|exact HB.out));(case side2=>exact Kd.R_tight rfl D.out);rintro e bb ⟨a9,rfl,au,hb,hkp⟩;refine⟨_,rfl,?_⟩;have I:=zaa.mk (zdU bk hkp (λhs_=>(λe_=>(Kd.R_ne D.out A.out (by decide)) e_) hs_));have J:=zaa.mk (Kd.R_mono (ok':=λk_=>True) au (λk_ hk_=>trivial));have K:=zaa.mk (hb);clear A;clear HB;clear D;have A:=I;have aI:=J;have HB:=K;clear I J K;(try clear hb);(try clear hkp);(try clear au)));go_roundg k3;(case measure=>have:=ah.out;have:=ay.out;have:=az.out;omega);case rel=>exact⟨(wrap64 (U-8)),(aA),rz,H',⟨by have:=ah.out;have:=ay.out;have:=az.out;omega⟩,⟨by(with_reducible repeat(first|apply Kd.R_alloc|apply Kd.R_drewN|apply Kd.R_drew));exact aI.out⟩,⟨bk⟩,⟨bz⟩⟩);replace H:=hN H af;have ao:decide (8<=U)=false:=decide_eq_false af;clear af;have H':=zaa.mk H;clear H;go_wp2;go_loopg [1,6] k3 (λkq v1 v6 w'=> ∃(Z:Int) (O:List Int),v1= .int .i64 Z/\zaa (zab.l1 kq Z O B aa=some (r1,r2,r3))/\zaa (kq<=k3)/\zaa (Kd.R (Kd.int .u64) 22 w' w.heap.size (λ_=>True) v6 O)/\zaa (w'.heap[E]? =some (.cells #[.string (⟨#[]⟩:ByteArray),.int .i64 0] 28 (0,0)))/\zaa (Below w.heap.size w w'));(case atStart=>exact⟨(U),(X),rz,H',⟨Nat.le_refl _⟩,⟨by(with_reducible repeat(first|apply Kd.R_alloc|apply Kd.R_drewN|apply Kd.R_drew));exact D.out⟩,⟨bk⟩,⟨bz⟩⟩);case round=>
        clear H';(try clear c6);(try clear af);(try clear ao);obtain⟨Z,O,rfl,HA,aO,D,A,HB⟩:=hrel;cases gk with
        |zero=>exact absurd HA.out (by simp[zab.l1])
        |succ k4=>
         have H:=HA.out;clear HA;simp only[zab.l1] at H;by_cases aj:Z>0
         (·replace H:=hE H aj;have aJ:decide (0<Z)=true:=decide_eq_true aj;clear aj;replace H:=bs H;obtain⟨aB,a5,H⟩:=H;have H':=zaa.mk H;clear H;obtain⟨av,aw,aP⟩:=Kd.R_slice D.out;subst aP;go_wp2_with (first|((with_reducible refine zac (f:=12) rfl ?_);refine za9 (some 58) rfl rfl Tryd.func12 (by kernel_rfl) rfl #[.slice av O.length aw,.int .u64 B] rfl lz ?_;(with_reducible refine(zak.calls k4 (λk_=>some k_=(.slice av O.length aw:Value).ownBlock) (.slice av O.length aw) O B aB w _ ?side1 ?side2 a5.out).mono ?_);(case side1=>repeat(first|(with_reducible first|exact HB.out|apply zaO|apply zaS|apply zaJ|refine zaW ?_ ak.out)|exact HB.out));(case side2=>exact Kd.R_tight rfl D.out);rintro e bd ⟨ba,rfl,au,hb,hkp⟩;refine⟨_,rfl,?_⟩;have I:=zaa.mk (zdU bk hkp (λhs_=>(λe_=>(Kd.R_ne D.out A.out (by decide)) e_) hs_));have J:=zaa.mk (Kd.R_mono (ok':=λk_=>True) au (λk_ hk_=>trivial));have K:=zaa.mk (hb);clear A;clear HB;clear D;have A:=I;have aK:=J;have HB:=K;clear I J K;(try clear hb);(try clear hkp);(try clear au)));go_roundg k4;(case measure=>have:=ah.out;have:=ay.out;have:=az.out;have:=aO.out;omega);case rel=>exact⟨(wrap64 (Z-1)),(aB),rz,H',⟨by have:=ah.out;have:=ay.out;have:=az.out;have:=aO.out;omega⟩,⟨by(with_reducible repeat(first|apply Kd.R_alloc|apply Kd.R_drewN|apply Kd.R_drew));exact aK.out⟩,⟨bk⟩,⟨bz⟩⟩);replace H:=hN H aj;have aJ:decide (0<Z)=false:=decide_eq_false aj;clear aj;replace H:=bs H;obtain⟨ax,a6,H⟩:=H;replace H:=bs H;obtain⟨⟨aC,aD⟩,a7,H⟩:=H;dsimp only at H;obtain⟨rfl,rfl,rfl⟩:=o3 H;obtain⟨aQ,aR,aS⟩:=Kd.R_slice D.out;subst aS;go_wp2_with (first|((with_reducible refine zac (f:=13) rfl ?_);refine za9 (some 60) rfl rfl Tryd.func13 (by kernel_rfl) rfl #[.slice aQ O.length aR] rfl lz ?_;(with_reducible refine(za0.calls k4 _ _ O ax _ ?side1 ?side2 a6.out).mono ?_);(case side1=>repeat(first|exact(Kd.R_reads' D.out).2.2|(with_reducible refine Kd.C_alloc ?_ _)|(with_reducible refine Kd.C_drewN ?_ _)|(with_reducible refine Kd.C_drew ?_)));(case side2=>exact(Kd.R_reads' D.out).2.1);rintro e be ⟨rfl,hb⟩;refine⟨_,rfl,?_⟩;have I:=zaa.mk (Kd.R_below (by(with_reducible repeat(first|apply Kd.R_alloc|apply Kd.R_drewN|apply Kd.R_drew));exact D.out) hb);have J:=kN (g:=E) (cs:=#[.string (⟨#[]⟩:ByteArray),.int .i64 0]) hb bk;have K:=bN bz hb;clear D;clear A;clear HB;have D:=I;have A:=J;have HB:=K;clear I J K;(try clear hb);(try clear bf);(try clear hk);(try clear hi))|((with_reducible refine zac (f:=14) rfl ?_);refine gB Tryd.func14 (zax.calls ax (wrap64 ((ax.size:Int)+aa)) aC aD _ a7.out) ?_;intro bg hb;have I:=zaa.mk (Kd.R_below (by(with_reducible repeat(first|apply Kd.R_alloc|apply Kd.R_drewN|apply Kd.R_drew));exact D.out) hb);have J:=kN (g:=E) (cs:=#[.string (⟨#[]⟩:ByteArray),.int .i64 0]) hb bk;have K:=bN bz hb;clear D;clear A;clear HB;have D:=I;have A:=J;have HB:=K;clear I J K;clear hb;obtain⟨aT,aU,aV,aW⟩:=cz2 A));refine bodyPost_ret (zaq rfl _ _ E 28 #[.string aC,.int .i64 aD] (0,0) _ rfl bk Tryd.underlying28 rfl (by kernel_rfl)) rfl ?_;exact⟨ez,bz⟩
end
end Go.Proofs.YtlohbokljligoaaDoor.Fn
end
section
namespace Go.Proofs.YtlohbokljligoaaDoor.Pure
open Go.RowKit Go.Proofs.YtlohbokljligoaaDoorW.PrintWords Go.Proofs.YtlohbokljligoaaDoor.Fn
theorem zfy(xs:List Int)(c:Nat)(hc:c<1000000000)(hl:xs.length<=100000):Ev (λk=>zak.l1 k xs (c:Int)) (xs++if c=0 then [] else [(c:Int)]):=by
 have base: ∀ys:List Int,Ev (λk=>zak.l1 k ys ((0:Nat):Int)) ys:=λys=>Ev.step (f:=λ_=>some ys) (λk=>by simp only[zak.l1];rw[if_neg (by omega)]) (Ev.now _);by_cases h:c=0
 ·rw[if_pos h,h,List.append_nil];exact base xs
 ·rw[if_neg h];refine Ev.step (f:=λk=>zak.l1 k (xs++[(c:Int)]) ((0:Nat):Int)) (λk=>?_) (base _);simp only[zak.l1];rw[if_pos (by omega),if_pos (by omega),zcj (by omega),zcH (by omega)];(have e1:(c:Int)%1000000000=c:=by omega);(have e2:(c:Int) / 1000000000=((0:Nat):Int):=by omega);rw[e1,e2];rfl
theorem zfz(by_:Nat)(hby:by_<=400000): ∀(rest:List Int) (done:List Int) (c n:Nat),n=done.length+rest.length->n<=50000->InB 1000000000 rest->c<=by_->
 Ev (λk=>zak.l0 k (done++rest) (by_:Int) (c:Int) (n:Int) (done.length:Int)) (done++mulGo 1000000000 by_ rest c):=by
 intro rest;induction rest with
 |nil=>
  intro done c n hn hs _ hc;refine Ev.step (f:=λk=>zak.l1 k done (c:Int)) (λk=>?_) (zfy done c (by omega) (by simp at hn;omega));simp only[zak.l0];simp only[List.length_nil] at hn;rw[if_neg (by omega),List.append_nil]
 |cons x rest ih=>
  intro done c n hn hs hin hc;have hx:=hin.cons.1;simp only[List.length_cons] at hn;have hcar:=zdX (B:=1000000000) (x:=x.toNat) (by omega) hc (by omega);have hxm:x.toNat*by_<=1000000000*400000:=Nat.mul_le_mul (by omega) hby;(have hxe:x=(x.toNat:Int):=by omega);have:=ih (done++[(((x.toNat*by_+c)%1000000000:Nat):Int)]) ((x.toNat*by_+c) / 1000000000) n (by simp;omega) hs hin.cons.2 hcar;unfold mulGo;rw[List.append_assoc,List.append_assoc] at this;simp only[List.singleton_append] at this;refine Ev.step (f:=λk=>zak.l0 k (done++(((x.toNat*by_+c)%1000000000:Nat):Int)::rest) (by_:Int) (((x.toNat*by_+c) / 1000000000:Nat):Int) (n:Int) ((done++[(((x.toNat*by_+c)%1000000000:Nat):Int)]).length:Int)) (λk=>?_) this;simp only[zak.l0];have em:(IntKind.u64.wrap ((IntKind.u64.wrap ((rd (done++x::rest) (done.length:Int))*(by_:Int)))+(c:Int)))=((x.toNat*by_+c:Nat):Int):=by
   rw[zc6,hxe];(have h1:(x.toNat:Int)*(by_:Int)=((x.toNat*by_:Nat):Int):=by omega);rw[Int.toNat_natCast,h1,zbL (x:=((x.toNat*by_:Nat):Int)) (by omega) (by omega),zbL (by omega) (by omega)];omega
  rw[if_pos (by omega),if_pos (by omega),if_pos (by rw[List.length_append,List.length_cons];omega),em,zcj (by omega),zcH (by omega),Int.toNat_natCast,set_mid];(have e1:(((x.toNat*by_+c:Nat):Int)%1000000000)=(((x.toNat*by_+c)%1000000000:Nat):Int):=by omega);(have e2:(((x.toNat*by_+c:Nat):Int) / 1000000000)=(((x.toNat*by_+c) / 1000000000:Nat):Int):=by omega);rw[e1,e2,zbL (by omega) (by omega),zap (by omega) (by omega)];congr 1;simp
theorem zd0(xs:List Int)(by_:Nat)(hby:by_<=400000)(hin:InB 1000000000 xs)(hl:xs.length<=50000):Ev (λk=>zak.f k xs (by_:Int)) (mulGo 1000000000 by_ xs 0):=by
 have:=zfz by_ hby xs [] 0 xs.length (by simp) hl hin (by omega);simpa [zak.f] using this
theorem zeC: ∀(n:Nat) (l:List Int),l.length=n->n<=100000-> ∃l',Ev (λk=>zai.f k l) l'/\lv 1000000000 l'=lv 1000000000 l/\l'.length<=l.length/\ ∀x∈l',x∈l:=by
 intro n;induction n with
 |zero=>
  intro l hl _;refine⟨l,Ev.step (f:=λ_=>some l) (λk=>?_) (Ev.now _),rfl,Nat.le_refl _,λx h=>h⟩;simp only[zai.f,zai.l0];rw[if_neg (by omega)]
 |succ n ih=>
  intro l hl hn;obtain⟨t,c,rfl⟩: ∃t c,l=t++[c]:=by
   rcases List.eq_nil_or_concat l with h|⟨t,c,h⟩
   ·rw[h] at hl;cases hl
   ·exact⟨t,c,by rw[h,List.concat_eq_append]⟩
  (have htl:t.length=n:=by simpa using hl);(have hw:wrap64 (((t++[c]).length:Int)-1)=(t.length:Int):=by rw[zap (by omega) (by omega)];omega);have hrd:rd (t++[c]) (t.length:Int)=c:=zc6 t c [];by_cases h:c=0
  ·obtain⟨l',h1,h2,h3,h4⟩:=ih t htl (by omega);refine⟨l',Ev.step (f:=λk=>zai.f k t) (λk=>?_) h1,by rw[h2,zeW,h];simp[lv],by simp;omega,λx hx=>List.mem_append_left _ (h4 x hx)⟩;simp only[zai.f,zai.l0];rw[if_pos (by omega),hw,if_pos (by omega),if_pos (by omega),hrd,if_pos h,if_pos (by omega)];simp
  ·refine⟨t++[c],Ev.step (f:=λ_=>some (t++[c])) (λk=>?_) (Ev.now _),rfl,Nat.le_refl _,λx hx=>hx⟩;simp only[zai.f,zai.l0];rw[if_pos (by omega),hw,if_pos (by omega),if_pos (by omega),hrd,if_neg h]
def b9(x:Nat):List UInt8:=
  [ch (x / 10 / 10 / 10 / 10 / 10 / 10 / 10 / 10%10),ch (x / 10 / 10 / 10 / 10 / 10 / 10 / 10%10),ch (x / 10 / 10 / 10 / 10 / 10 / 10%10),ch (x / 10 / 10 / 10 / 10 / 10%10),
   ch (x / 10 / 10 / 10 / 10%10),ch (x / 10 / 10 / 10%10),ch (x / 10 / 10%10),ch (x / 10%10),ch (x%10)]
theorem zg1{x:Nat}(h:x<1000000000):val (b9 x)=x:=by
 unfold b9 val;simp only[List.foldl_cons,List.foldl_nil];rw[zbd (by omega),zbd (by omega),zbd (by omega),zbd (by omega),zbd (by omega),zbd (by omega),zbd (by omega),zbd (by omega),zbd (by omega)];omega
theorem zg2(x:Nat):AllD (b9 x):=by
 intro c hc;unfold b9 at hc;simp only[List.mem_cons,List.not_mem_nil,or_false] at hc;rcases hc with rfl|rfl|rfl|rfl|rfl|rfl|rfl|rfl|rfl<;>(rw[zba (by omega)];omega)
theorem zfA{x:Int}(h0:0<=x):(zbV x).map (λn=>UInt8.ofNat n.toNat)=b9 x.toNat:=by
 obtain⟨n,rfl⟩:=Int.eq_ofNat_of_zero_le h0;unfold zbV b9 ch;simp only[List.map_cons,List.map_nil,Int.toNat_natCast];congr 2<;>omega
theorem zeD{l:List Int}(h:InB 1000000000 l):val (L (strOfNums (limbsText l)))=lv 1000000000 l/\AllD (L (strOfNums (limbsText l))):=by
 rw[zcO];induction l with
 |nil=>exact⟨rfl,AllD.nil⟩
 |cons x l ih=>
  have hx:=h.cons.1;obtain⟨h1,h2⟩:=ih h.cons.2;have e:limbsText (x::l)=limbsText l++zbV x:=by
   unfold limbsText;rw[List.reverse_cons,List.map_append,List.flatten_append];simp
  rw[e,List.map_append,zfA hx.1];refine⟨?_,h2.append (zg2 _)⟩;rw[val_append,h1,zg1 (by omega),lv];have:(b9 x.toNat).length=9:=rfl;rw[this];omega
theorem zgh(l:List Int)(h:InB 1000000000 l)(hl:l.length<=100000):Ev (λk=>za0.f k l) (S (digs (lv 1000000000 l))):=by
 obtain⟨l',h1,h2,h3,h4⟩:=zeC l.length l rfl hl;have h5:InB 1000000000 l':=λx hx=>h x (h4 x hx);obtain⟨h6,h7⟩:=zeD h5;unfold za0.f;refine Ev.congr (f:=λk=>(zai.f k l).bind ((λ(_:Nat) (lx:List Int)=>if lx.length<=l.length/\ ∀x∈lx,0<=x/\x<=999999999 then zaE.f (strOfNums (limbsText lx)) ⟨#[48]⟩ else none) k)) (λk=>?_) (Ev.bind h1 ?_)
 ·rw[if_pos ⟨hl,λx hx=>by have:=h x hx;omega⟩]
 ·refine Ev.congr (λk=>?_) (Ev.now _);show(if l'.length<=l.length/\ ∀x∈l',0<=x/\x<=999999999 then zaE.f (strOfNums (limbsText l')) ⟨#[48]⟩ else none)=some (S (digs (lv 1000000000 l)));rw[if_pos ⟨h3,λx hx=>by have:=h5 x hx;omega⟩,trimL,zfV h7,h6,h2]
def eLim(e:Int):Int:=if e<0 then e else 0
def eBase(e:Int):Nat:=if e<0 then 5 else 2
def exactS(m:Nat)(e:Int):ByteArray×Int×Int:=
  if e< -1200\/1200<e then(⟨#[]⟩,0,1) else((decS (decOf (m*eBase e^e.natAbs) (eLim e))).1,(decS (decOf (m*eBase e^e.natAbs) (eLim e))).2,0)
theorem ze2(l:List Int)(pt:Int)(h:InB 1000000000 l)(hl:l.length<=20000)(hp: -5000<=pt/\pt<=5000):
 Ev (λk=>(za0.f k l).bind λt=>(zax.f t (wrap64 ((t.size:Int)+pt))).bind λbt=>some (bt.1,bt.2,(0:Int))) ((decS (decOf (lv 1000000000 l) pt)).1,(decS (decOf (lv 1000000000 l) pt)).2,0):=by
 refine Ev.bind (zgh l h (by omega)) (Ev.congr (λk=>?_) (Ev.now _));have hlt:=zhh h;have hd:(digs (lv 1000000000 l)).length<=9*l.length:=zcT _ _ (by rw[Nat.pow_mul];exact hlt);generalize lv 1000000000 l=n at hd ⊢;rw[zaA,zap (by omega) (by omega),zch _ _ (by rw[zaA];omega) (by omega) (by omega),L_S,zbh (zdx n),zb0,Option.bind_some];(have:((digs n).length:Int)+pt-((digs n).length:Int)=pt:=by omega);rw[this]
theorem zfB(b:Nat)(hb:b=2\/b=5)(pt:Int)(hp: -5000<=pt/\pt<=5000): ∀(e:Nat) (l:List Int),InB 1000000000 l->l.length+e<=20000->
 Ev (λk=>zab.l1 k (e:Int) l (b:Int) pt) ((decS (decOf (lv 1000000000 l*b^e) pt)).1,(decS (decOf (lv 1000000000 l*b^e) pt)).2,0):=by
 intro e;induction e with
 |zero=>
  intro l h hl;rw[Nat.pow_zero,Nat.mul_one];refine Ev.step (λk=>?_) (ze2 l pt h (by omega) hp);simp only[zab.l1];rw[if_neg (by omega)]
 |succ e ih=>
  intro l h hl;(have A:b<=5:=by omega);have h1:=zd0 l b (by omega) h (by omega);have h2:=ih (mulGo 1000000000 b l 0) (zcS (by omega) l 0 h (by omega)) (by have:=zcC (B:=1000000000) (by_:=b) l 0;omega);rw[zc5 (by omega),Nat.mul_assoc,<-Nat.pow_succ'] at h2;refine Ev.step (λk=>?_) (Ev.bind (f:=λk t=>zab.l1 k (e:Int) t (b:Int) pt) h1 h2);simp only[zab.l1];rw[if_pos (by omega)];(have:wrap64 (((e+1:Nat):Int)-1)=(e:Int):=by rw[zap (by omega) (by omega)];omega);rw[this]
theorem pow8(b:Nat)(hb:b=2\/b=5):(IntKind.u64.wrap ((IntKind.u64.wrap ((IntKind.u64.wrap ((IntKind.u64.wrap ((IntKind.u64.wrap ((IntKind.u64.wrap ((IntKind.u64.wrap ((b:Int)*b))*b))*b))*b))*b))*b))*b))=((b^8:Nat):Int):=by
 rcases hb with rfl|rfl<;>rfl
theorem zfC(b:Nat)(hb:b=2\/b=5)(pt:Int)(hp: -5000<=pt/\pt<=5000): ∀(e:Nat) (l:List Int),InB 1000000000 l->l.length+e<=20000->
 Ev (λk=>zab.l0 k (e:Int) l (b:Int) pt) ((decS (decOf (lv 1000000000 l*b^e) pt)).1,(decS (decOf (lv 1000000000 l*b^e) pt)).2,0):=by
 intro e;induction e using Nat.strongRecOn with
 |_ e ih=>
  intro l h hl;(have A:b^8<=390625:=by rcases hb with rfl|rfl<;>decide);by_cases he:e>=8
  ·have h1:=zd0 l (b^8) (by omega) h (by omega);have h2:=ih (e-8) (by omega) (mulGo 1000000000 (b^8) l 0) (zcS (by omega) l 0 h (by omega)) (by have:=zcC (B:=1000000000) (by_:=b^8) l 0;omega);rw[zc5 (by omega),Nat.mul_assoc,<-Nat.pow_add,show 8+(e-8)=e by omega] at h2;refine Ev.step (λk=>?_) (Ev.bind (f:=λk t=>zab.l0 k ((e-8:Nat):Int) t (b:Int) pt) h1 h2);simp only[zab.l0];rw[if_pos (by omega),pow8 b hb];(have:wrap64 ((e:Int)-8)=((e-8:Nat):Int):=by rw[zap (by omega) (by omega)];omega);rw[this]
  ·refine Ev.step (λk=>?_) (zfB b hb pt hp e l h hl);simp only[zab.l0];rw[if_neg (by omega)]
theorem zbB(m:Nat)(e:Int)(hm:m<18446744073709551616):Ev (λk=>zab.f k (m:Int) e) (exactS m e):=by
 unfold exactS;by_cases h1:e< -1200
 ·rw[if_pos (.inl h1)];refine Ev.congr (f:=λk=>zab.j0 k (m:Int) e true) (λk=>?_) (Ev.step (f:=λ_=>some ((⟨#[]⟩:ByteArray),(0:Int),(1:Int))) (λk=>rfl) (Ev.now _));unfold zab.f;rw[if_pos h1]
 ·by_cases h2:1200<e
  ·rw[if_pos (.inr h2)];refine Ev.congr (f:=λk=>zab.j0 k (m:Int) e true) (λk=>?_) (Ev.step (f:=λ_=>some ((⟨#[]⟩:ByteArray),(0:Int),(1:Int))) (λk=>rfl) (Ev.now _));unfold zab.f;rw[if_neg h1,decide_eq_true (by omega)]
  ·rw[if_neg (by omega)]
   have hin:InB 1000000000 [((m%1000000000:Nat):Int),((m / 1000000000%1000000000:Nat):Int),((m / 1000000000 / 1000000000:Nat):Int)]:=
    InB.mk ⟨by omega,by omega⟩ (InB.mk ⟨by omega,by omega⟩ (InB.mk ⟨by omega,by omega⟩ (InB.nil _)))
   have hv:lv 1000000000 [((m%1000000000:Nat):Int),((m / 1000000000%1000000000:Nat):Int),((m / 1000000000 / 1000000000:Nat):Int)]=m:=by
    simp only[lv,Int.toNat_natCast];omega
   have key:=zfC (eBase e) (by unfold eBase;split<;>omega) (eLim e) (by unfold eLim;split<;>omega) e.natAbs _ hin (by simp;omega);rw[hv] at key;have hl:([Int.tmod (m:Int) 1000000000,Int.tmod (IntKind.u64.wrap (Int.tdiv (m:Int) 1000000000)) 1000000000,IntKind.u64.wrap (Int.tdiv (IntKind.u64.wrap (Int.tdiv (m:Int) 1000000000)) 1000000000)]:List Int)=[((m%1000000000:Nat):Int),((m / 1000000000%1000000000:Nat):Int),((m / 1000000000 / 1000000000:Nat):Int)]:=by
    rw[zcj (by omega),zcH (by omega),zbL (by omega) (by omega),zcj (by omega),zcH (by omega),zbL (by omega) (by omega)];congr 2
   refine Ev.congr (f:=λk=>zab.j0 k (m:Int) e false) (λk=>?_) (Ev.step (f:=λk=>zab.j1 k (e.natAbs:Int) [((m%1000000000:Nat):Int),((m / 1000000000%1000000000:Nat):Int),((m / 1000000000 / 1000000000:Nat):Int)] (eBase e:Int) (eLim e)) (λk=>?_) (Ev.step (λk=>rfl) key))
   ·unfold zab.f;rw[if_neg h1,decide_eq_false (by omega)]
   ·simp only[zab.j0];rw[if_neg (by simp),hl,Option.bind_some];unfold eBase eLim;by_cases h3:e<0
    ·rw[if_pos h3,if_pos h3,if_pos h3,zap (by omega) (by omega)];(have:(-e:Int)=(e.natAbs:Int):=by omega);rw[this];rfl
    ·rw[if_neg h3,if_neg h3,if_neg h3];(have:(e:Int)=(e.natAbs:Int):=by omega);rw[<-this];rfl
def sumD(a:List UInt8)(p:Int)(b:List UInt8)(q:Int):List UInt8×Int:=
  decOf (sv a p (min (p-a.length) (q-b.length))+sv b q (min (p-a.length) (q-b.length))) (min (p-a.length) (q-b.length))
theorem zck{a b:List UInt8}{p q E:Int}(h1:E<=p-a.length)(h2:E<=q-b.length):sumD a p b q=decOf (sv a p E+sv b q E) E:=by
 unfold sumD;obtain⟨k,hk⟩: ∃k:Nat,E=min (p-(a.length:Int)) (q-b.length)-k:=⟨(min (p-(a.length:Int)) (q-b.length)-E).toNat,by omega⟩;rw[hk,zcp a p _ (by omega),zcp b q _ (by omega),<-Nat.add_mul,zcd]
theorem zdD(a:List UInt8)(p:Int)(b:List UInt8)(q:Int):sumD a p b q=sumD b q a p:=by
 rw[zck (a:=a) (b:=b) (E:=min (p-(a.length:Int)) (q-b.length)) (by omega) (by omega),zck (a:=b) (b:=a) (E:=min (p-(a.length:Int)) (q-b.length)) (by omega) (by omega),Nat.add_comm]
theorem zbP{b:List UInt8}{q:Int}(hb:InForm b q)(p:Int):sumD [] p b q=(b,q):=by
 rw[zck (E:=min (p-(([]:List UInt8).length:Int)) (q-b.length)) (by omega) (by omega)];(have:sv [] p (min (p-(([]:List UInt8).length:Int)) (q-b.length))=0:=by unfold sv;rw[zaI,Nat.zero_mul]);rw[this,Nat.zero_add,zfx hb (by omega)]
theorem zdn{a:List UInt8}{p:Int}(ha:InForm a p)(q:Int):sumD a p [] q=(a,p):=by rw[zdD,zbP ha]
theorem zfD{A B v c m:Nat}(h:v+c*10^m=A%10^m+B%10^m):
 v+(c+A / 10^m%10+B / 10^m%10)%10*10^m+(c+A / 10^m%10+B / 10^m%10) / 10*10^(m+1)=A%10^(m+1)+B%10^(m+1):=by
 have e1:=Nat.mod_pow_succ (x:=A) (b:=10) (k:=m);have e2:=Nat.mod_pow_succ (x:=B) (b:=10) (k:=m);rw[e1,e2];generalize hs:c+A / 10^m%10+B / 10^m%10=s;have hd:=Nat.div_add_mod s 10;(have e3:s / 10*10^(m+1)=10*(s / 10)*10^m:=by rw[Nat.pow_succ,Nat.mul_comm (10^m) 10,<-Nat.mul_assoc,Nat.mul_comm (s / 10) 10]);rw[e3];(have e4:s%10*10^m+10*(s / 10)*10^m=s*10^m:=by rw[<-Nat.add_mul];congr 1;omega);(have e5:s*10^m=c*10^m+10^m*(A / 10^m%10)+10^m*(B / 10^m%10):=by rw[<-hs,Nat.add_mul,Nat.add_mul,Nat.mul_comm (A / 10^m%10),Nat.mul_comm (B / 10^m%10)]);omega
def toI(l:List UInt8):List Int:=l.map λb=>(b.toNat:Int)
theorem zaZ(a b:List UInt8):toI (a++b)=toI a++toI b:=List.map_append
theorem zbl(a:List UInt8):(toI a).length=a.length:=List.length_map _
theorem zdE(l:List UInt8):bytesOf (S l)=toI l:=rfl
theorem zdF(l:List UInt8):strOfNums (toI l)=S l:=by
 rw[<-S_L (strOfNums (toI l)),zcO];congr 1;unfold toI;rw[List.map_map];have:List.map ((λn:Int=>UInt8.ofNat n.toNat)∘λb:UInt8=>(b.toNat:Int)) l=List.map id l:=by
  apply List.map_congr_left;intro c _;simp[Function.comp]
 rw[this,List.map_id]
theorem zgi(A:ByteArray)(p:Int)(B:ByteArray)(q:Int)(n:Nat)(hn:n<=100000)(h2:2<=n)(hA:A.size+1<=n)(r:ByteArray×Int×Int)
 (h:Ev (λk=>zah.j2 k (cpyAt (List.replicate n 48) 1 A) A p B q) r):
 ∀(d i:Nat),i+d=n->Ev (λk=>zah.l0 k (List.replicate i 48++List.replicate d 0) (n:Int) (i:Int) A p B q) r:=by
 intro d;induction d with
 |zero=>
  intro i hi;refine Ev.step (λk=>?_) h;(have e:i=n:=by omega);subst e;simp only[zah.l0];rw[if_neg (by omega),List.replicate_zero,List.append_nil,if_pos (by rw[List.length_replicate];omega),if_pos (by rw[List.length_replicate];omega),if_pos (by rw[List.length_replicate];omega)]
 |succ d ih=>
  intro i hi;refine Ev.step (λk=>?_) (ih (i+1) (by omega));simp only[zah.l0];have e:(List.replicate i (48:Int)++List.replicate (d+1) 0).set i 48=List.replicate (i+1) 48++List.replicate d 0:=by
   have:=set_mid (List.replicate i (48:Int)) 0 48 (List.replicate d 0);rw[List.length_replicate] at this;rw[List.replicate_succ,this,List.replicate_succ' (n:=i)];simp
  rw[if_pos (by omega),if_pos (by omega),if_pos (by simp;omega),Int.toNat_natCast,e,zap (by omega) (by omega)];rfl
theorem zg3{a b:List UInt8}{p q E:Int}{n:Nat}(orig:List UInt8)(ho:AllD orig)(hol:orig.length=n)(hn:(n:Int)=p+1-E)(hov:val orig=sv a p E)(ha:AllD a)(hb:AllD b)
    (h1:E<=p-a.length) (h2:E<=q-b.length) (hqp:q<=p)
    (hba:a.length<=4000/\ -10000<=p/\p<=10000) (hbb:b.length<=4000/\ -10000<=q/\q<=10000) (hE: -20000<=E) (hEp:E<p):
    ∀(j:Nat) (done:List UInt8) (c:Nat),j+done.length=n->AllD done->c<=1->val done+c*10^done.length=sv a p E%10^done.length+sv b q E%10^done.length->
      Ev (λk=>zah.l1 k (toI (orig.take j)++toI done) (c:Int) ((j:Int)-1) (S a) p (S b) q)
        (if(decOf (sv a p E+sv b q E) E).1.length>2000 then((⟨#[]⟩:ByteArray),0,2) else((decS (decOf (sv a p E+sv b q E) E)).1,(decS (decOf (sv a p E+sv b q E) E)).2,0)):=by
  intro j;induction j with
  |zero=>
    intro done c hd hin hc hv;have hla:=zcq ha h1;have hlb:=zcq hb h2;have hA:10^(p-E).toNat<=10^(done.length-1):=Nat.pow_le_pow_right (by omega) (by omega);have hB:10^(q-E).toNat<=10^(done.length-1):=Nat.pow_le_pow_right (by omega) (by omega);(have hpw:10^done.length=10^(done.length-1)*10:=by rw[<-Nat.pow_succ];congr 1;omega);rw[Nat.mod_eq_of_lt (by omega),Nat.mod_eq_of_lt (by omega)] at hv;have B:c=0:=by
      rcases Nat.eq_zero_or_pos c with h|h
      ·exact h
      ·(have:c=1:=by omega);subst this;omega
    rw[B,Nat.zero_mul,Nat.add_zero] at hv;have hf:=zch (S done) (p+1) (by rw[zaA];omega) (by omega) (by omega);rw[L_S,zbh hin,hv] at hf;(have e:p+1-(done.length:Int)=E:=by omega);rw[e] at hf;refine Ev.step (λk=>?_) (Ev.now _);simp only[zah.l1];rw[if_neg (by omega),List.take_zero];have e2:toI []++toI done=toI done:=rfl;rw[e2,zdF,zap (by omega) (by omega),hf,Option.bind_some];(have e3:((decS (decOf (sv a p E+sv b q E) E)).1.size:Int)=((decOf (sv a p E+sv b q E) E).1.length:Int):=by unfold decS;rw[zaA]);rw[e3];by_cases h5:(decOf (sv a p E+sv b q E) E).1.length>2000
    ·rw[if_pos h5,if_pos (by omega)]
    ·rw[if_neg h5,if_neg (by omega)]
  |succ i ih=>
    intro done c hd hin hc hv;(have hil:i<orig.length:=by omega);(have hm:done.length=n-1-i:=by omega);have hx:=ho orig[i] (List.getElem_mem hil);have hda:dig orig[i]=sv a p E / 10^done.length%10:=by
      rw[<-hov,hm,<-hol,zdC ho i hil]
    have hst:=zfD hv;rw[<-hda] at hst;generalize hs:c+dig orig[i]+sv b q E / 10^done.length%10=s at hst;(have hdl:dig orig[i]<=9:=by unfold dig;omega);have I:s<=19:=by omega
    have:=ih (ch (s%10)::done) (s / 10) (by simp;omega) (by
      intro c' hc'
      rcases List.mem_cons.1 hc' with rfl|h'
      ·rw[zba (by omega)];omega
      ·exact hin c' h') (by omega) (by
      rw[zaX,List.length_cons,zbd (by omega)]
      omega)
    have etk:orig.take (i+1)=orig.take i++[orig[i]]:=List.take_succ_eq_append_getElem hil;(have hti:(toI (orig.take i)).length=i:=by rw[zbl,List.length_take];omega);have erd:rd (toI (orig.take (i+1))++toI done) (i:Int)=(orig[i].toNat:Int):=by
      have h3:=zc6 (toI (orig.take i)) (orig[i].toNat:Int) (toI done);rw[hti] at h3;rw[etk,zaZ,List.append_assoc];exact h3
    have est: ∀v:Int,(toI (orig.take (i+1))++toI done).set i v=toI (orig.take i)++v::toI done:=by
      intro v;have h3:=set_mid (toI (orig.take i)) (orig[i].toNat:Int) v (toI done);rw[hti] at h3;rw[etk,zaZ,List.append_assoc];exact h3
    have ecur:toI (orig.take i)++toI (ch (s%10)::done)=toI (orig.take i)++(48+((s%10:Nat):Int))::toI done:=by
      unfold toI;rw[List.map_cons,zba (by omega)];congr 2
    rw[ecur] at this;(have edig:((orig[i].toNat:Int)-48)%256=(dig orig[i]:Int):=by unfold dig;omega);refine Ev.step (λk=>?_) this;(have ei:(((i+1:Nat):Int)-1)=(i:Int):=by omega);simp only[zah.l1];(have hll:((toI (orig.take (i+1))++toI done).length:Int)=(n:Int):=by rw[List.length_append,zbl,zbl,List.length_take];omega);have ew:(wrap64 ((wrap64 ((i:Int)-1))-(wrap64 (p-q))))=(i:Int)-1-(p-q):=by
      rw[zap (x:=(i:Int)-1) (by omega) (by omega),zap (x:=p-q) (by omega) (by omega),zap (by omega) (by omega)]
    rw[ei,if_pos (by omega),if_pos (by omega),if_pos (by rw[hll];omega),ew,Int.toNat_natCast,erd,edig,zap (x:=(i:Int)-1) (by omega) (by omega)];simp only[est,zaA]
    -- the other one's digit at this place
    have hdb: ∀r:Option (ByteArray×Int×Int),True:=λ_=>trivial;have A:=digit_eq (x:=p-i) hb h2 (by omega) (by omega);(have en:(p-(i:Int)-E).toNat=done.length:=by omega);rw[en] at A;unfold zbn.f at A;have D:(wrap64 ((wrap64 (q-1))-(p-(i:Int))))=(i:Int)-1-(p-q):=by
      rw[zap (x:=q-1) (by omega) (by omega),zap (by omega) (by omega)];omega
    rw[D,zaA] at A;by_cases c1:(i:Int)-1-(p-q)>=0
    ·rw[if_pos c1];rw[if_neg (by omega)] at A;by_cases c2:(i:Int)-1-(p-q)<(b.length:Int)
     ·rw[if_pos c2,if_pos c1];rw[if_neg (by omega),if_pos c1,if_pos c2] at A;(injection A with A);rw[A];(have e1:(((dig orig[i]:Int)+(c:Int))%256+((sv b q E / 10^done.length%10:Nat):Int))%256=(s:Int):=by omega);rw[e1];(have e2:(s:Int)%10=((s%10:Nat):Int):=by omega);(have e3:(s:Int) / 10=((s / 10:Nat):Int):=by omega);rw[e2,e3]
     ·rw[if_neg c2];rw[if_pos (by omega)] at A;(injection A with A);(have e1:(((dig orig[i]:Int)+(c:Int))%256)=(s:Int):=by omega);rw[e1];(have e2:(s:Int)%10=((s%10:Nat):Int):=by omega);(have e3:(s:Int) / 10=((s / 10:Nat):Int):=by omega);rw[e2,e3]
    ·rw[if_neg c1];rw[if_pos (by omega)] at A;(injection A with A);(have e1:(((dig orig[i]:Int)+(c:Int))%256)=(s:Int):=by omega);rw[e1];(have e2:(s:Int)%10=((s%10:Nat):Int):=by omega);(have e3:(s:Int) / 10=((s / 10:Nat):Int):=by omega);rw[e2,e3]
def addD(a:List UInt8)(p:Int)(b:List UInt8)(q:Int):ByteArray×Int×Int:=
  if(sumD a p b q).1.length>2000 then((⟨#[]⟩:ByteArray),0,2) else((decS (sumD a p b q)).1,(decS (sumD a p b q)).2,0)
theorem zdG(a:List UInt8)(p:Int)(b:List UInt8)(q:Int):addD a p b q=addD b q a p:=by unfold addD;rw[zdD]
theorem zcw{b:List UInt8}{q:Int}(hb:InForm b q)(hl:b.length<=2000)(p:Int):addD [] p b q=(S b,q,0):=by
 unfold addD;rw[zbP hb,if_neg (show¬(b,q).1.length>2000 from by show¬b.length>2000;omega)];rfl
theorem zd1{a b:List UInt8}{p q:Int}(ha:InForm a p)(hb:InForm b q)(hn:b≠[])(h:p<q):cmpD a p b q= -1:=by
 have h1:=zcq (E:=min (p-(a.length:Int)) (q-b.length)) (p:=p) ha.1 (by omega);have h2:=zdN (E:=min (p-(a.length:Int)) (q-b.length)) (p:=q) hb.1 hb.2.1 hn (by omega);have h3:10^(p-min (p-(a.length:Int)) (q-b.length)).toNat<=10^(q-1-min (p-(a.length:Int)) (q-b.length)).toNat:=Nat.pow_le_pow_right (by omega) (by omega);unfold cmpD;exact zbz (by omega)
theorem zb8(a:List UInt8)(p:Int)(b:List UInt8)(q:Int):cmpD a p b q= -cmpD b q a p:=by
 (have h:min (q-(b.length:Int)) (p-a.length)=min (p-(a.length:Int)) (q-b.length):=by omega);unfold cmpD;rw[h];unfold cmpN;split<;>split<;>(try split)<;>omega
theorem zem(a:List UInt8)(n:Nat)(h:a.length+1<=n):cpyAt (List.replicate n 48) 1 (S a)=toI (48::(a++List.replicate (n-1-a.length) 48)):=by
 unfold cpyAt;rw[zdE,zaA];have e1:(List.replicate n (48:Int)).take 1=toI [48]:=by
  rw[List.take_replicate,Nat.min_eq_left (by omega)];rfl
 have e2:(List.replicate n (48:Int)).drop (1+a.length)=toI (List.replicate (n-1-a.length) 48):=by
  rw[List.drop_replicate];unfold toI;rw[List.map_replicate,show n-(1+a.length)=n-1-a.length by omega];rfl
 rw[e1,e2,<-zaZ,<-zaZ,List.append_assoc];rfl
theorem ze3{a b:List UInt8}{p q:Int}(ha:InForm a p)(hb:InForm b q)(hna:a≠[])(hqp:q<=p)
 (hba:a.length<=4000/\ -10000<=p/\p<=10000) (hbb:b.length<=4000/\ -10000<=q/\q<=10000):Ev (λk=>zah.j0 k (S a) p (S b) q) (addD a p b q):=by
 have hal:0<a.length:=List.length_pos_iff.2 hna;obtain⟨E,hE⟩: ∃E:Int,E=min (p-(a.length:Int)) (q-b.length):=⟨_,rfl⟩;obtain⟨n,hn⟩: ∃n:Nat,(n:Int)=p+1-E:=⟨(p+1-E).toNat,by omega⟩;have hall:AllD (48::(a++List.replicate (n-1-a.length) 48)):=by
  intro c hc;rcases List.mem_cons.1 hc with rfl|h'
  ·exact⟨by decide,by decide⟩
  ·rcases List.mem_append.1 h' with h'|h'
   ·exact ha.1 c h'
   ·rw[List.eq_of_mem_replicate h'];exact⟨by decide,by decide⟩
 have hlen:(48::(a++List.replicate (n-1-a.length) (48:UInt8))).length=n:=by
  rw[List.length_cons,List.length_append,List.length_replicate];omega
 have hval:val (48::(a++List.replicate (n-1-a.length) 48))=sv a p E:=by
  rw[zaX,val_append,zbK,List.length_replicate];unfold sv;rw[show(p-(a.length:Int)-E).toNat=n-1-a.length by omega,show dig 48=0 from rfl];omega
 have h1:=zg3 (E:=E) (p:=p) (q:=q) (n:=n) (a:=a) (b:=b) _ hall hlen hn hval ha.1 hb.1 (by omega) (by omega) hqp hba hbb (by omega) (by omega) n [] 0 (by simp) AllD.nil (by omega) (by simp[Nat.mod_one,zaI]);rw[List.take_of_length_le (by rw[hlen];omega)] at h1;have e0:toI ([]:List UInt8)=[]:=rfl;rw[e0,List.append_nil,<-zem a n (by omega),<-zck (E:=E) (p:=p) (q:=q) (by omega) (by omega)] at h1;have h2:Ev (λk=>zah.j2 k (cpyAt (List.replicate n 48) 1 (S a)) (S a) p (S b) q) (addD a p b q):=by
  refine Ev.step (λk=>?_) h1;simp only[zah.j2];(have e:(cpyAt (List.replicate n 48) 1 (S a)).length=n:=by rw[zem a n (by omega),zbl,hlen]);rw[e,zap (x:=(n:Int)-1) (by omega) (by omega)];rfl
 have h3:=zgi (S a) p (S b) q n (by omega) (by omega) (by rw[zaA];omega) _ h2 n 0 (by omega);rw[List.replicate_zero,List.nil_append] at h3;refine Ev.step (λk=>?_) h3;simp only[zah.j0];have em:wrap64 (wrap64 (p-mn (wrap64 (p-((S a).size:Int))) (wrap64 (q-((S b).size:Int))))+1)=(n:Int):=by
  rw[zaA,zaA,zap (x:=p-(a.length:Int)) (by omega) (by omega),zap (x:=q-(b.length:Int)) (by omega) (by omega)];(have e2:mn (p-(a.length:Int)) (q-b.length)=E:=by unfold mn;split<;>omega);rw[e2,zap (x:=p-E) (by omega) (by omega),zap (x:=p-E+1) (by omega) (by omega)];omega
 rw[em,if_pos (by omega),Int.toNat_natCast,if_pos (by omega),Option.bind_some,List.length_replicate];rfl
def addS(s:ByteArray)(p:Int)(t:ByteArray)(q:Int):ByteArray×Int×Int:=
  if(normS s p).2.2=0 then(if(normS t q).2.2=0 then addD (L (normS s p).1) (normS s p).2.1 (L (normS t q).1) (normS t q).2.1 else((⟨#[]⟩:ByteArray),0,(normS t q).2.2)) else((⟨#[]⟩:ByteArray),0,(normS s p).2.2)
theorem zgj(s:ByteArray)(p:Int)(t:ByteArray)(q:Int):Ev (λk=>zah.f k s p t q) (addS s p t q):=by
 unfold zah.f addS;refine Ev.bind (zeX s p t q) ?_;rcases zbe s p with⟨e,h1,h2,_⟩|⟨l,u,h1,A,b1,b2,b3,_⟩
 ·rw[h1,if_neg h2,if_neg h2];exact Ev.congr (λk=>by rw[if_neg h2]) (Ev.now _)
 ·rw[h1,if_pos rfl,if_pos rfl];rcases zbe t q with⟨e,h3,h4,_⟩|⟨m,v,h3,B,c1,c2,c3,_⟩
  ·rw[h3,if_neg h4];exact Ev.congr (λk=>by rw[if_neg h4]) (Ev.now _)
  ·rw[h3,if_pos rfl];show Ev _ (addD (L (S l)) u (L (S m)) v);rw[L_S,L_S];by_cases n1:l=[]
   ·subst n1;rw[zcw B c1];exact Ev.congr (λk=>by rw[if_pos rfl,zaY,L_S,if_pos rfl]) (Ev.now _)
   ·by_cases n2:m=[]
    ·subst n2;rw[zdG,zcw A b1];exact Ev.congr (λk=>by rw[if_pos rfl,zaY,L_S,if_neg n1,zaY,L_S,if_pos rfl]) (Ev.now _)
    ·refine Ev.congr (λk=>by rw[if_pos rfl,zaY,L_S,if_neg n1,zaY,L_S,if_neg n2]) (Ev.bind (cmp_eq A B) ?_);by_cases n3:cmpD l u m v<0
     ·refine Ev.congr (λk=>by rw[if_pos n3]) ?_;rw[zdG];refine ze3 (a:=m) (p:=v) (b:=l) (q:=u) B A n2 ?_ (by omega) (by omega);by_cases n4:u<=v
      ·exact n4
      ·have h5:=zd1 B A n1 (show v<u by omega);have h6:=zb8 l u m v;omega
     ·refine Ev.congr (λk=>by rw[if_neg n3]) ?_;refine ze3 (a:=l) (p:=u) (b:=m) (q:=v) A B n1 ?_ (by omega) (by omega);by_cases n4:v<=u
      ·exact n4
      ·have h5:=zd1 A B n2 (show u<v by omega);omega
theorem zb9{n:Nat}(h:n≠0)(e:Int):e<=(decOf n e).2-(decOf n e).1.length:=by
 unfold decOf;rw[if_neg h];have:=zbt (digs n);show e<=((digs n).length:Int)+e-(rz (digs n)).length;omega
theorem zb1(n:Nat)(e:Int):sv (decOf n e).1 (decOf n e).2 e=n:=by
 by_cases h:n=0
 ·subst h;unfold sv;rw[zbS];show val []*_=0;rw[zaI,Nat.zero_mul]
 ·unfold sv decOf;rw[if_neg h];obtain⟨k,hk⟩:=zb6 (digs n);have hv:=zb0 n;have hlen:=congrArg List.length hk;rw[List.length_append,List.length_replicate] at hlen;rw[hk,val_append,zbK,List.length_replicate] at hv;show val (rz (digs n))*10^(((digs n).length:Int)+e-(rz (digs n)).length-e).toNat=n;rw[show(((digs n).length:Int)+e-(rz (digs n)).length-e).toNat=k by omega];omega
theorem zdH{n:Nat}{e:Int}:(decOf n e).1=[]↔n=0:=by
 constructor
 ·intro h;have:=zb1 n e;unfold sv at this;rw[h,zaI,Nat.zero_mul] at this;exact this.symm
 ·intro h;subst h;rfl
theorem ze4(m n:Nat)(e:Int):sumD (decOf m e).1 (decOf m e).2 (decOf n e).1 (decOf n e).2=decOf (m+n) e:=by
 by_cases hm:m=0
 ·subst hm;rw[zbS,Nat.zero_add];exact zbP (zaP n e) 0
 ·by_cases hn:n=0
  ·subst hn;rw[zbS,Nat.add_zero];exact zdn (zaP m e) 0
  ·rw[zck (E:=e) (zb9 hm e) (zb9 hn e),zb1,zb1]
theorem zfE(p q:Int):cmpD [] p [] q=0:=by
 unfold cmpD sv;rw[zaI,Nat.zero_mul,Nat.zero_mul,zdB]
theorem ze5(m n:Nat)(e:Int):cmpD (decOf m e).1 (decOf m e).2 (decOf n e).1 (decOf n e).2=cmpN m n:=by
 by_cases hm:m=0
 ·subst hm;by_cases hn:n=0
  ·subst hn;rw[zbS];exact zfE 0 0
  ·rw[zbz (show 0<n by omega)];exact zdL (zaP n e) (mt zdH.1 hn) _
 ·by_cases hn:n=0
  ·subst hn;rw[zbX (show 0<m by omega)];exact zdk (zaP m e) (mt zdH.1 hm) _
  ·rw[zge (E:=e) (zb9 hm e) (zb9 hn e),zb1,zb1]
theorem zcP{n m:Nat}(h:n<10^m)(e:Int):(decOf n e).1.length<=m/\(decOf n e).2<=max 0 (e+m)/\min 0 e<=(decOf n e).2:=by
 unfold decOf;have h1:=zcT m n h;have h2:=zbt (digs n);by_cases h0:n=0
 ·rw[if_pos h0];refine⟨Nat.zero_le _,?_,?_⟩
  ·show(0:Int)<=_;omega
  ·show _<=(0:Int);omega
 ·rw[if_neg h0];refine⟨?_,?_,?_⟩
  ·show(rz (digs n)).length<=m;omega
  ·show((digs n).length:Int)+e<=_;omega
  ·show _<=((digs n).length:Int)+e;omega
def downP(a:List UInt8)(n:Nat):Prop:=2*val (a.drop n)<10^(a.length-n)\/(2*val (a.drop n)=10^(a.length-n)/\val (a.take n)%2=0)
instance (a : List UInt8) (n : Nat) : Decidable (downP a n) := by unfold downP; infer_instance
def roundN(a:List UInt8)(p n:Int):List UInt8×Int:=
  if n<0 then([],0) else if(a.length:Int)<=n then(a,p) else if downP a n.toNat then decOf (val (a.take n.toNat)) (p-n) else decOf (val (a.take n.toNat)+1) (p-n)
theorem zen: ∀(n:Nat) (a:List UInt8),rz a=a->rz (a.drop n)=a.drop n
 |0,a,h=>h
 |n+1,[],_=>zeU
 |n+1,c::t,h=>zen n t (zcI h)
theorem zfF(u:List UInt8):Op.bytesLess u []=false:=by cases u<;>rfl
theorem zhi{t:List UInt8}(h:AllD t)(hr:rz t=t)(hn:t≠[]):(Op.bytesLess t [53]=true↔2*val t<10^t.length)/\(t=[53]↔2*val t=10^t.length):=by
 cases t with
 |nil=>exact absurd rfl hn
 |cons c u=>
  have hc:=h.cons.1;have hv:=zcg h.cons.2;have A:(53:UInt8).toNat=53:=rfl;have e1:Op.bytesLess (c::u) [53]=(decide (c<53)):=by
   show(decide (c<53)||(c==53&&Op.bytesLess u []))=_;rw[zfF];simp
  (have e2:(c<53)↔dig c<5:=by rw[UInt8.lt_iff_toNat_lt,A];unfold dig;omega);rw[e1,zaX,List.length_cons,Nat.pow_succ,decide_eq_true_iff,e2];generalize hP:10^u.length=P at*
  by_cases c1:dig c<5
  ·have h4:dig c*P<=4*P:=Nat.mul_le_mul_right P (by omega);refine⟨⟨λ_=>by omega,λ_=>c1⟩,⟨λh5=>?_,λh5=>?_⟩⟩
   ·injection h5 with h6 h7;rw[h6] at c1;exact absurd c1 (by decide)
   ·omega
  ·have h4:5*P<=dig c*P:=Nat.mul_le_mul_right P (by omega);refine⟨⟨λh5=>absurd h5 c1,λh5=>by omega⟩,⟨λh5=>?_,λh5=>?_⟩⟩
   ·(injection h5 with h6 h7);subst h6;subst h7;rw[List.length_nil] at hP;rw[zaI,<-hP];rfl
   ·(have h6:val u=0:=by omega);have hu:u=[]:=by
     by_cases hu:u=[]
     ·exact hu
     ·exact absurd h6 (zdj h.cons.2 (zcI hr) hu)
    subst hu;rw[List.length_nil] at hP;(have h7:dig c=5:=by rw[<-hP,zaI] at h5;omega);congr 1;apply UInt8.toNat_inj.1;unfold dig at h7;rw[A];omega
theorem zfZ: ∀(m:Nat) (l:List UInt8) (k:Nat),l.length=m->AllD l-> ∃r,upGo (toI (l++List.replicate k 48)) m=toI r/\AllD r/\val r=(val l+1)*10^k/\r.length<=m+k+1
 |0,l,k,hl,h=>by
  have:l=[]:=List.length_eq_zero_iff.1 hl
  subst this
  refine⟨49::List.replicate k 48,rfl,?_,?_,?_⟩
  ·intro c hc
   rcases List.mem_cons.1 hc with rfl|h'
   ·exact⟨by decide,by decide⟩
   ·rw[List.eq_of_mem_replicate h'];exact⟨by decide,by decide⟩
  ·rw[zaX,zbK,List.length_replicate,zaI];rfl
  ·rw[List.length_cons,List.length_replicate];omega
 |m+1,l,k,hl,h=>by
  rcases List.eq_nil_or_concat l with rfl|⟨t,c,rfl⟩
  ·simp at hl
  ·rw[List.concat_eq_append] at*
   have htl:t.length=m:=by simpa using hl
   have hc:=h.last
   have e0:toI (t++[c]++List.replicate k 48)=toI t++(c.toNat:Int)::toI (List.replicate k 48):=by
    rw[zaZ,zaZ,List.append_assoc];rfl
   have e1:rd (toI (t++[c]++List.replicate k 48)) (m:Int)=(c.toNat:Int):=by
    have:=zc6 (toI t) (c.toNat:Int) (toI (List.replicate k 48))
    rw[zbl,htl] at this
    rw[e0,this]
   have e2: ∀v:Int,(toI (t++[c]++List.replicate k 48)).set m v=toI t++v::toI (List.replicate k 48):=by
    intro v
    have:=set_mid (toI t) (c.toNat:Int) v (toI (List.replicate k 48))
    rw[zbl,htl] at this
    rw[e0,this]
   unfold upGo
   rw[e1,e2,e2]
   by_cases h9:(c.toNat:Int)<57
   ·rw[if_pos h9]
    have hd:dig c+1<10:=by unfold dig;omega
    refine⟨t++[ch (dig c+1)]++List.replicate k 48,?_,?_,?_,?_⟩
    ·have e5:((ch (dig c+1)).toNat:Int)=c.toNat+1:=by rw[zba hd];unfold dig;omega
     rw[zaZ,zaZ,List.append_assoc]
     show _=toI t++((ch (dig c+1)).toNat:Int)::toI (List.replicate k 48)
     rw[e5]
    ·intro x hx
     rcases List.mem_append.1 hx with h'|h'
     ·rcases List.mem_append.1 h' with h'|h'
      ·exact h.left x h'
      ·rw[List.mem_singleton.1 h',zba hd];omega
     ·rw[List.eq_of_mem_replicate h'];exact⟨by decide,by decide⟩
    ·rw[val_append,zbK,za6,za6,zbd hd,List.length_replicate];rfl
    ·simp;omega
   ·rw[if_neg h9]
    obtain⟨r,r1,r2,r3,r4⟩:=zfZ m t (k+1) htl h.left
    have e6:toI t++(48:Int)::toI (List.replicate k 48)=toI (t++List.replicate (k+1) 48):=by rw[zaZ,List.replicate_succ];rfl
    refine⟨r,by rw[e6,r1],r2,?_,by omega⟩
    have e7:dig c=9:=by unfold dig;omega
    rw[r3,za6,e7,Nat.pow_succ,Nat.mul_comm (10^k) 10,<-Nat.mul_assoc]
    congr 1
    omega
theorem zhj{l:List UInt8}(h:AllD l)(hl:l.length<=100000): ∃r,za5.f (S l)=some (S r)/\AllD r/\val r=val l+1/\r.length<=l.length+1:=by
 obtain⟨r,r1,r2,r3,r4⟩:=zfZ l.length l 0 rfl h;rw[List.replicate_zero,List.append_nil] at r1;refine⟨r,?_,r2,by rw[r3,Nat.pow_zero,Nat.mul_one],by omega⟩;unfold za5.f;rw[zdE,zaA,r1,if_pos hl,zdF]
theorem zcz(a:List UInt8)(n:Nat):(S a).extract 0 n=S (a.take n):=by
 rw[<-S_L ((S a).extract 0 n),zdz,L_S,List.drop_zero,Nat.sub_zero]
theorem zeR(a:List UInt8)(n:Nat):(S a).extract n (S a).size=S (a.drop n):=by
 rw[<-S_L ((S a).extract n (S a).size),zdz,L_S,zaA];congr 1;apply List.take_of_length_le;rw[List.length_drop];omega
theorem zcW{a:List UInt8}{p:Int}(ha:AllD a)(hl:a.length<=4000)(hp: -100000<=p/\p<=100000)(n:Nat)(hn:n<a.length)(b:Bool)(hb:b=decide (downP a n)):
 Ev (λk=>zan.j1 k (n:Int) (S (a.take n)) b (S a) p) (decS (roundN a p n)):=by
 (have hlen:(a.take n).length=n:=by rw[List.length_take];omega);unfold roundN;rw[if_neg (show¬(n:Int)<0 by omega),if_neg (show¬(a.length:Int)<=n by omega),Int.toNat_natCast];by_cases hd:downP a n
 ·rw[if_pos hd];have hf:=zch (S (a.take n)) p (by rw[zaA];omega) (by omega) (by omega);rw[L_S,zbh (ha.take n),hlen] at hf;refine Ev.step (λk=>?_) (Ev.now _);simp only[zan.j1];rw[if_pos (by rw[hb];exact decide_eq_true hd),hf,Option.bind_some]
 ·rw[if_neg hd];obtain⟨r,r1,r2,r3,r4⟩:=zhj (ha.take n) (by omega);have hf:=zch (S r) (p+r.length-n) (by rw[zaA];omega) (by omega) (by omega);rw[L_S,zbh r2,r3,show p+(r.length:Int)-n-r.length=p-n by omega] at hf;refine Ev.step (λk=>?_) (Ev.now _);simp only[zan.j1];rw[if_neg (by rw[hb,decide_eq_false hd];exact λh=>by cases h),r1,Option.bind_some,zaA,zap (x:=p+(r.length:Int)) (by omega) (by omega),zap (x:=p+(r.length:Int)-n) (by omega) (by omega),hf,Option.bind_some]
theorem zfG{a:List UInt8}{p:Int}(ha:InForm a p)(hl:a.length<=4000)(hp: -100000<=p/\p<=100000)(n:Nat)(hn:n<a.length)(odd:Bool)(ho:odd=decide (val (a.take n)%2=1)):
 Ev (λk=>zan.j0 k (n:Int) (S (a.take n)) (S (a.drop n)) odd (S a) p) (decS (roundN a p n)):=by
 have hdl:(a.drop n).length=a.length-n:=List.length_drop;have h5:=zhi (ha.1.drop n) (zen n a ha.2.2.1) (λe=>by rw[e,List.length_nil] at hdl;omega);rw[hdl] at h5;by_cases c1:Op.bytesLess (a.drop n) [53]=true
 ·refine Ev.step (λk=>?_) (zcW ha.1 hl hp n hn true (by symm;exact decide_eq_true (.inl (h5.1.1 c1))));simp only[zan.j0];rw[zaY,L_S,if_pos c1]
 ·by_cases c2:a.drop n=[53]
  ·refine Ev.step (λk=>?_) (zcW ha.1 hl hp n hn (!odd) ?_)
   ·simp only[zan.j0];rw[zaY,L_S,if_neg c1,if_pos c2]
   ·have h6:=h5.2.1 c2;by_cases c3:val (a.take n)%2=1
    ·rw[ho,decide_eq_true c3,decide_eq_false]
     ·rfl
     ·rintro(h7|⟨_,h7⟩)<;>omega
    ·rw[ho,decide_eq_false c3,decide_eq_true (show downP a n from .inr ⟨h6,by omega⟩)];rfl
  ·refine Ev.step (λk=>?_) (zcW ha.1 hl hp n hn false ?_)
   ·simp only[zan.j0];rw[zaY,L_S,if_neg c1,if_neg c2]
   ·rw[decide_eq_false];rintro(h7|⟨h7,_⟩)
    ·exact c1 (h5.1.2 h7)
    ·exact c2 (h5.2.2 h7)
theorem round_eq{a:List UInt8}{p:Int}(ha:InForm a p)(hl:a.length<=4000)(hp: -100000<=p/\p<=100000)(n:Int):Ev (λk=>zan.f k (S a) p n) (decS (roundN a p n)):=by
 unfold zan.f;by_cases c1:n<0
 ·(have e:roundN a p n=([],0):=by unfold roundN;rw[if_pos c1]);rw[e];exact Ev.congr (λk=>by rw[if_pos c1];rfl) (Ev.now _)
 ·by_cases c2:n>=(a.length:Int)
  ·(have e:roundN a p n=(a,p):=by unfold roundN;rw[if_neg c1,if_pos c2]);rw[e];exact Ev.congr (λk=>by rw[if_neg c1,zaA,if_pos c2];rfl) (Ev.now _)
  ·obtain⟨m,rfl⟩: ∃m:Nat,n=(m:Int):=⟨n.toNat,by omega⟩;(have hm:m<a.length:=by omega);have key: ∀odd:Bool,odd=decide (val (a.take m)%2=1)->Ev (λk=>zan.j0 k (m:Int) ((S a).extract 0 m) ((S a).extract m (S a).size) odd (S a) p) (decS (roundN a p m)):=by
    intro odd ho;rw[zcz,zeR];exact zfG ha hl hp m hm odd ho
   by_cases c3:(m:Int)>0
   ·refine Ev.congr (λk=>?_) (key (((((bt ((S a).extract 0 m) ((m:Int)-1))-48)%256)%2)==1) ?_)
    ·rw[if_neg c1,if_neg (by rw[zaA];omega),if_pos (by omega),if_pos (by rw[zaA];omega),if_pos c3,zap (x:=(m:Int)-1) (by omega) (by omega),if_pos (by omega),Int.toNat_natCast,if_pos (by rw[zcz,zaA,List.length_take];omega)]
    ·rw[zcz];obtain⟨j,rfl⟩: ∃j,m=j+1:=⟨m-1,by omega⟩;(have ej:((j+1:Nat):Int)-1=(j:Int):=by omega);(have hj:j<a.length:=by omega);rw[ej,bt_L _ j (by rw[zaA,List.length_take];omega)];simp only[L_S,List.getElem_take];have etk:a.take (j+1)=a.take j++[a[j]]:=List.take_succ_eq_append_getElem hj;have hx:=ha.1 a[j] (List.getElem_mem hj);(have ev:val (a.take (j+1))=10*val (a.take j)+dig a[j]:=by rw[etk,za6]);rw[ev];(have e3:((a[j].toNat:Int)-48)%256%2=(((10*val (a.take j)+dig a[j])%2:Nat):Int):=by unfold dig;omega);rw[e3];by_cases c4:(10*val (a.take j)+dig a[j])%2=1
     ·rw[c4];rfl
     ·rw[show(10*val (a.take j)+dig a[j])%2=0 by omega];rfl
   ·(have h0:m=0:=by omega);subst h0;refine Ev.congr (λk=>?_) (key false (by rw[List.take_zero,zaI];rfl));rw[if_neg c1,if_neg (by rw[zaA];omega),if_pos (by omega),if_pos (by rw[zaA];omega),if_neg c3];rfl
def roundS(s:ByteArray)(p:Int)(n:Int->Int):ByteArray×Int×Int:=
  if(normS s p).2.2=0 then((decS (roundN (L (normS s p).1) (normS s p).2.1 (n (normS s p).2.1))).1,(decS (roundN (L (normS s p).1) (normS s p).2.1 (n (normS s p).2.1))).2,0) else((⟨#[]⟩:ByteArray),0,(normS s p).2.2)
theorem ze6(s:ByteArray)(p n:Int):Ev (λk=>za3.f k s p n) (roundS s p λ_=>n):=by
 unfold za3.f roundS;refine Ev.bind (zci s p) ?_;rcases zbe s p with⟨e,h1,h2,_⟩|⟨l,u,h1,A,b1,b2,b3,_⟩
 ·rw[h1,if_neg h2];exact Ev.congr (λk=>by rw[if_neg h2]) (Ev.now _)
 ·rw[h1,if_pos rfl];exact Ev.congr (λk=>by rw[if_pos rfl]) (Ev.bind (f:=λ_ bt=>some (bt.1,bt.2,0)) (round_eq A (by omega) (by omega) n) (Ev.now _))
theorem zdo{l:List UInt8}(h:AllD l):l.all isD=true:=List.all_eq_true.2 λc hc=>(zcG c).2 (h c hc)
theorem zeE{l:List UInt8}{p:Int}(h:InForm l p):formL l p=(l,p):=by rw[zbh h.1,zb7 h]
theorem zbC{l:List UInt8}{p:Int}(h:InForm l p)(hl:l.length<=2000)(hp: -5000<=p/\p<=5000):normS (S l) p=(S l,p,0):=by
 unfold normS normTail;rw[if_neg (by rw[zaA];omega),L_S,if_pos (zdo h.1),if_neg (by omega),if_neg (by omega),zeE h];rfl
theorem zgk{a b:List UInt8}{p q:Int}(ha:InForm a p)(hb:InForm b q)(h1:a.length<=2000/\ -5000<=p/\p<=5000)(h2:b.length<=2000/\ -5000<=q/\q<=5000):addS (S a) p (S b) q=addD a p b q:=by
 unfold addS;rw[zbC ha h1.1 h1.2,zbC hb h2.1 h2.2,if_pos rfl,if_pos rfl];show addD (L (S a)) p (L (S b)) q=_;rw[L_S,L_S]
theorem zgl{a b:List UInt8}{p q:Int}(ha:InForm a p)(hb:InForm b q)(h1:a.length<=2000/\ -5000<=p/\p<=5000)(h2:b.length<=2000/\ -5000<=q/\q<=5000):cmpS (S a) p (S b) q=(cmpD a p b q,0):=by
 unfold cmpS;rw[zbC ha h1.1 h1.2,zbC hb h2.1 h2.2,if_pos rfl,if_pos rfl];show(cmpD (L (S a)) p (L (S b)) q,(0:Int))=_;rw[L_S,L_S]
theorem ze7(k j:Nat):(10:Nat)^(k+j)=10^k*(2^j*5^j):=by
 rw[Nat.pow_add,<-Nat.mul_pow]
theorem zd2(n:Nat)(x:Int)(V:Nat)(h: -(V:Int)<=x):decOf n x=decOf (n*10^(x+V).toNat) (-(V:Int)):=by
 have:=zcd n (x+V).toNat x;rw[<-this];congr 1;omega
theorem zbM(m n U V:Nat)(e x:Int)(hU: -(U:Int)<=e)(hV:U<=V)(hx: -(V:Int)<=x):
 cmpD (decOf (m*eBase e^e.natAbs) (eLim e)).1 (decOf (m*eBase e^e.natAbs) (eLim e)).2 (decOf n x).1 (decOf n x).2=cmpN (m*2^(e+U).toNat*10^V) (n*10^(x+V).toNat*2^U):=by
 (have he: -(V:Int)<=eLim e:=by unfold eLim;split<;>omega);rw[zd2 _ (eLim e) V he,zd2 n x V hx,ze5,<-zdY _ _ (2^U) (Nat.pow_pos (by omega))];congr 1;unfold eLim eBase;by_cases c:e<0
 ·rw[if_pos c,if_pos c];obtain⟨j,rfl⟩: ∃j:Nat,e= -(j:Int):=⟨e.natAbs,by omega⟩;(have e1:(-(j:Int)).natAbs=j:=by omega);(have e2:(-(j:Int)+(V:Int)).toNat=V-j:=by omega);(have e3:(-(j:Int)+(U:Int)).toNat=U-j:=by omega);rw[e1,e2,e3];obtain⟨u,rfl⟩: ∃u,U=u+j:=⟨U-j,by omega⟩;obtain⟨v,rfl⟩: ∃v,V=v+j:=⟨V-j,by omega⟩;rw[Nat.add_sub_cancel,Nat.add_sub_cancel,ze7,Nat.pow_add];simp only[Nat.mul_assoc,Nat.mul_comm,Nat.mul_left_comm]
 ·rw[if_neg c,if_neg c];obtain⟨j,rfl⟩: ∃j:Nat,e=(j:Int):=⟨e.natAbs,by omega⟩;(have e1:((j:Int)).natAbs=j:=by omega);(have e2:((0:Int)+(V:Int)).toNat=V:=by omega);(have e3:((j:Int)+(U:Int)).toNat=j+U:=by omega);rw[e1,e2,e3,Nat.pow_add];simp only[Nat.mul_assoc,Nat.mul_comm,Nat.mul_left_comm]
def vvGo(n:Nat):Nat:=if n=0 then 20000 else vvGo (n / 2)
def vv:Nat:=vvGo 0
theorem za7:vv=20000:=by unfold vv;rw[vvGo];rfl
def CC:Nat:=10^vv
theorem zbN:0<CC:=Nat.pow_pos (by omega)
def uu(wide:Bool):Nat:=ll wide+1
def dX(wide:Bool)(n:Nat)(x:Int):Nat:=n*10^(x+vv).toNat*2^uu wide
def flo(wide:Bool)(X:Nat):Nat:=if fW (ff wide) (ii wide)*(2*CC)<=X then ii wide else fFind (ff wide) X (2*CC) 64 0
def rdX(wide:Bool)(X:Nat):Nat:=fNear (ff wide) (ii wide) X (2*CC) (flo wide X)
theorem zct(wide:Bool)(X:Nat):fFloor (ff wide) (ii wide) X (2*CC) (flo wide X):=by
 unfold flo;by_cases c:fW (ff wide) (ii wide)*(2*CC)<=X
 ·rw[if_pos c];exact⟨Nat.le_refl _,c,λh=>absurd h (Nat.lt_irrefl _)⟩
 ·rw[if_neg c];obtain⟨h1,h2,h3,h4⟩:=zcr (ff wide) X (2*CC) 64 0 (by rw[zcJ];omega);have hi:=(zbU wide).2.2;(have e:(2:Nat)^64=18446744073709551616:=by decide);have h5:fW (ff wide) (ii wide)*(2*CC)<=fW (ff wide) (0+2^64)*(2*CC):=Nat.mul_le_mul_right _ (zdO (by omega));have h6:=h2 (by omega);generalize fFind (ff wide) X (2*CC) 64 0=q at*
  refine⟨?_,h1,λ_=>h6⟩;by_cases c2:ii wide<=q
  ·have:=Nat.mul_le_mul_right (2*CC) (zdO (f:=ff wide) c2);omega
  ·omega
end Go.Proofs.YtlohbokljligoaaDoor.Pure
end
section
namespace Go.Proofs.YtlohbokljligoaaDoor.Fn
open Go.RowKit Go.Proofs.YtlohbokljligoaaDoorW.PrintWords Go.Proofs.YtlohbokljligoaaDoorW.PrintLast Go.Proofs.YtlohbokljligoaaDoorW.PrintMore
set_option maxHeartbeats 8000000
set_option maxRecDepth 100000
section
attribute [local go_sem] zaw zaD
def zaH.f(k:Nat)(D:Int)(E:Int)(I:Int)(a1:Int):Option (ByteArray×Int):=(zao.f D E I a1).bind λA=>((zab.f k A.1 A.2).bind λB=>(some (B.1,B.2.1)))
theorem zaH.calls(k:Nat)(I:Int)(J:Int)(K:Int)(a1:Int)(r1:ByteArray)(r2:Int)(w:World)(h:zaH.f k I J K a1=some (r1,r2)):
 Calls Tryd.prog 18 #[.agg #[.int .i64 I,.int .i64 J,.int .u64 K],.int .u64 a1] w λe w'=>e= .returned (.agg #[.string r1,.int .i64 r2])/\Below w.heap.size w w':=by
 have aH:=Tryd.underlying38;have aI:=Tryd.underlying28;have HB:=zaa.mk (Below.refl w.heap.size w);have H:((zao.f I J K a1).bind λaa=>((zab.f k aa.1 aa.2).bind λab=>(some (ab.1,ab.2.1))))=some (r1,r2):=h;clear h;replace H:=bs H;obtain⟨⟨ac,ad⟩,A3,H⟩:=H;dsimp only at H;replace H:=bs H;obtain⟨⟨ae,af,ah⟩,A4,H⟩:=H;dsimp only at H;obtain⟨rfl,rfl⟩:=o2 H;go_enter Tryd.func18,Tryd.ntmps18;go_wp2_with (first|((with_reducible refine zaf (N:=2) rfl ?_);refine zae rfl (N:=2) rfl (cs:=#[.int .i64 I,.int .i64 J,.int .u64 K]) (t:=38) gz ?_;intro A hg w5 hbox hb;have az:=gN bz hg;have D:=zaa.mk hbox;replace HB:=bN bz hb;clear hb hbox hg)|((with_reducible refine zaf (N:=4) rfl ?_);refine zae rfl (N:=4) rfl (cs:=#[.string (⟨#[]⟩:ByteArray),.int .i64 0]) (t:=28) gz ?_;intro B hg w6 hbox hb;have aA:=gN bz hg;have M:=lN (g:=A) hg bk;have O:=rN (g:=A) hg bk;replace D:=kN (g:=A) hb bk;have E:=zaa.mk hbox;replace HB:=bN bz hb;clear hb hbox hg;have aJ:=M.out;have aK:=O.out;obtain⟨ar,au,av,aw,ax,ay⟩:=cz3 D)|((with_reducible refine zac (f:=11) rfl ?_);refine gB Tryd.func11 (zao.calls I J K a1 ac ad _ A3.out) ?_;intro w9 hb;replace D:=kN (g:=A) hb bk;replace E:=kN (g:=B) hb bk;replace HB:=bN bz hb;clear hb)|((with_reducible refine zac (f:=7) rfl ?_);refine gB Tryd.func7 (zab.calls k ac ad ae af ah _ A4.out) ?_;intro aL hb;replace D:=kN (g:=A) hb bk;replace E:=kN (g:=B) hb bk;replace HB:=bN bz hb;clear hb)|((with_reducible refine zaf (N:=5) rfl ?_);refine zae rfl (N:=5) rfl (cs:=#[.string (⟨#[]⟩:ByteArray),.int .i64 0]) (t:=28) gz ?_;intro aB hg aM hbox hb;have aC:=gN bz hg;have U:=lN (g:=A) hg bk;have X:=rN (g:=A) hg bk;have Y:=lN (g:=B) hg bk;have Z:=rN (g:=B) hg bk;replace D:=kN (g:=A) hb bk;replace E:=kN (g:=B) hb bk;have ag:=zaa.mk hbox;replace HB:=bN bz hb;clear hb hbox hg;have aD:=X.out;have aE:=U.out;have aF:=Z.out;have aG:=Y.out;obtain⟨ai,aj,ak,al⟩:=cz2 ag;obtain⟨am,an,ao,ap⟩:=cz2 E));refine bodyPost_ret (results_cell_row rfl _ _ B 28 #[.string ae,.int .i64 af] (0,0) _ rfl bk Tryd.underlying28 rfl (by kernel_rfl)) rfl ?_;exact⟨ez,bz⟩
def zav.f(k:Nat)(a0:Int)(B:Int)(D:Int)(E:Int)(I:ByteArray)(J:Int):Option (Bool):=(zaH.f k B D E (IntKind.u64.wrap (a0))).bind λA=>((zar.f k A.1 A.2 I J).bind λK=>(some (decide (K>0))))
def zav.T1:Bool×List (List Nat×List Nat):=(true,[([],[]),([],[]),([1],[1]),([0,2],[0,2]),([],[]),([3,4,3],[3,4]),([5],[5]),([6,5,0,1,2,3,4,5,6],[6])])
def zav.B1:List Nat:=[0,0,2,7,0,31,63,127]
theorem zav.tab1:rtab .any (opsOf Tryd.f16 1)=zav.T1:=by kernel_rfl
theorem zav.bits1:waitsOk zav.T1.2 zav.B1=true:=by kernel_rfl
theorem zav.calls(k:Nat){g1:Nat}{g2:Nat}(a0:Int)(D:Int)(E:Int)(I:Int)(J:ByteArray)(M:Int)(r:Bool)(w:World)(aa:w.heap[g1]? =some (.cells #[.int .i64 D,.int .i64 E,.int .u64 I] 38 (0,0)))(ab:w.heap[g2]? =some (.cells #[.string J,.int .i64 M] 28 (0,0)))(h:zav.f k a0 D E I J M=some r):
 Calls Tryd.prog 16 #[.int .i64 a0,.pointer (some ⟨g1,0,none⟩),.pointer (some ⟨g2,0,none⟩)] w λe w'=>e= .returned (.bool r)/\Below w.heap.size w w':=by
 have ac:=Tryd.underlying38;have ad:=Tryd.underlying28;have A:=zaa.mk aa;clear aa;have B:=zaa.mk ab;clear ab;have HB:=zaa.mk (Below.refl w.heap.size w);have H:((zaH.f k D E I (IntKind.u64.wrap (a0))).bind λU=>((zar.f k U.1 U.2 J M).bind λX=>(some (decide (X>0)))))=some r:=h;clear h;replace H:=bs H;obtain⟨⟨Y,Z⟩,A4,H⟩:=H;dsimp only at H;replace H:=bs H;obtain⟨X,A5,H⟩:=H;obtain rfl:=Option.some.inj H;go_enter Tryd.func16,Tryd.ntmps16;(try go_wp2);replace A:=zaa.mk (zam A.out);replace B:=zaa.mk (zam B.out);replace HB:=zaa.mk (zaJ HB.out);refine zbg (n:=8) (S:=λw'=>w'.cell? ⟨g1,0,none⟩=some (.int .i64 D)/\w'.cell? ⟨g1,1,none⟩=some (.int .i64 E)/\w'.cell? ⟨g1,2,none⟩=some (.int .u64 I)/\w'.cell? ⟨g2,0,none⟩=some (.string J)/\w'.cell? ⟨g2,1,none⟩=some (.int .i64 M)) (ds:=[]) #[false,false,false,false,false,false,false,false] (by kernel_rfl) rfl rfl ⟨(zad A.out 0).trans rfl,(zad A.out 1).trans rfl,(zad A.out 2).trans rfl,(zad B.out 0).trans rfl,(zad B.out 1).trans rfl⟩ (λhHeld=>?_);refine za4 zav.tab1 zav.bits1 (λO HW_=>?_);generalize w.drew=w6 at A B HB hHeld ⊢;refine pz (i:=1) (N:=6) O ?_;refine pz (i:=2) (N:=7) O ?_;refine tz (i:=0) (N:=5) rfl O HW_ hHeld (by(rintro w' ⟨s0,s1,s2,s3,s4⟩;go_simp;with_reducible rfl)) ?_;refine tz (i:=4) (N:=9) rfl O HW_ hHeld (by(rintro w' ⟨s0,s1,s2,s3,s4⟩;go_simp;with_reducible rfl)) ?_;refine oz (i:=3) (N:=some 8) O λK hK=>?_;refine gG Tryd.func18 (zaH.calls k D E I (IntKind.u64.wrap (a0)) Y Z _ A4.out) ?_;intro w7 hb;replace A:=zaa.mk (zbJ (g:=g1) (o:=.cells #[.int .i64 D,.int .i64 E,.int .u64 I] 38 (0,0)) bk hb);replace B:=zaa.mk (zbJ (g:=g2) (o:=.cells #[.string J,.int .i64 M] 28 (0,0)) bk hb);replace HB:=bN bz hb;clear hb;refine hK.out _ _ ⟨bc A 0,bc A 1,bc A 2,bc B 0,bc B 1⟩ (λhHeld=>?_);clear hK K;refine nz ?_;refine oz (i:=5) (N:=some 10) O λK hK=>?_;refine gG Tryd.func17 (zar.calls k Y Z J M X _ A5.out) ?_;intro w8 hb;replace A:=zaa.mk (zbJ (g:=g1) (o:=.cells #[.int .i64 D,.int .i64 E,.int .u64 I] 38 (0,0)) bk hb);replace B:=zaa.mk (zbJ (g:=g2) (o:=.cells #[.string J,.int .i64 M] 28 (0,0)) bk hb);replace HB:=bN bz hb;clear hb;refine hK.out _ _ ⟨bc A 0,bc A 1,bc A 2,bc B 0,bc B 1⟩ (λhHeld=>?_);clear hK K;refine nz ?_;refine pz (i:=6) (N:=11) O ?_;refine pz (i:=7) (N:=4) O ?_;refine dz O ?_;(try go_wp2);go_ret;exact⟨ez,bz⟩
end
def searchF(p:Int->Option Bool):Nat->Nat->Nat->Option Nat
  |0,_,_=>none
  |k+1,lo,hi=>if lo<hi then(p (((lo+hi) / 2:Nat):Int)).bind λb=>if b=true then searchF p k lo ((lo+hi) / 2) else searchF p k ((lo+hi) / 2+1) hi else some lo
def sort_Search.f(k:Nat)(n s0 s1 s2:Int)(d0:ByteArray)(d1:Int):Option Int:=
  if 0<=n/\n<9223372036854775807 then(searchF (λi=>zav.f k i s0 s1 s2 d0 d1) k 0 n.toNat).bind λr=>some (r:Int) else none
theorem zgm(lo hi:Nat)(h1:lo<hi)(h2:hi<9223372036854775807):wrap64 (IntKind.u64.wrap (wrap64 ((lo:Int)+(hi:Int))) / 2)=(((lo+hi) / 2:Nat):Int):=by
 have e:IntKind.u64.wrap (wrap64 ((lo:Int)+(hi:Int)))=((lo+hi:Nat):Int):=by
  simp[IntKind.wrap,wrap64,IntKind.bits,IntKind.signed];omega
 rw[e];unfold wrap64;omega
set_option maxHeartbeats 4000000 in
set_option maxRecDepth 100000 in
theorem zd3(cb:Array Value)(p:Int->Option Bool)(w:World)(eg: ∀args w,(callFunc 16 args).run Tryd.prog w= .ok (.enter 16 args) w)
 (hf: ∀(W:World) (i:Int) (b:Bool),Below w.heap.size w W->p i=some b->Calls Tryd.prog 16 (#[.int .i64 i]++cb) W λe w'=>e= .returned (.bool b)/\Below W.heap.size W w')
 (k n r:Nat) (h1:n<9223372036854775807) (h:searchF p k 0 n=some r):
 Calls Tryd.prog 19 #[.int .i64 (n:Int),.func (.func 16) #[] cb] w λe w'=>e= .returned (.int .i64 (r:Int))/\Below w.heap.size w w':=by
 have HF:=zaa.mk hf;clear hf;have HS:=zaa.mk h;clear h;have HB:=zaa.mk (Below.refl w.heap.size w);go_enter Tryd.func19,Tryd.ntmps19;go_wp2;go_loopg [5,6] k (λkx s5 s6 wr=> ∃(lo hi kk:Nat),s5= .int .i64 (lo:Int)/\s6= .int .i64 (hi:Int)/\lo<=hi/\hi<=n/\kk<=kx/\zaa (searchF p kk lo hi=some r)/\zaa (Below w.heap.size w wr));(case atStart=>exact⟨0,n,k,rfl,rfl,Nat.zero_le _,Nat.le_refl _,Nat.le_refl _,HS,HB⟩);case round=>
  obtain⟨lo,hi,kk,rfl,rfl,hlh,hin,hkk,HR,HW⟩:=hrel;cases kk with
  |zero=>exact absurd HR.out (by simp[searchF])
  |succ kk=>
   by_cases hlt:lo<hi
   ·have hr:=HR.out;simp only[searchF] at hr;rw[if_pos hlt] at hr;obtain⟨b,hb,hr⟩:=Option.bind_eq_some_iff.1 hr;have hc:=HF.out _ _ b HW.out hb;have E:=zgm lo hi hlt (by omega);obtain⟨m,hm⟩: ∃m,(lo+hi) / 2=m:=⟨_,rfl⟩;rw[hm] at hc hr E;(have B:lo<=m:=by omega);(have D:m<hi:=by omega);clear hm hb HR;have HC:=zaa.mk hc;clear hc;cases b with
    |false=>
     rw[if_neg (by simp)] at hr;have HR:=zaa.mk hr;clear hr;go_wp2_with (go_at_fn 16;refine HC.out.mono ?_;rintro e w' ⟨rfl,hbw⟩);go_roundg kk;(case measure=>omega);case rel=>
      exact⟨m+1,hi,kk,by go_num,rfl,by omega,hin,Nat.le_refl _,HR,⟨HW.out.trans (hbw.mono HW.out.size)⟩⟩
    |true=>
     rw[if_pos rfl] at hr;have HR:=zaa.mk hr;clear hr;go_wp2_with (go_at_fn 16;refine HC.out.mono ?_;rintro e w' ⟨rfl,hbw⟩);go_roundg kk;(case measure=>omega);case rel=>
      exact⟨lo,m,kk,rfl,rfl,by omega,by omega,Nat.le_refl _,HR,⟨HW.out.trans (hbw.mono HW.out.size)⟩⟩
   ·have hr:=HR.out;simp only[searchF] at hr;rw[if_neg hlt] at hr;have A:=zaa.mk (Option.some.inj hr);clear hr HR;go_wp2;go_ret;exact⟨by first|(simp[A.out];done)|(have e_:=A.out;rw[e_];rfl)|(have e_:=A.out;omega),HW.out⟩
theorem sort_Search.calls(k:Nat)(n s0 s1 s2:Int)(d0:ByteArray)(d1 r:Int)(w:World){g1 g2:Nat}(h1:w.heap[g1]? =some (.cells #[.int .i64 s0,.int .i64 s1,.int .u64 s2] 38 (0,0)))
 (h2:w.heap[g2]? =some (.cells #[.string d0,.int .i64 d1] 28 (0,0))) (h:sort_Search.f k n s0 s1 s2 d0 d1=some r):
 Calls Tryd.prog 19 #[.int .i64 n,.func (.func 16) #[] #[.pointer (some ⟨g1,0,none⟩),.pointer (some ⟨g2,0,none⟩)]] w λe w'=>e= .returned (.int .i64 r)/\Below w.heap.size w w':=by
 unfold sort_Search.f at h;by_cases hn:0<=n/\n<9223372036854775807
 ·rw[if_pos hn] at h;obtain⟨m,hm,h⟩:=Option.bind_eq_some_iff.1 h;obtain rfl:=Option.some.inj h;obtain⟨j,rfl⟩: ∃j:Nat,n=(j:Int):=⟨n.toNat,by omega⟩;refine zd3 _ (λi=>zav.f k i s0 s1 s2 d0 d1) w (λargs w=>zdi Tryd.func16 (by kernel_rfl) rfl args w) (λW i b hB hb=>?_) k j m (by omega) hm;have e1:W.heap[g1]? =w.heap[g1]? :=hB.block g1 (zay h1);have e2:W.heap[g2]? =w.heap[g2]? :=hB.block g2 (zay h2);exact zav.calls k i s0 s1 s2 d0 d1 b W (e1.trans h1) (e2.trans h2) hb
 ·rw[if_neg hn] at h;cases h
end Go.Proofs.YtlohbokljligoaaDoor.Fn
end
section
namespace Go.Proofs.YtlohbokljligoaaDoor.Pure
open Go.RowKit Go.Proofs.YtlohbokljligoaaDoor.Fn Go.Proofs.YtlohbokljligoaaDoorW.PrintWords
theorem ze8{p:Nat->Int->Option Bool}{g:Nat->Bool}{n:Nat}(hp: ∀i,i<n->Ev (λk=>p k (i:Int)) (g i))(hm: ∀a b,a<=b->b<n->g a=true->g b=true):
 ∀d lo hi,hi-lo<=d->lo<=hi->hi<=n->(∀t,t<lo->g t=false)->(∀t,hi<=t->t<n->g t=true)->
  ∃r K,(∀k,K<=k-> ∀j,d<j->searchF (p k) j lo hi=some r)/\r<=n/\(∀t,t<r->g t=false)/\(∀t,r<=t->t<n->g t=true):=by
 intro d;induction d with
 |zero=>
  intro lo hi hd hlh hin h1 h2;(obtain rfl:lo=hi:=by omega);refine⟨lo,0,λk _ j hj=>?_,hin,h1,h2⟩;obtain⟨i,rfl⟩: ∃i,j=i+1:=⟨j-1,by omega⟩;unfold searchF;rw[if_neg (by omega)]
 |succ d ih=>
  intro lo hi hd hlh hin h1 h2;by_cases hlt:lo<hi
  ·(have hml:lo<=(lo+hi) / 2:=by omega);(have hmh:(lo+hi) / 2<hi:=by omega);generalize hmm:(lo+hi) / 2=m at hml hmh;obtain⟨Km,hKm⟩:=hp m (by omega);cases hg:g m with
   |true=>
    obtain⟨r,K,h3,h4⟩:=ih lo m (by omega) hml (by omega) h1 (λt ht htn=>hm m t ht htn hg);refine⟨r,max K Km,λk hk j hj=>?_,h4⟩;obtain⟨i,rfl⟩: ∃i,j=i+1:=⟨j-1,by omega⟩;unfold searchF;rw[if_pos hlt,hmm];have:=hKm k (by omega);simp only at this;rw[this,hg,Option.bind_some,if_pos rfl];exact h3 k (by omega) i (by omega)
   |false=>
    obtain⟨r,K,h3,h4⟩:=ih (m+1) hi (by omega) (by omega) hin (λt ht=>by
     cases A:g t with
     |false=>rfl
     |true=>have:=hm t m (by omega) (by omega) A;rw[hg] at this;cases this) h2
    refine⟨r,max K Km,λk hk j hj=>?_,h4⟩;obtain⟨i,rfl⟩: ∃i,j=i+1:=⟨j-1,by omega⟩;unfold searchF;rw[if_pos hlt,hmm];have:=hKm k (by omega);simp only at this;rw[this,hg,Option.bind_some,if_neg (by decide)];exact h3 k (by omega) i (by omega)
  ·(obtain rfl:lo=hi:=by omega);refine⟨lo,0,λk _ j hj=>?_,hin,h1,h2⟩;obtain⟨i,rfl⟩: ∃i,j=i+1:=⟨j-1,by omega⟩;unfold searchF;rw[if_neg (by omega)]
theorem ze9{s0 s1 s2:Int}{d0:ByteArray}{d1:Int}{g:Nat->Bool}{n:Nat}(hn:n<9223372036854775807)(hp: ∀i,i<n->Ev (λk=>zav.f k (i:Int) s0 s1 s2 d0 d1) (g i))(hm: ∀a b,a<=b->b<n->g a=true->g b=true):
 ∃r:Nat,Ev (λk=>sort_Search.f k (n:Int) s0 s1 s2 d0 d1) (r:Int)/\r<=n/\(∀t,t<r->g t=false)/\(∀t,r<=t->t<n->g t=true):=by
 obtain⟨r,K,h1,h2⟩:=ze8 (p:=λk i=>zav.f k i s0 s1 s2 d0 d1) hp hm n 0 n (by omega) (by omega) (Nat.le_refl _) (λt ht=>absurd ht (Nat.not_lt_zero _)) (λt a b=>by omega);refine⟨r,⟨max K (n+1),λk hk=>?_⟩,h2⟩;show sort_Search.f k (n:Int) s0 s1 s2 d0 d1=some (r:Int);unfold sort_Search.f;rw[if_pos (by omega),Int.toNat_natCast,h1 k (by omega) k (by omega)];rfl
end Go.Proofs.YtlohbokljligoaaDoor.Pure
end
section
namespace Go.Proofs.YtlohbokljligoaaDoor.Fn
open Go.RowKit Go.Proofs.YtlohbokljligoaaDoorW.PrintWords Go.Proofs.YtlohbokljligoaaDoorW.PrintLast Go.Proofs.YtlohbokljligoaaDoorW.PrintMore
set_option maxHeartbeats 8000000
set_option maxRecDepth 100000
section
attribute [local go_sem] zaw zaD
def zaB.f(k:Nat)(K:ByteArray)(M:Int)(a1:Int):Option (Int×Int):=(zaT.f a1).bind λA=>(if A.2.2.2=true then((zal.f k K M).bind λB=>(if B.2.2=0 then(if B.2.1>400 then(some (A.2.2.1,0)) else(if B.2.1<(-400) then(some (0,0)) else((sort_Search.f k (wrap64 ((wrap64 (A.2.2.1))+1)) A.1 A.2.1 A.2.2.1 B.1 B.2.1).bind λD=>(if(IntKind.u64.wrap (D))=0 then(some (0,0)) else(if(IntKind.u64.wrap ((IntKind.u64.wrap (D))-1))=A.2.2.1 then(some (IntKind.u64.wrap ((IntKind.u64.wrap (D))-1),0)) else((zao.f A.1 A.2.1 A.2.2.1 (IntKind.u64.wrap ((IntKind.u64.wrap (D))-1))).bind λE=>((zab.f k (IntKind.u64.wrap ((IntKind.u64.wrap (2*E.1))+1)) (wrap64 (E.2-1))).bind λI=>((zar.f k B.1 B.2.1 I.1 I.2.1).bind λJ=>(if J>0 then(some (IntKind.u64.wrap ((IntKind.u64.wrap ((IntKind.u64.wrap (D))-1))+1),0)) else(if J=0 then(if(Int.tmod (IntKind.u64.wrap ((IntKind.u64.wrap (D))-1)) 2)=1 then(some (IntKind.u64.wrap ((IntKind.u64.wrap ((IntKind.u64.wrap (D))-1))+1),0)) else(some (IntKind.u64.wrap ((IntKind.u64.wrap (D))-1),0))) else(some (IntKind.u64.wrap ((IntKind.u64.wrap (D))-1),0)))))))))))) else(some (0,B.2.2)))) else(some (0,1)))
theorem zaB.calls(k:Nat)(ag:ByteArray)(ah:Int)(a1:Int)(r1:Int)(r2:Int)(w:World)(h:zaB.f k ag ah a1=some (r1,r2)):
 Calls Tryd.prog 8 #[.agg #[.string ag,.int .i64 ah],.int .i64 a1] w λe w'=>e= .returned (.tuple #[.int .u64 r1,.int .i64 r2])/\Below w.heap.size w w':=by
 have dc:=Tryd.underlying28;have dd:=Tryd.underlying38;have HB:=zaa.mk (Below.refl w.heap.size w);have H:((zaT.f a1).bind λad=>(if ad.2.2.2=true then((zal.f k ag ah).bind λae=>(if ae.2.2=0 then(if ae.2.1>400 then(some (ad.2.2.1,0)) else(if ae.2.1<(-400) then(some (0,0)) else((sort_Search.f k (wrap64 ((wrap64 (ad.2.2.1))+1)) ad.1 ad.2.1 ad.2.2.1 ae.1 ae.2.1).bind λY=>(if(IntKind.u64.wrap (Y))=0 then(some (0,0)) else(if(IntKind.u64.wrap ((IntKind.u64.wrap (Y))-1))=ad.2.2.1 then(some (IntKind.u64.wrap ((IntKind.u64.wrap (Y))-1),0)) else((zao.f ad.1 ad.2.1 ad.2.2.1 (IntKind.u64.wrap ((IntKind.u64.wrap (Y))-1))).bind λaA=>((zab.f k (IntKind.u64.wrap ((IntKind.u64.wrap (2*aA.1))+1)) (wrap64 (aA.2-1))).bind λaB=>((zar.f k ae.1 ae.2.1 aB.1 aB.2.1).bind λai=>(if ai>0 then(some (IntKind.u64.wrap ((IntKind.u64.wrap ((IntKind.u64.wrap (Y))-1))+1),0)) else(if ai=0 then(if(Int.tmod (IntKind.u64.wrap ((IntKind.u64.wrap (Y))-1)) 2)=1 then(some (IntKind.u64.wrap ((IntKind.u64.wrap ((IntKind.u64.wrap (Y))-1))+1),0)) else(some (IntKind.u64.wrap ((IntKind.u64.wrap (Y))-1),0))) else(some (IntKind.u64.wrap ((IntKind.u64.wrap (Y))-1),0)))))))))))) else(some (0,ae.2.2)))) else(some (0,1))))=some (r1,r2):=h;clear h;replace H:=bs H;obtain⟨⟨O,U,I,aK⟩,A3,H⟩:=H;dsimp only at H;go_enter Tryd.func8,Tryd.ntmps8;(go_upto_if 22 with(first|((with_reducible refine zaf (N:=2) rfl ?_);refine zae rfl (N:=2) rfl (cs:=#[.string ag,.int .i64 ah]) (t:=28) gz ?_;intro A hg w4 hbox hb;have cy:=gN bz hg;have B:=zaa.mk hbox;replace HB:=bN bz hb;clear hb hbox hg)|((with_reducible refine zac (f:=10) rfl ?_);refine gB Tryd.func10 (zaT.calls a1 O U I aK _ A3.out) ?_;intro w5 hb;replace B:=kN (g:=A) (cs:=#[.string ag,.int .i64 ah]) hb bk;replace HB:=bN bz hb;clear hb)|((with_reducible refine zaf (N:=6) rfl ?_);refine zae rfl (N:=6) rfl (cs:=#[.int .i64 0,.int .i64 0,.int .u64 0]) (t:=38) gz ?_;intro D hg w6 hbox hb;have cz:=gN bz hg;have K:=lN (g:=A) (cs:=#[.string ag,.int .i64 ah]) hg bk;have M:=rN (g:=A) (cs:=#[.string ag,.int .i64 ah]) hg bk;replace B:=kN (g:=A) (cs:=#[.string ag,.int .i64 ah]) hb bk;have E:=zaa.mk hbox;replace HB:=bN bz hb;clear hb hbox hg;have de:=M.out;have df:=K.out;obtain⟨cr,ct,cu,cv,cw,cx⟩:=cz3 E)));(try simp only[Act.put,List.setIfInBounds_toArray,List.set_cons_zero,List.set_cons_succ]);by_cases c9:aK=true;case neg=>
  replace c9:=Bool.eq_false_iff.mpr c9;subst c9;replace H:=hF H;obtain⟨rfl,rfl⟩:=o2 H;go_wp2;go_ret2;exact⟨ez,bz⟩
 subst c9;replace H:=hT H;replace H:=bs H;obtain⟨⟨X,J,aL⟩,cA,H⟩:=H;dsimp only at H;have cB:=K.out;have cC:=M.out;obtain⟨aW,aX,aY,aZ⟩:=cz2 B;(go_upto_if 29 with(first|((with_reducible refine zac (f:=15) rfl ?_);refine gB Tryd.func15 (zal.calls k ag ah X J aL _ cA.out) ?_;intro dh hb;replace B:=kN (g:=A) (cs:=#[.string ag,.int .i64 ah]) hb bk;replace E:=kN (g:=D) (cs:=#[.int .i64 O,.int .i64 U,.int .u64 I]) hb bk;replace HB:=bN bz hb;clear hb;obtain⟨a2,a3,a4,a5⟩:=cz2 B)));(try simp only[Act.put,List.setIfInBounds_toArray,List.set_cons_zero,List.set_cons_succ]);by_cases aC:aL=0;case neg=>
  replace H:=hN H aC;obtain⟨ar,au⟩:=eF aC;(try first|rw[ar]|rw[au]);obtain⟨rfl,rfl⟩:=o2 H;go_wp2;go_ret2;exact⟨ez,bz⟩
 replace H:=hE H aC;obtain⟨ar,au⟩:=eT aC;clear aC;(try first|rw[ar]|rw[au]);by_cases ax:J>400
 (·replace H:=hE H ax;have aM:decide (400<J)=true:=decide_eq_true ax;clear ax;obtain⟨rfl,rfl⟩:=o2 H;have cD:=K.out;have cF:=M.out;obtain⟨a6,a7,a8,a9⟩:=cz2 B;obtain⟨ba,bb,bd,be,bf,bg⟩:=cz3 E;go_wp2;go_ret2;exact⟨ez,bz⟩);replace H:=hN H ax;have aM:decide (400<J)=false:=decide_eq_false ax;clear ax;by_cases ay:J<(-400)
 (·replace H:=hE H ay;have aN:=decide_eq_true ay;clear ay;obtain⟨rfl,rfl⟩:=o2 H;have cG:=K.out;have cH:=M.out;obtain⟨bh,bi,bj,bl⟩:=cz2 B;go_wp2;go_ret2;exact⟨ez,bz⟩);replace H:=hN H ay;have aN:=decide_eq_false ay;clear ay;replace H:=bs H;obtain⟨Y,cI,H⟩:=H;have cJ:=K.out;have cK:=M.out;obtain⟨bm,bn,bo,bp⟩:=cz2 B;obtain⟨bq,br,bu,bv,bw,bA⟩:=cz3 E;(go_upto_if 48 with(first|((with_reducible refine zac (f:=19) rfl ?_);refine za9 (some 45) rfl rfl Tryd.func19 (by kernel_rfl) rfl #[.int .i64 (wrap64 ((wrap64 (I))+1)),.func (.func 16) #[] #[.pointer (some ⟨D,0,none⟩),.pointer (some ⟨A,0,none⟩)]] rfl lz ?_;(with_reducible refine(sort_Search.calls k (wrap64 ((wrap64 (I))+1)) O U I X J Y _ ?side1 ?side2 cI.out).mono ?_);(case side1=>exact bk);(case side2=>exact bk);rintro e di ⟨rfl,hb⟩;refine⟨_,rfl,?_⟩;replace B:=kN (g:=A) (cs:=#[.string X,.int .i64 J]) hb bk;replace E:=kN (g:=D) (cs:=#[.int .i64 O,.int .i64 U,.int .u64 I]) hb bk;replace HB:=bN bz hb;(try clear hb);(try clear dj);(try clear hk);(try clear hi))));(try simp only[Act.put,List.setIfInBounds_toArray,List.set_cons_zero,List.set_cons_succ]);by_cases aD:(IntKind.u64.wrap (Y))=0
 (·replace H:=hE H aD;obtain⟨al,av⟩:=eT aD;clear aD;(first|rw[al]|rw[av]|(simp only[zaM,zaU];rw[al])|skip);obtain⟨rfl,rfl⟩:=o2 H;go_wp2;go_ret2;exact⟨ez,bz⟩);replace H:=hN H aD;obtain⟨al,av⟩:=eF aD;(first|rw[al]|rw[av]|(simp only[zaM,zaU];rw[al])|skip);by_cases aE:(IntKind.u64.wrap ((IntKind.u64.wrap (Y))-1))=I
 (·replace H:=hE H aE;obtain⟨aO,aP⟩:=eT aE;clear aE;obtain⟨rfl,rfl⟩:=o2 H;have cL:=M.out;have cM:=K.out;obtain⟨bB,bC,bD,bE,bF,bG⟩:=cz3 E;go_wp2;go_ret2;exact⟨ez,bz⟩);replace H:=hN H aE;obtain⟨aO,aP⟩:=eF aE;replace H:=bs H;obtain⟨⟨ao,ap⟩,aQ,H⟩:=H;dsimp only at H;replace H:=bs H;obtain⟨⟨aj,ak,aF⟩,aR,H⟩:=H;dsimp only at H;replace H:=bs H;obtain⟨ai,aS,H⟩:=H;by_cases az:ai>0
 (·replace H:=hE H az;have aT:decide (0<ai)=true:=decide_eq_true az;clear az;obtain⟨rfl,rfl⟩:=o2 H;have cN:=M.out;have cO:=K.out;obtain⟨bH,bI,bJ,bK,bL,bM⟩:=cz3 E;go_wp2_with (first|((with_reducible refine zac (f:=11) rfl ?_);refine gB Tryd.func11 (zao.calls O U I (IntKind.u64.wrap ((IntKind.u64.wrap (Y))-1)) ao ap _ aQ.out) ?_;intro dk hb;replace B:=kN (g:=A) (cs:=#[.string X,.int .i64 J]) hb bk;replace E:=kN (g:=D) (cs:=#[.int .i64 O,.int .i64 U,.int .u64 I]) hb bk;replace HB:=bN bz hb;clear hb)|((with_reducible refine zac (f:=7) rfl ?_);refine gB Tryd.func7 (zab.calls k (IntKind.u64.wrap ((IntKind.u64.wrap (2*ao))+1)) (wrap64 (ap-1)) aj ak aF _ aR.out) ?_;intro dl hb;replace B:=kN (g:=A) (cs:=#[.string X,.int .i64 J]) hb bk;replace E:=kN (g:=D) (cs:=#[.int .i64 O,.int .i64 U,.int .u64 I]) hb bk;replace HB:=bN bz hb;clear hb)|((with_reducible refine zaf (N:=13) rfl ?_);refine zae rfl (N:=13) rfl (cs:=#[.string (⟨#[]⟩:ByteArray),.int .i64 0]) (t:=28) gz ?_;intro am hg dm hbox hb;have aG:=gN bz hg;have aH:=gN bz hg;have Z:=lN (g:=A) (cs:=#[.string X,.int .i64 J]) hg bk;have aa:=rN (g:=A) (cs:=#[.string X,.int .i64 J]) hg bk;have ab:=lN (g:=D) (cs:=#[.int .i64 O,.int .i64 U,.int .u64 I]) hg bk;have ac:=rN (g:=D) (cs:=#[.int .i64 O,.int .i64 U,.int .u64 I]) hg bk;replace B:=kN (g:=A) (cs:=#[.string X,.int .i64 J]) hb bk;replace E:=kN (g:=D) (cs:=#[.int .i64 O,.int .i64 U,.int .u64 I]) hb bk;have af:=zaa.mk hbox;replace HB:=bN bz hb;clear hb hbox hg;have cP:=aa.out;have cQ:=Z.out;have cR:=ac.out;have cS:=ab.out;obtain⟨bO,bP,bQ,bR⟩:=cz2 af;obtain⟨bS,bT,bU,bV⟩:=cz2 B)|((with_reducible refine zac (f:=17) rfl ?_);refine gB Tryd.func17 (zar.calls k X J aj ak ai _ aS.out) ?_;intro dn hb;replace B:=kN (g:=A) (cs:=#[.string X,.int .i64 J]) hb bk;replace E:=kN (g:=D) (cs:=#[.int .i64 O,.int .i64 U,.int .u64 I]) hb bk;replace af:=kN (g:=am) (cs:=#[.string aj,.int .i64 ak]) hb bk;replace HB:=bN bz hb;clear hb));go_ret2;exact⟨ez,bz⟩);replace H:=hN H az;have aT:decide (0<ai)=false:=decide_eq_false az;clear az;by_cases aI:ai=0;case neg=>
  replace H:=hN H aI;obtain⟨aU,aV⟩:=eF aI;obtain⟨rfl,rfl⟩:=o2 H;have c5:=M.out;have c6:=K.out;obtain⟨cb,cc,cd,ce,cf,cg⟩:=cz3 E;go_wp2_with (first|((with_reducible refine zac (f:=11) rfl ?_);refine gB Tryd.func11 (zao.calls O U I (IntKind.u64.wrap ((IntKind.u64.wrap (Y))-1)) ao ap _ aQ.out) ?_;intro du hb;replace B:=kN (g:=A) (cs:=#[.string X,.int .i64 J]) hb bk;replace E:=kN (g:=D) (cs:=#[.int .i64 O,.int .i64 U,.int .u64 I]) hb bk;replace HB:=bN bz hb;clear hb)|((with_reducible refine zac (f:=7) rfl ?_);refine gB Tryd.func7 (zab.calls k (IntKind.u64.wrap ((IntKind.u64.wrap (2*ao))+1)) (wrap64 (ap-1)) aj ak aF _ aR.out) ?_;intro dv hb;replace B:=kN (g:=A) (cs:=#[.string X,.int .i64 J]) hb bk;replace E:=kN (g:=D) (cs:=#[.int .i64 O,.int .i64 U,.int .u64 I]) hb bk;replace HB:=bN bz hb;clear hb)|((with_reducible refine zaf (N:=13) rfl ?_);refine zae rfl (N:=13) rfl (cs:=#[.string (⟨#[]⟩:ByteArray),.int .i64 0]) (t:=28) gz ?_;intro am hg dw hbox hb;have aG:=gN bz hg;have aH:=gN bz hg;have Z:=lN (g:=A) (cs:=#[.string X,.int .i64 J]) hg bk;have aa:=rN (g:=A) (cs:=#[.string X,.int .i64 J]) hg bk;have ab:=lN (g:=D) (cs:=#[.int .i64 O,.int .i64 U,.int .u64 I]) hg bk;have ac:=rN (g:=D) (cs:=#[.int .i64 O,.int .i64 U,.int .u64 I]) hg bk;replace B:=kN (g:=A) (cs:=#[.string X,.int .i64 J]) hb bk;replace E:=kN (g:=D) (cs:=#[.int .i64 O,.int .i64 U,.int .u64 I]) hb bk;have af:=zaa.mk hbox;replace HB:=bN bz hb;clear hb hbox hg;have c7:=aa.out;have c8:=Z.out;have da:=ac.out;have db:=ab.out;obtain⟨ci,cj,ck,cm⟩:=cz2 af;obtain⟨cn,co,cp,cq⟩:=cz2 B)|((with_reducible refine zac (f:=17) rfl ?_);refine gB Tryd.func17 (zar.calls k X J aj ak ai _ aS.out) ?_;intro dx hb;replace B:=kN (g:=A) (cs:=#[.string X,.int .i64 J]) hb bk;replace E:=kN (g:=D) (cs:=#[.int .i64 O,.int .i64 U,.int .u64 I]) hb bk;replace af:=kN (g:=am) (cs:=#[.string aj,.int .i64 ak]) hb bk;replace HB:=bN bz hb;clear hb));go_ret2;exact⟨ez,bz⟩
 replace H:=hE H aI;obtain⟨aU,aV⟩:=eT aI;clear aI;have cT:=M.out;have cV:=K.out;obtain⟨bW,bX,bY,bZ,b0,b1⟩:=cz3 E;(go_upto_if 84 with(first|((with_reducible refine zac (f:=11) rfl ?_);refine gB Tryd.func11 (zao.calls O U I (IntKind.u64.wrap ((IntKind.u64.wrap (Y))-1)) ao ap _ aQ.out) ?_;intro dp hb;replace B:=kN (g:=A) (cs:=#[.string X,.int .i64 J]) hb bk;replace E:=kN (g:=D) (cs:=#[.int .i64 O,.int .i64 U,.int .u64 I]) hb bk;replace HB:=bN bz hb;clear hb)|((with_reducible refine zac (f:=7) rfl ?_);refine gB Tryd.func7 (zab.calls k (IntKind.u64.wrap ((IntKind.u64.wrap (2*ao))+1)) (wrap64 (ap-1)) aj ak aF _ aR.out) ?_;intro dq hb;replace B:=kN (g:=A) (cs:=#[.string X,.int .i64 J]) hb bk;replace E:=kN (g:=D) (cs:=#[.int .i64 O,.int .i64 U,.int .u64 I]) hb bk;replace HB:=bN bz hb;clear hb)|((with_reducible refine zaf (N:=13) rfl ?_);refine zae rfl (N:=13) rfl (cs:=#[.string (⟨#[]⟩:ByteArray),.int .i64 0]) (t:=28) gz ?_;intro am hg ds hbox hb;have aG:=gN bz hg;have aH:=gN bz hg;have Z:=lN (g:=A) (cs:=#[.string X,.int .i64 J]) hg bk;have aa:=rN (g:=A) (cs:=#[.string X,.int .i64 J]) hg bk;have ab:=lN (g:=D) (cs:=#[.int .i64 O,.int .i64 U,.int .u64 I]) hg bk;have ac:=rN (g:=D) (cs:=#[.int .i64 O,.int .i64 U,.int .u64 I]) hg bk;replace B:=kN (g:=A) (cs:=#[.string X,.int .i64 J]) hb bk;replace E:=kN (g:=D) (cs:=#[.int .i64 O,.int .i64 U,.int .u64 I]) hb bk;have af:=zaa.mk hbox;replace HB:=bN bz hb;clear hb hbox hg;have cW:=aa.out;have cX:=Z.out;have cY:=ac.out;have cZ:=ab.out;obtain⟨b2,b3,b4,b5⟩:=cz2 af;obtain⟨b6,b7,b8,ca⟩:=cz2 B)|((with_reducible refine zac (f:=17) rfl ?_);refine gB Tryd.func17 (zar.calls k X J aj ak ai _ aS.out) ?_;intro dt hb;replace B:=kN (g:=A) (cs:=#[.string X,.int .i64 J]) hb bk;replace E:=kN (g:=D) (cs:=#[.int .i64 O,.int .i64 U,.int .u64 I]) hb bk;replace af:=kN (g:=am) (cs:=#[.string aj,.int .i64 ak]) hb bk;replace HB:=bN bz hb;clear hb)));(try simp only[Act.put,List.setIfInBounds_toArray,List.set_cons_zero,List.set_cons_succ]);by_cases aJ:(Int.tmod (IntKind.u64.wrap ((IntKind.u64.wrap (Y))-1)) 2)=1
 (·replace H:=hE H aJ;obtain⟨an,aw⟩:=eT aJ;clear aJ;(first|rw[an]|rw[aw]|(simp only[zaM,zaU];rw[an])|skip);obtain⟨rfl,rfl⟩:=o2 H;go_wp2;go_ret2;exact⟨ez,bz⟩);replace H:=hN H aJ;obtain⟨an,aw⟩:=eF aJ;(first|rw[an]|rw[aw]|(simp only[zaM,zaU];rw[an])|skip);obtain⟨rfl,rfl⟩:=o2 H;go_wp2;go_ret2;exact⟨ez,bz⟩
end
end Go.Proofs.YtlohbokljligoaaDoor.Fn
end
section
namespace Go.Proofs.YtlohbokljligoaaDoor.Pure
open Go.RowKit Go.Proofs.YtlohbokljligoaaDoorW.PrintWords Go.Proofs.YtlohbokljligoaaDoor.Fn
def exD(m:Nat)(e:Int):List UInt8×Int:=decOf (m*eBase e^e.natAbs) (eLim e)
theorem zbp(m:Nat)(e:Int):InForm (exD m e).1 (exD m e).2:=zaP _ _
theorem zbm(m:Nat){e:Int}(h: -1200<=e/\e<=1200):exactS m e=(S (exD m e).1,(exD m e).2,0):=by
 unfold exactS;rw[if_neg (by omega)];rfl
theorem zbj{m:Nat}(hm:m<18446744073709551616){e:Int}(h: -1200<=e/\e<=1200):(exD m e).1.length<=1300/\ -1200<=(exD m e).2/\(exD m e).2<=1300:=by
 obtain⟨T,hT⟩: ∃T:Nat,T=1200:=⟨_,rfl⟩;have hb:eBase e^e.natAbs<=10^T:=by
  refine Nat.le_trans (Nat.pow_le_pow_left (show eBase e<=10 by unfold eBase;split<;>omega) _) (Nat.pow_le_pow_right (by omega) (by omega))
 have hlt:m*eBase e^e.natAbs<10^(20+T):=by
  rw[Nat.pow_add];(have A:(10:Nat)^20=100000000000000000000:=by decide);generalize eBase e^e.natAbs=B at*
  have hp:0<10^T:=Nat.pow_pos (by omega);generalize 10^T=P at*
  exact Nat.lt_of_le_of_lt (Nat.mul_le_mul_left _ hb) (Nat.mul_lt_mul_of_pos_right (by omega) hp)
 have:=zcP hlt (eLim e);unfold exD;unfold eLim at*
 (split at this<;>rename_i c);all_goals(first|rw[if_pos c]|rw[if_neg c]);omega
theorem zc8{a b:List UInt8}{p q:Int}(ha:InForm a p)(hb:InForm b q)(h1:a.length<=2000/\ -5000<=p/\p<=5000)(h2:b.length<=2000/\ -5000<=q/\q<=5000):Ev (λk=>zar.f k (S a) p (S b) q) (cmpD a p b q):=by
 unfold zar.f;have h:=zgf (S a) p (S b) q;rw[zgl ha hb h1 h2] at h;exact Ev.bind (f:=λ_ bt=>some bt.1) h (Ev.now _)
theorem zbH(wide:Bool){p:Nat}(hp:p<=ii wide):fE (ff wide) p<=2046/\fM (ff wide) p<9007199254740992:=by
 have h1:=zez (ff wide) p;have hd:p / 2^ff wide<=ii wide / 2^ff wide:=Nat.div_le_div_right hp;(have h2:ii wide / 2^ff wide<=2047/\2^(ff wide+1)<=9007199254740992:=by cases wide<;>decide);unfold fE;omega
theorem zfa(wide:Bool):149<=ll wide/\ll wide<=1074:=by cases wide<;>simp[ll]
theorem fEl(wide:Bool){p:Nat}(hp:p<=ii wide): -1074<=(fE (ff wide) p:Int)-(ll wide:Int)/\(fE (ff wide) p:Int)-(ll wide:Int)<=1100:=by
 have h1:=(zbH wide hp).1;have h2:=zfa wide;cases wide
 ·(have:ii false / 2^ff false=255:=by decide);have hd:p / 2^ff false<=ii false / 2^ff false:=Nat.div_le_div_right hp;unfold fE at*
  omega
 ·have:ll true=1074:=rfl;omega
theorem zcx(wide:Bool){p:Nat}(hp:p<=ii wide):
 Ev (λk=>zaH.f k (ff wide:Int) (-(ll wide:Int)) (ii wide:Int) (p:Int)) (decS (exD (fM (ff wide) p) ((fE (ff wide) p:Int)-(ll wide:Int)))):=by
 unfold zaH.f;have hi:=zbU wide;rw[zcs wide p (by omega)];simp only[Option.bind_some];have h:=zbB (fM (ff wide) p) ((fE (ff wide) p:Int)-(ll wide:Int)) (by have:=(zbH wide hp).2;omega);rw[zbm _ (by have:=fEl wide hp;omega)] at h;exact Ev.bind (f:=λ_ bt=>some (bt.1,bt.2.1)) h (Ev.now _)
theorem zcu(a b:Nat):cmpN a b>0↔b<a:=by
 unfold cmpN;by_cases h1:a<b
 ·rw[if_pos h1];omega
 ·rw[if_neg h1];by_cases h2:b<a
  ·rw[if_pos h2];omega
  ·rw[if_neg h2];omega
theorem zca(a b:Nat):cmpN a b=0↔a=b:=by
 unfold cmpN;by_cases h1:a<b
 ·rw[if_pos h1];omega
 ·rw[if_neg h1];by_cases h2:b<a
  ·rw[if_pos h2];omega
  ·rw[if_neg h2];omega
theorem zcD(a b:Nat):cmpN a b= -cmpN b a:=by
 unfold cmpN;by_cases h1:a<b
 ·rw[if_pos h1,if_neg (by omega),if_pos h1]
 ·rw[if_neg h1];by_cases h2:b<a
  ·rw[if_pos h2,if_pos h2];rfl
  ·rw[if_neg h2,if_neg h2,if_neg h1];rfl
theorem zec(wide:Bool){p:Nat}(hp:p<=ii wide){l:List UInt8}{q:Int}(hl:InForm l q)(hx: -(vv:Int)<=q-l.length):
 cmpD (exD (fM (ff wide) p) ((fE (ff wide) p:Int)-(ll wide:Int))).1 (exD (fM (ff wide) p) ((fE (ff wide) p:Int)-(ll wide:Int))).2 l q=cmpN (fW (ff wide) p*(2*CC)) (dX wide (val l) (q-l.length)):=by
 have h:=zbM (fM (ff wide) p) (val l) (uu wide) vv ((fE (ff wide) p:Int)-(ll wide:Int)) (q-l.length) (by unfold uu;omega) (by have:=zc7 wide;have:=za7;unfold uu;omega) hx;rw[zb7 hl] at h;unfold exD;rw[h];unfold dX;congr 1;(have e:((fE (ff wide) p:Int)-(ll wide:Int)+(uu wide:Int)).toNat=fE (ff wide) p+1:=by unfold uu;omega);rw[e,Nat.pow_succ];unfold fW CC;rw[Nat.mul_assoc,Nat.mul_assoc,Nat.mul_assoc]
theorem zc9(wide:Bool){p:Nat}{l:List UInt8}{q:Int}(hl:InForm l q)(hx: -(vv:Int)<=q-l.length):
 cmpD (exD (2*fM (ff wide) p+1) ((fE (ff wide) p:Int)-(ll wide:Int)-1)).1 (exD (2*fM (ff wide) p+1) ((fE (ff wide) p:Int)-(ll wide:Int)-1)).2 l q=cmpN ((fW (ff wide) p+fW (ff wide) (p+1))*CC) (dX wide (val l) (q-l.length)):=by
 have h:=zbM (2*fM (ff wide) p+1) (val l) (uu wide) vv ((fE (ff wide) p:Int)-(ll wide:Int)-1) (q-l.length) (by unfold uu;omega) (by have:=zc7 wide;have:=za7;unfold uu;omega) hx;rw[zb7 hl] at h;unfold exD;rw[h];unfold dX;congr 1;(have e:((fE (ff wide) p:Int)-(ll wide:Int)-1+(uu wide:Int)).toNat=fE (ff wide) p:=by unfold uu;omega);rw[e,zbY];unfold fW CC;congr 1;rw[Nat.add_mul,Nat.one_mul,Nat.mul_assoc];omega
theorem zfH(wide:Bool){p:Nat}(hp:p<=ii wide){l:List UInt8}{q:Int}(hl:InForm l q)(h1:l.length<=2000/\ -5000<=q/\q<=5000):
 Ev (λk=>zav.f k (p:Int) (ff wide:Int) (-(ll wide:Int)) (ii wide:Int) (S l) q) (decide (dX wide (val l) (q-l.length)<fW (ff wide) p*(2*CC))):=by
 unfold zav.f;have hi:=zbU wide;rw[u64N p (by omega)];refine Ev.bind (zcx wide hp) ?_;have hs:=zbj (m:=fM (ff wide) p) (by have:=(zbH wide hp).2;omega) (e:=(fE (ff wide) p:Int)-(ll wide:Int)) (by have:=fEl wide hp;omega);have h:=zc8 (zbp (fM (ff wide) p) ((fE (ff wide) p:Int)-(ll wide:Int))) hl (by omega) h1;rw[zec wide hp hl (by have:=za7;omega)] at h;have e:decide (cmpN (fW (ff wide) p*(2*CC)) (dX wide (val l) (q-l.length))>0)=decide (dX wide (val l) (q-l.length)<fW (ff wide) p*(2*CC)):=decide_eq_decide.2 (zcu _ _);rw[<-e];exact Ev.bind (f:=λ_ t=>some (decide (t>0))) h (Ev.now _)
def rdS(wide:Bool)(s:ByteArray)(p:Int):Int×Int:=
  if(normS s p).2.2=0 then((rdX wide (dX wide (val (L (normS s p).1)) ((normS s p).2.1-(L (normS s p).1).length)):Int),0) else(0,(normS s p).2.2)
theorem zf0(wide:Bool):fW (ff wide) (ii wide)*2<=10^400*2^uu wide/\2^uu wide<=10^401:=by
 cases wide<;>decide+kernel
theorem zg4(wide:Bool){l:List UInt8}{q:Int}(hl:InForm l q)(h:400<q)(hx:l.length<=2000):fW (ff wide) (ii wide)*(2*CC)<=dX wide (val l) (q-l.length):=by
 have hn:l≠[]:=by
  intro e;have:=hl.2.2.2 e;omega
 have h1:=zdN hl.1 hl.2.1 hn (p:=q) (E:= -(vv:Int)) (by have:=za7;omega);unfold sv at h1;obtain⟨F,hF⟩: ∃F:Nat,F=400:=⟨_,rfl⟩;(have e1:(q-1- -(vv:Int)).toNat=(q-401).toNat+(F+vv):=by omega);rw[e1,Int.sub_neg,Nat.pow_add,Nat.pow_add] at h1;have h2:=(zf0 wide).1;rw[<-hF] at h2;unfold dX;have h3:1<=10^(q-401).toNat:=Nat.pow_pos (by omega);have hC:CC=10^vv:=rfl;rw[<-hC] at h1;generalize val l*10^(q-l.length+vv).toNat=Y at*
 have h4:10^F*CC<=Y:=Nat.le_trans (Nat.le_mul_of_pos_left _ h3) h1;have h5:=Nat.mul_le_mul_right (2^uu wide) h4;have h6:=Nat.mul_le_mul_right CC h2;refine Nat.le_trans ?_ h5;refine Nat.le_trans (Nat.le_of_eq ?_) (Nat.le_trans h6 (Nat.le_of_eq ?_))
 ·rw[Nat.mul_assoc]
 ·rw[Nat.mul_assoc,Nat.mul_assoc,Nat.mul_comm CC]
theorem zgn(wide:Bool){l:List UInt8}{q:Int}(hl:InForm l q)(h:q< -400)(h2: -7000<=q)(hx:l.length<=2000):dX wide (val l) (q-l.length)<=CC:=by
 have h1:=zcq hl.1 (p:=q) (E:= -(vv:Int)) (by have:=za7;omega);unfold sv at h1;obtain⟨T,hT⟩: ∃T:Nat,T=401:=⟨_,rfl⟩;have hv:=za7;have h3:10^(q- -(vv:Int)).toNat<=10^(vv-T):=Nat.pow_le_pow_right (by omega) (by omega);rw[Int.sub_neg] at h1;have h4:=(zf0 wide).2;rw[<-hT] at h4;unfold dX;have hC:CC=10^(vv-T)*10^T:=by
  unfold CC;rw[<-Nat.pow_add];congr 1;omega
 rw[hC];exact Nat.mul_le_mul (by omega) h4
theorem zg5(wide:Bool){X:Nat}(h:fW (ff wide) (ii wide)*(2*CC)<=X):rdX wide X=ii wide:=by
 have e:=zbT (by have:=zbN;omega) (zct wide X) (⟨Nat.le_refl _,h,λh=>absurd h (Nat.lt_irrefl _)⟩:fFloor (ff wide) (ii wide) X (2*CC) (ii wide));unfold rdX;rw[e];unfold fNear;rw[if_pos rfl]
theorem zfb(wide:Bool):fW (ff wide) 1=1:=by cases wide<;>decide
theorem zgo(wide:Bool){X:Nat}(h:X<=CC):rdX wide X=0:=by
 have hC:=zbN;have hi:=zbU wide;have e:=zbT (by omega) (zct wide X) (⟨Nat.zero_le _,by rw[zcJ];omega,λ_=>by rw[zfb];omega⟩:fFloor (ff wide) (ii wide) X (2*CC) 0);unfold rdX;rw[e];have hu: ¬fUp (ff wide) X (2*CC) 0:=by
  unfold fUp;rw[zcJ,Nat.zero_add,zfb];omega
 unfold fNear;rw[if_neg (by omega),if_neg hu]
theorem zcK(wide:Bool){X p:Nat}(h:fFloor (ff wide) (ii wide) X (2*CC) p):rdX wide X=if p=ii wide then ii wide else if X>(fW (ff wide) p+fW (ff wide) (p+1))*CC\/(X=(fW (ff wide) p+fW (ff wide) (p+1))*CC/\p%2=1) then p+1 else p:=by
 have e:=zbT (by have:=zbN;omega) (zct wide X) h;unfold rdX;rw[e];unfold fNear;by_cases c:p=ii wide
 ·rw[if_pos c,if_pos c]
 ·rw[if_neg c,if_neg c];have hu:fUp (ff wide) X (2*CC) p↔(X>(fW (ff wide) p+fW (ff wide) (p+1))*CC\/(X=(fW (ff wide) p+fW (ff wide) (p+1))*CC/\p%2=1)):=by
   unfold fUp;rw[show(fW (ff wide) p+fW (ff wide) (p+1))*(2*CC)=2*((fW (ff wide) p+fW (ff wide) (p+1))*CC) by rw[Nat.mul_left_comm]];omega
  by_cases c2:fUp (ff wide) X (2*CC) p
  ·rw[if_pos c2,if_pos (hu.1 c2)]
  ·rw[if_neg c2,if_neg (λh=>c2 (hu.2 h))]
theorem zcL(wide:Bool)(s:ByteArray)(p0:Int):Ev (λk=>zaB.f k s p0 (szB wide)) (rdS wide s p0):=by
 have hi:=zbU wide;have hv:=za7;unfold zaB.f;rw[zdZ];simp only[Option.bind_some,if_true];refine Ev.bind (zci s p0) ?_;unfold rdS;rcases zbe s p0 with⟨e,h1,h2,_⟩|⟨l,q,h1,hf,hlen,B,D,_,_⟩
 ·rw[h1,if_neg h2];exact Ev.congr (λk=>if_neg h2) (Ev.now _)
 ·rw[h1,if_pos rfl];refine Ev.congr (λk=>if_pos rfl) ?_;simp only[L_S];by_cases c1:q>400
  ·refine Ev.congr (λk=>if_pos c1) ?_;rw[zg5 wide (zg4 wide hf c1 hlen)];exact Ev.now _
  ·refine Ev.congr (λk=>if_neg c1) ?_;by_cases c2:q< -400
   ·refine Ev.congr (λk=>if_pos c2) ?_;rw[zgo wide (zgn wide hf c2 B hlen)];exact Ev.now _
   ·refine Ev.congr (λk=>if_neg c2) ?_;obtain⟨X,hX⟩: ∃X,dX wide (val l) (q-l.length)=X:=⟨_,rfl⟩;have hsw:wrap64 (wrap64 (ii wide:Int)+1)=((ii wide+1:Nat):Int):=by
     rw[i64N (ii wide) (by omega),zap (by omega) (by omega)];omega
    rw[hsw]
    obtain⟨r,hr,hrn,hlo,hhi⟩:=ze9 (n:=ii wide+1) (g:=λp=>decide (X<fW (ff wide) p*(2*CC))) (by omega)
     (λi h=>by have:=zfH wide (p:=i) (by omega) hf (by omega);rw[hX] at this;exact this)
     (λa b hab _ ha=>by
      have h3:=Nat.mul_le_mul_right (2*CC) (zdO (f:=ff wide) hab)
      exact decide_eq_true (Nat.lt_of_lt_of_le (of_decide_eq_true ha) h3))
    refine Ev.bind hr ?_;have E:r≠0:=by
     intro e;have:=of_decide_eq_true (hhi 0 (by omega) (by omega));rw[zcJ] at this;omega
    obtain⟨p,rfl⟩: ∃p,r=p+1:=⟨r-1,by omega⟩;have hfl:fFloor (ff wide) (ii wide) X (2*CC) p:=⟨by omega,Nat.le_of_not_lt (of_decide_eq_false (hlo p (by omega))),λh=>of_decide_eq_true (hhi (p+1) (by omega) (by omega))⟩;rw[hX,zcK wide hfl,u64N (p+1) (by omega),show(((p+1:Nat):Int)-1)=(p:Int) by omega,u64N p (by omega)];refine Ev.congr (λk=>if_neg (by omega)) ?_;by_cases c3:p=ii wide
    ·rw[if_pos c3];refine Ev.congr (λk=>if_pos (by omega)) ?_;rw[c3];exact Ev.now _
    ·rw[if_neg c3];refine Ev.congr (λk=>if_neg (by omega)) ?_;rw[zcs wide p (by omega)];simp only[Option.bind_some];have hM:=(zbH wide (p:=p) (by omega)).2;have hE:=fEl wide (p:=p) (by omega);rw[show(2:Int)*(fM (ff wide) p:Int)=((2*fM (ff wide) p:Nat):Int) by omega,u64N _ (by omega),show(((2*fM (ff wide) p:Nat):Int)+1)=((2*fM (ff wide) p+1:Nat):Int) by omega,u64N _ (by omega),zap (x:=(fE (ff wide) p:Int)-(ll wide:Int)-1) (by omega) (by omega)];have hex:=zbB (2*fM (ff wide) p+1) ((fE (ff wide) p:Int)-(ll wide:Int)-1) (by omega);rw[zbm _ (by omega)] at hex;refine Ev.bind hex ?_;have hs:=zbj (m:=2*fM (ff wide) p+1) (by omega) (e:=(fE (ff wide) p:Int)-(ll wide:Int)-1) (by omega);have hcm:=zc8 hf (zbp (2*fM (ff wide) p+1) ((fE (ff wide) p:Int)-(ll wide:Int)-1)) (by omega) (by omega);rw[zb8,zc9 wide hf (by omega),hX,<-zcD] at hcm;refine Ev.bind hcm ?_;obtain⟨Mid,hMid⟩: ∃Mid,(fW (ff wide) p+fW (ff wide) (p+1))*CC=Mid:=⟨_,rfl⟩;rw[hMid];have k1:=zcu X Mid;have k2:=zca X Mid;(have A:IntKind.u64.wrap ((p:Int)+1)=((p+1:Nat):Int):=by rw[show((p:Int)+1)=((p+1:Nat):Int) by omega,u64N _ (by omega)]);refine Ev.congr (λk=>?_) (Ev.now _);by_cases c4:X>Mid
     ·rw[if_pos (k1.2 c4),if_pos (.inl c4),A]
     ·rw[if_neg (λh=>c4 (k1.1 h))];by_cases c5:X=Mid
      ·rw[if_pos (k2.2 c5),show(2:Int)=((2:Nat):Int) from rfl,tmodN];by_cases c6:p%2=1
       ·rw[if_pos (by omega),if_pos (.inr ⟨c5,c6⟩),A]
       ·rw[if_neg (by omega),if_neg (by omega)]
      ·rw[if_neg (λh=>c5 (k2.1 h)),if_neg (by omega)]
theorem zg6(wide:Bool):23<=ff wide/\ff wide<=52:=by cases wide<;>simp[ff]
theorem zfI:AllD [49]:=by
 intro c hc;(obtain rfl:c=49:=by simpa using hc);decide
theorem zgp:val [49]=1:=rfl
def loX(wide:Bool)(p:Nat):Nat:=(fW (ff wide) (p-1)+fW (ff wide) p)*CC
def hiX(wide:Bool)(p:Nat):Nat:=(fW (ff wide) p+fW (ff wide) (p+1))*CC
def inX(wide:Bool)(p X:Nat):Prop:=(loX wide p<X/\X<hiX wide p)\/(p%2=0/\loX wide p<=X/\X<=hiX wide p)
theorem zcQ{u v C:Nat}(h:u<v)(hC:0<C):u*(2*C)<(u+v)*C/\(u+v)*C<v*(2*C):=by
 (have e1:u*(2*C)=u*C+u*C:=by rw[Nat.mul_left_comm];omega);(have e2:v*(2*C)=v*C+v*C:=by rw[Nat.mul_left_comm];omega);have h3:u*C<v*C:=Nat.mul_lt_mul_of_pos_right h hC;rw[e1,e2,Nat.add_mul];omega
theorem zgq(wide:Bool){p:Nat}(hp:0<p)(hi:p<ii wide)(X:Nat):inX wide p X↔rdX wide X=p:=by
 have hC:=zbN;obtain⟨a,rfl⟩: ∃a,p=a+1:=⟨p-1,by omega⟩;have m1:=zcQ (zeA (f:=ff wide) (Nat.lt_succ_self a)) hC;have m2:=zcQ (zeA (f:=ff wide) (Nat.lt_succ_self (a+1))) hC;have hat:=λq=> @zcK wide X q;have hfl:=zct wide X;have hun:=λq (h:fFloor (ff wide) (ii wide) X (2*CC) q)=>zbT (by omega) hfl h;unfold inX loX hiX;rw[Nat.add_sub_cancel];simp only[Nat.succ_eq_add_one] at m1 m2;constructor
 ·intro h;by_cases c:fW (ff wide) (a+1)*(2*CC)<=X
  ·have hf:fFloor (ff wide) (ii wide) X (2*CC) (a+1):=⟨by omega,c,λ_=>by omega⟩;rw[hat _ hf,if_neg (by omega),if_neg (by omega)]
  ·have hf:fFloor (ff wide) (ii wide) X (2*CC) a:=⟨by omega,by omega,λ_=>by omega⟩;rw[hat _ hf,if_neg (by omega),if_pos (by omega)]
 ·intro h;have hr:=hat _ hfl;rw[h] at hr;by_cases c1:flo wide X=ii wide
  ·rw[if_pos c1] at hr;omega
  ·rw[if_neg c1] at hr;obtain⟨g1,g2,g3⟩:=hfl;have A:=g3 (by omega);by_cases c2:X>(fW (ff wide) (flo wide X)+fW (ff wide) (flo wide X+1))*CC\/(X=(fW (ff wide) (flo wide X)+fW (ff wide) (flo wide X+1))*CC/\flo wide X%2=1)
   ·rw[if_pos c2] at hr;(have e:flo wide X=a:=by omega);rw[e] at c2 g2 A;omega
   ·rw[if_neg c2] at hr;(have e:flo wide X=a+1:=by omega);rw[e] at c2 g2 A;omega
theorem zgr{f p:Nat}(hp:0<p)(h:fM f p≠2^f\/fE f p=0):fE f (p-1)=fE f p:=by
 obtain⟨e1,e2⟩:=fOf f p;have hlt:=zez f p;have h2:=za1 f;by_cases c:fE f p=0
 ·rw[c,Nat.zero_mul,Nat.zero_add] at e1;have:=(fParts f 0 (p-1) (by omega) (.inr rfl)).2;rw[Nat.zero_mul,Nat.zero_add] at this;rw[this,c]
 ·have h3:=h.resolve_right c;have h4:=e2.resolve_right c;have:=(fParts f (fE f p) (fM f p-1) (by omega) (.inl (by omega))).2;rw[show fE f p*2^f+(fM f p-1)=p-1 by omega] at this;exact this
theorem zfJ{f p:Nat}(h:fM f p=2^f)(h2:fE f p≠0):fE f (p-1)+1=fE f p:=by
 obtain⟨e1,e2⟩:=fOf f p;have hp:=za1 f;obtain⟨k,hk⟩:=Nat.exists_eq_succ_of_ne_zero h2;rw[Nat.succ_eq_add_one] at hk;have:=(fParts f k (2^(f+1)-1) (by rw[Nat.pow_succ];omega) (.inl (by rw[Nat.pow_succ];omega))).2;rw[hk,h,Nat.add_mul,Nat.one_mul] at e1;rw[show k*2^f+(2^(f+1)-1)=p-1 by rw[Nat.pow_succ];omega] at this;rw[this,hk]
theorem zeo{f p:Nat}(hp:0<p):fW f (p-1)+2^fE f (p-1)=fW f p:=by
 have:=zbY f (p-1);rw[Nat.sub_add_cancel hp] at this;exact this.symm
theorem zd4{f p:Nat}(hp:0<p):0<fM f p:=by
 obtain⟨e1,e2⟩:=fOf f p;have h2:=za1 f;rcases e2 with h|h
 ·omega
 ·rw[h,Nat.zero_mul,Nat.zero_add] at e1;omega
theorem zg7(wide:Bool)(p n:Nat)(x:Int)(hx: -(vv:Int)<=x):
 cmpD (exD (2*fM (ff wide) p+1) ((fE (ff wide) p:Int)-(ll wide:Int)-1)).1 (exD (2*fM (ff wide) p+1) ((fE (ff wide) p:Int)-(ll wide:Int)-1)).2 (decOf n x).1 (decOf n x).2=cmpN (hiX wide p) (dX wide n x):=by
 unfold exD;rw[zbM (2*fM (ff wide) p+1) n (uu wide) vv _ x (by unfold uu;omega) (by have:=zc7 wide;have:=za7;unfold uu;omega) hx];unfold dX hiX;congr 1;(have e:((fE (ff wide) p:Int)-(ll wide:Int)-1+(uu wide:Int)).toNat=fE (ff wide) p:=by unfold uu;omega);rw[e,zbY];unfold fW CC;congr 1;rw[Nat.add_mul,Nat.one_mul,Nat.mul_assoc];omega
theorem zgs(wide:Bool){p:Nat}(hp:0<p)(h:fM (ff wide) p≠2^ff wide\/fE (ff wide) p=0)(n:Nat)(x:Int)(hx: -(vv:Int)<=x):
 cmpD (exD (2*fM (ff wide) p-1) ((fE (ff wide) p:Int)-(ll wide:Int)-1)).1 (exD (2*fM (ff wide) p-1) ((fE (ff wide) p:Int)-(ll wide:Int)-1)).2 (decOf n x).1 (decOf n x).2=cmpN (loX wide p) (dX wide n x):=by
 have h1:=zeo (f:=ff wide) hp;have h2:=zd4 (f:=ff wide) hp;rw[zgr hp h] at h1;unfold exD;rw[zbM (2*fM (ff wide) p-1) n (uu wide) vv _ x (by unfold uu;omega) (by have:=zc7 wide;have:=za7;unfold uu;omega) hx];unfold dX loX;congr 1;(have e:((fE (ff wide) p:Int)-(ll wide:Int)-1+(uu wide:Int)).toNat=fE (ff wide) p:=by unfold uu;omega);rw[e];have h3:fW (ff wide) p=fM (ff wide) p*2^fE (ff wide) p:=rfl;have h4:(2*fM (ff wide) p-1)*2^fE (ff wide) p+2^fE (ff wide) p=2*(fM (ff wide) p*2^fE (ff wide) p):=by
  rw[<-Nat.succ_mul,<-Nat.mul_assoc];congr 1;omega
 unfold CC;congr 1;omega
theorem zgt(wide:Bool){p:Nat}(hp:0<p)(h:fM (ff wide) p=2^ff wide)(h0:fE (ff wide) p≠0)(n:Nat)(x:Int)(hx: -(vv:Int)<=x):
 cmpD (exD (4*fM (ff wide) p-1) ((fE (ff wide) p:Int)-(ll wide:Int)-2)).1 (exD (4*fM (ff wide) p-1) ((fE (ff wide) p:Int)-(ll wide:Int)-2)).2 (decOf n x).1 (decOf n x).2=cmpN (loX wide p) (dX wide n x):=by
 have h1:=zeo (f:=ff wide) hp;have h2:=zd4 (f:=ff wide) hp;have h5:=zfJ h h0;obtain⟨k,hk⟩: ∃k,fE (ff wide) (p-1)=k:=⟨_,rfl⟩;rw[hk] at h1 h5;unfold exD;rw[zbM (4*fM (ff wide) p-1) n (uu wide) vv _ x (by unfold uu;omega) (by have:=zc7 wide;have:=za7;unfold uu;omega) hx];unfold dX loX;congr 1;(have e:((fE (ff wide) p:Int)-(ll wide:Int)-2+(uu wide:Int)).toNat=k:=by unfold uu;omega);rw[e];(have h3:fW (ff wide) p=fM (ff wide) p*2^(k+1):=by rw[h5];rfl);have h4:(4*fM (ff wide) p-1)*2^k+2^k=2*(fM (ff wide) p*2^(k+1)):=by
  rw[<-Nat.succ_mul,Nat.pow_succ];rw[show(4*fM (ff wide) p-1).succ=4*fM (ff wide) p by omega];rw[Nat.mul_comm (2^k) 2,<-Nat.mul_assoc,<-Nat.mul_assoc];congr 1;omega
 unfold CC;congr 1;omega
theorem zgu{lo hi d:List UInt8×Int}{L H X:Nat}(wide:Bool)(p:Nat)(ends:Bool)(he:ends=decide (p%2=0))(hL:L=loX wide p)(hH:H=hiX wide p)(f1:InForm lo.1 lo.2)(f2:InForm hi.1 hi.2)(f3:InForm d.1 d.2)
 (b1:lo.1.length<=2000/\ -5000<=lo.2/\lo.2<=5000) (b2:hi.1.length<=2000/\ -5000<=hi.2/\hi.2<=5000) (b3:d.1.length<=2000/\ -5000<=d.2/\d.2<=5000)
 (c1:cmpD lo.1 lo.2 d.1 d.2=cmpN L X) (c2:cmpD hi.1 hi.2 d.1 d.2=cmpN H X) (t:Bool) (ht:t=true↔inX wide p X):
 Ev (λk=>zaj.f k (S lo.1) lo.2 (S hi.1) hi.2 ends (S d.1) d.2) t:=by
 have k1:=zc8 f3 f1 b3 b1;have k2:=zc8 f3 f2 b3 b2;rw[zb8,c1,<-zcD] at k1;rw[zb8,c2,<-zcD] at k2;unfold zaj.f;refine Ev.bind k1 (Ev.bind k2 (Ev.congr (λk=>?_) (Ev.now _)));unfold inX at ht;rw[<-hL,<-hH] at ht;have p1:=zcu X L;have p2:=zca X L;have p3:=zcu X H;have p4:=zca X H;generalize cmpN X L=u at*
 generalize cmpN X H=v at*
 (have q1:u>=0↔L<=X:=by omega);(have q2:v<=0↔X<=H:=by omega);(have q3:v<0↔X<H:=by omega);(have hee:ends=true↔p%2=0:=by rw[he];exact decide_eq_true_iff);have key:(if u>0 then(if v<0 then some true else(if ends=true then(if u>=0 then some (decide (v<=0)) else some false) else some false)) else(if ends=true then(if u>=0 then some (decide (v<=0)) else some false) else some false))=some (decide ((u>0/\v<0)\/(ends=true/\u>=0/\v<=0))):=by
  by_cases a1:u>0
  ·rw[if_pos a1];by_cases a2:v<0
   ·rw[if_pos a2,decide_eq_true (.inl ⟨a1,a2⟩)]
   ·rw[if_neg a2];by_cases a3:ends=true
    ·rw[if_pos a3,if_pos (by omega)];congr 1;exact decide_eq_decide.2 ⟨λh=>.inr ⟨a3,by omega,h⟩,λh=>h.elim (λh=>absurd h.2 a2) (λh=>h.2.2)⟩
    ·rw[if_neg a3,decide_eq_false (λh=>h.elim (λh=>a2 h.2) (λh=>a3 h.1))]
  ·rw[if_neg a1];by_cases a3:ends=true
   ·rw[if_pos a3];by_cases a4:u>=0
    ·rw[if_pos a4];congr 1;exact decide_eq_decide.2 ⟨λh=>.inr ⟨a3,a4,h⟩,λh=>h.elim (λh=>absurd h.1 a1) (λh=>h.2.2)⟩
    ·rw[if_neg a4,decide_eq_false (λh=>h.elim (λh=>a1 h.1) (λh=>a4 h.2.1))]
   ·rw[if_neg a3,decide_eq_false (λh=>h.elim (λh=>a1 h.1) (λh=>a3 h.1))]
 rw[key];congr 1;rw[Bool.eq_iff_iff,ht,decide_eq_true_iff,p1,q3,q1,q2,hee]
end Go.Proofs.YtlohbokljligoaaDoor.Pure
end
section
namespace Go.Proofs.YtlohbokljligoaaDoor.Fn
open Go.RowKit Go.Proofs.YtlohbokljligoaaDoorW.PrintWords Go.Proofs.YtlohbokljligoaaDoorW.PrintLast Go.Proofs.YtlohbokljligoaaDoorW.PrintMore
set_option maxHeartbeats 8000000
set_option maxRecDepth 100000
section
attribute [local go_sem] zaw zaD
mutual
def zag.j0:Nat->Int->Int->Int->Bool->Int->Int->Int->ByteArray->Int->ByteArray->Int->Bool->Option (ByteArray×Int×Int)
 |0,_,_,_,_,_,_,_,_,_,_,_,_=>none
 |k+1,x8,x9,U,X,A,B,D,K,M,E,I,J=>if X=true then((zab.f k (IntKind.u64.wrap ((IntKind.u64.wrap (4*x9))-1)) (wrap64 (U-2))).bind λO=>(zag.j1 k x8 A B D O.1 O.2.1 E I J)) else(zag.j1 k x8 A B D K M E I J)
def zag.j1:Nat->Int->Int->Int->Int->ByteArray->Int->ByteArray->Int->Bool->Option (ByteArray×Int×Int)
 |0,_,_,_,_,_,_,_,_,_=>none
 |k+1,x8,A,B,D,E,I,J,K,M=>(zaH.f k A B D x8).bind λO=>(zag.l0 k 1 O.1 O.2 E I J K M)
def zag.l0:Nat->Int->ByteArray->Int->ByteArray->Int->ByteArray->Int->Bool->Option (ByteArray×Int×Int)
 |0,_,_,_,_,_,_,_,_=>none
 |k+1,O,A,B,D,E,I,J,K=>(zas.f k A B O D E I J K).bind λM=>(if M.2.2=true then(some (M.1,M.2.1,0)) else(zag.l0 k (wrap64 (O+1)) A B D E I J K))
end
def zag.f(k:Nat)(a0:Int)(a1:Int):Option (ByteArray×Int×Int):=(zaT.f a1).bind λA=>(if A.2.2.2=true then(if 0<=(wrap64 (a1-1)) then(if(Go.bits .and .u64 a0 (IntKind.u64.wrap ((shl .u64 1 (wrap64 (a1-1)))-1)))>=A.2.2.1 then(some ((⟨#[]⟩:ByteArray),0,1)) else((zao.f A.1 A.2.1 A.2.2.1 (Go.bits .and .u64 a0 (IntKind.u64.wrap ((shl .u64 1 (wrap64 (a1-1)))-1)))).bind λB=>(if B.1=0 then(some ((⟨#[]⟩:ByteArray),0,0)) else((zab.f k (IntKind.u64.wrap ((IntKind.u64.wrap (2*B.1))+1)) (wrap64 (B.2-1))).bind λD=>((zab.f k (IntKind.u64.wrap ((IntKind.u64.wrap (2*B.1))-1)) (wrap64 (B.2-1))).bind λE=>(if 0<=A.1 then(if B.1=(shl .u64 1 A.1) then(zag.j0 k (Go.bits .and .u64 a0 (IntKind.u64.wrap ((shl .u64 1 (wrap64 (a1-1)))-1))) B.1 B.2 (decide (B.2>A.2.1)) A.1 A.2.1 A.2.2.1 E.1 E.2.1 D.1 D.2.1 ((Int.tmod B.1 2)==0)) else(zag.j0 k (Go.bits .and .u64 a0 (IntKind.u64.wrap ((shl .u64 1 (wrap64 (a1-1)))-1))) B.1 B.2 false A.1 A.2.1 A.2.2.1 E.1 E.2.1 D.1 D.2.1 ((Int.tmod B.1 2)==0))) else(none))))))) else(none)) else(some ((⟨#[]⟩:ByteArray),0,1)))
theorem zag.calls(k:Nat)(a0:Int)(a1:Int)(r1:ByteArray)(r2:Int)(r3:Int)(w:World)(h:zag.f k a0 a1=some (r1,r2,r3)):
  Calls Tryd.prog 20 #[.int .u64 a0,.int .i64 a1] w λe w'=>e= .returned (.tuple #[.agg #[.string r1,.int .i64 r2],.int .i64 r3])/\Below w.heap.size w w':=by
 have fk:=Tryd.underlying28;have fl:=Tryd.underlying38;have fm:=Tryd.underlying59;have HB:=zaa.mk (Below.refl w.heap.size w);have H:((zaT.f a1).bind λac=>(if ac.2.2.2=true then(if 0<=(wrap64 (a1-1)) then(if(Go.bits .and .u64 a0 (IntKind.u64.wrap ((shl .u64 1 (wrap64 (a1-1)))-1)))>=ac.2.2.1 then(some ((⟨#[]⟩:ByteArray),0,1)) else((zao.f ac.1 ac.2.1 ac.2.2.1 (Go.bits .and .u64 a0 (IntKind.u64.wrap ((shl .u64 1 (wrap64 (a1-1)))-1)))).bind λag=>(if ag.1=0 then(some ((⟨#[]⟩:ByteArray),0,0)) else((zab.f k (IntKind.u64.wrap ((IntKind.u64.wrap (2*ag.1))+1)) (wrap64 (ag.2-1))).bind λbw=>((zab.f k (IntKind.u64.wrap ((IntKind.u64.wrap (2*ag.1))-1)) (wrap64 (ag.2-1))).bind λbA=>(if 0<=ac.1 then(if ag.1=(shl .u64 1 ac.1) then(zag.j0 k (Go.bits .and .u64 a0 (IntKind.u64.wrap ((shl .u64 1 (wrap64 (a1-1)))-1))) ag.1 ag.2 (decide (ag.2>ac.2.1)) ac.1 ac.2.1 ac.2.2.1 bA.1 bA.2.1 bw.1 bw.2.1 ((Int.tmod ag.1 2)==0)) else(zag.j0 k (Go.bits .and .u64 a0 (IntKind.u64.wrap ((shl .u64 1 (wrap64 (a1-1)))-1))) ag.1 ag.2 false ac.1 ac.2.1 ac.2.2.1 bA.1 bA.2.1 bw.1 bw.2.1 ((Int.tmod ag.1 2)==0))) else(none))))))) else(none)) else(some ((⟨#[]⟩:ByteArray),0,1))))=some (r1,r2,r3):=h;clear h;replace H:=bs H;obtain⟨⟨E,Y,I,cr⟩,A3,H⟩:=H;dsimp only at H;go_enter Tryd.func20,Tryd.ntmps20;(go_upto_if 23 with(first|((with_reducible refine zaf (N:=4) rfl ?_);refine zae rfl (N:=4) rfl (cs:=#[.string (⟨#[]⟩:ByteArray),.int .i64 0]) (t:=28) gz ?_;intro D hg w4 hbox hb;have dP:=gN bz hg;have O:=zaa.mk hbox;replace HB:=bN bz hb;clear hb hbox hg)|((with_reducible refine zac (f:=10) rfl ?_);refine gB Tryd.func10 (zaT.calls a1 E Y I cr _ A3.out) ?_;intro w5 hb;replace O:=kN (g:=D) (cs:=#[.string (⟨#[]⟩:ByteArray),.int .i64 0]) hb bk;replace HB:=bN bz hb;clear hb)|((with_reducible refine zaf (N:=6) rfl ?_);refine zae rfl (N:=6) rfl (cs:=#[.int .i64 0,.int .i64 0,.int .u64 0]) (t:=38) gz ?_;intro U hg w6 hbox hb;have dQ:=gN bz hg;have J:=lN (g:=D) (cs:=#[.string (⟨#[]⟩:ByteArray),.int .i64 0]) hg bk;have K:=rN (g:=D) (cs:=#[.string (⟨#[]⟩:ByteArray),.int .i64 0]) hg bk;replace O:=kN (g:=D) (cs:=#[.string (⟨#[]⟩:ByteArray),.int .i64 0]) hb bk;have X:=zaa.mk hbox;replace HB:=bN bz hb;clear hb hbox hg;have fo:=K.out;have fp:=J.out;obtain⟨bB,bC,bD,bE,bF,bG⟩:=cz3 X)));(try simp only[Act.put,List.setIfInBounds_toArray,List.set_cons_zero,List.set_cons_succ]);by_cases c9:cr=true;case neg=>
  replace c9:=Bool.eq_false_iff.mpr c9;subst c9;replace H:=hF H;obtain⟨rfl,rfl,rfl⟩:=o3 H;have fi:=J.out;have fj:=K.out;obtain⟨dG,dH,dI,dJ⟩:=cz2 O;go_wp2;refine bodyPost_ret (zaq rfl _ _ D 28 #[.string (⟨#[]⟩:ByteArray),.int .i64 0] (0,0) _ rfl bk Tryd.underlying28 rfl (by kernel_rfl)) rfl ?_;exact⟨ez,bz⟩
 subst c9;replace H:=hT H;obtain⟨aw,ar⟩:=ex (wrap64 (a1-1));(first|rw[ar] at H|simp only[ar] at H);have dK:(IntKind.i64.wrap (a1-1))=aw:=(zaM _).trans ar;obtain⟨bO,bP,H⟩:=hG3 H;obtain⟨am,aj⟩:=ex (shl .u64 1 (aw));(first|rw[aj] at H|simp only[aj] at H);have ck:(IntKind.u64.wrap (1*2^min (aw).toNat 64))=am:=aj;have cm:(aw)<=64->(IntKind.u64.wrap (1*2^(aw).toNat))=am:=zb5 aj;(have dL:(IntKind.u64.wrap (2^min (aw).toNat 64))=am:=by have h_:=ck;rw[Int.one_mul] at h_;exact h_);(have dM:(aw)<=64->(IntKind.u64.wrap (2^(aw).toNat))=am:=λhle_=>by have h_:=cm hle_;rw[Int.one_mul] at h_;exact h_);by_cases bH:(Go.bits .and .u64 a0 (IntKind.u64.wrap ((am)-1)))>=I
 (·replace H:=hE H bH;have an:decide (I<=(Go.bits .and .u64 a0 (IntKind.u64.wrap ((am)-1))))=true:=decide_eq_true bH;clear bH;(first|rw[an]|(simp only[zaM,zaU];rw[an])|skip);obtain⟨rfl,rfl,rfl⟩:=o3 H;have dR:=K.out;have dS:=J.out;obtain⟨cA,cB,cC,cD,cF,cG⟩:=cz3 X;obtain⟨cH,cI,cJ,cK⟩:=cz2 O;go_wp2;refine bodyPost_ret (zaq rfl _ _ D 28 #[.string (⟨#[]⟩:ByteArray),.int .i64 0] (0,0) _ rfl bk Tryd.underlying28 rfl (by kernel_rfl)) rfl ?_;exact⟨by first|exact ez|(simp only[<-ar,<-aj];exact ez),bz⟩);replace H:=hN H bH;have an:decide (I<=(Go.bits .and .u64 a0 (IntKind.u64.wrap ((am)-1))))=false:=decide_eq_false bH;clear bH;(first|rw[an]|(simp only[zaM,zaU];rw[an])|skip);replace H:=bs H;obtain⟨⟨M,bv⟩,dT,H⟩:=H;dsimp only at H;have dU:=K.out;have dV:=J.out;obtain⟨aA,aB,aC,aD,aE,aF⟩:=cz3 X;(go_upto_if 43 with(first|((with_reducible refine zac (f:=11) rfl ?_);refine gB Tryd.func11 (zao.calls E Y I (Go.bits .and .u64 a0 (IntKind.u64.wrap ((am)-1))) M bv _ dT.out) ?_ (hargs:=by(try simp only[List.map_toArray,List.map_cons,List.map_nil]);first|done|(simp only[aj];rfl)|rfl|(simp only[List.length_drop,List.length_take];rfl));intro fq hb;replace O:=kN (g:=D) (cs:=#[.string (⟨#[]⟩:ByteArray),.int .i64 0]) hb bk;replace X:=kN (g:=U) (cs:=#[.int .i64 E,.int .i64 Y,.int .u64 I]) hb bk;replace HB:=bN bz hb;clear hb)));(try simp only[Act.put,List.setIfInBounds_toArray,List.set_cons_zero,List.set_cons_succ]);by_cases bJ:M=0
 (·replace H:=hE H bJ;obtain⟨au,av⟩:=eT bJ;clear bJ;(try first|rw[au]|rw[av]);obtain⟨rfl,rfl,rfl⟩:=o3 H;have dW:=J.out;have dY:=K.out;obtain⟨cL,cM,cN,cO⟩:=cz2 O;go_wp2;refine bodyPost_ret (zaq rfl _ _ D 28 #[.string (⟨#[]⟩:ByteArray),.int .i64 0] (0,0) _ rfl bk Tryd.underlying28 rfl (by kernel_rfl)) rfl ?_;exact⟨by first|exact ez|(simp only[<-ar,<-aj];exact ez),bz⟩);replace H:=hN H bJ;obtain⟨au,av⟩:=eF bJ;(try first|rw[au]|rw[av]);replace H:=bs H;obtain⟨⟨ae,af,cP⟩,dZ,H⟩:=H;dsimp only at H;replace H:=bs H;obtain⟨⟨bK,bL,cQ⟩,d0,H⟩:=H;dsimp only at H;have bT:=zaa.mk H;clear H;(go_upto_region 13 with(first|((with_reducible refine zaf (N:=11) rfl ?_);refine zae rfl (N:=11) rfl (cs:=#[.string (⟨#[]⟩:ByteArray),.int .i64 0,.string (⟨#[]⟩:ByteArray),.int .i64 0,.bool false]) (t:=59) gz ?_;intro ad hg fs hbox hb;have d5:=gN bz hg;have ak:=lN (g:=D) (cs:=#[.string (⟨#[]⟩:ByteArray),.int .i64 0]) hg bk;have al:=rN (g:=D) (cs:=#[.string (⟨#[]⟩:ByteArray),.int .i64 0]) hg bk;have ah:=lN (g:=U) (cs:=#[.int .i64 E,.int .i64 Y,.int .u64 I]) hg bk;have ai:=rN (g:=U) (cs:=#[.int .i64 E,.int .i64 Y,.int .u64 I]) hg bk;replace O:=kN (g:=D) (cs:=#[.string (⟨#[]⟩:ByteArray),.int .i64 0]) hb bk;replace X:=kN (g:=U) (cs:=#[.int .i64 E,.int .i64 Y,.int .u64 I]) hb bk;have Z:=zaa.mk hbox;replace HB:=bN bz hb;clear hb hbox hg;have d6:=al.out;have d7:=ak.out;have d8:=ai.out;have d9:=ah.out;obtain⟨aG,aH,aI,aJ,aK,aL,aM,aN,aO,aP⟩:=cz5 Z)|((with_reducible refine zac (f:=7) rfl ?_);refine gB Tryd.func7 (zab.calls k (IntKind.u64.wrap ((IntKind.u64.wrap (2*M))+1)) (wrap64 (bv-1)) ae af cP _ dZ.out) ?_;intro ft hb;replace O:=kN (g:=D) (cs:=#[.string (⟨#[]⟩:ByteArray),.int .i64 0]) hb bk;replace X:=kN (g:=U) (cs:=#[.int .i64 E,.int .i64 Y,.int .u64 I]) hb bk;replace Z:=kN (g:=ad) (cs:=#[.string (⟨#[]⟩:ByteArray),.int .i64 0,.string (⟨#[]⟩:ByteArray),.int .i64 0,.bool ((Int.tmod M 2)==0)]) hb bk;replace HB:=bN bz hb;clear hb;obtain⟨aQ,aR,aS,aT,aU,aV,aW,aX,aY,aZ⟩:=cz5 Z)|((with_reducible refine zac (f:=7) rfl ?_);refine gB Tryd.func7 (zab.calls k (IntKind.u64.wrap ((IntKind.u64.wrap (2*M))-1)) (wrap64 (bv-1)) bK bL cQ _ d0.out) ?_;intro fu hb;replace O:=kN (g:=D) (cs:=#[.string (⟨#[]⟩:ByteArray),.int .i64 0]) hb bk;replace X:=kN (g:=U) (cs:=#[.int .i64 E,.int .i64 Y,.int .u64 I]) hb bk;replace Z:=kN (g:=ad) (cs:=#[.string (⟨#[]⟩:ByteArray),.int .i64 0,.string ae,.int .i64 af,.bool ((Int.tmod M 2)==0)]) hb bk;replace HB:=bN bz hb;clear hb;obtain⟨a2,a3,a4,a5,a6,a7,a8,a9,ba,bb⟩:=cz5 Z)));(try simp only[Act.put,List.setIfInBounds_toArray,List.set_cons_zero,List.set_cons_succ]);go_cut [79] (λea wc=> ∃(kq:Nat) (az:Bool),ea= .bool az/\zaa (zag.j0 kq (Go.bits .and .u64 a0 (IntKind.u64.wrap ((am)-1))) M bv az E Y I bK bL ae af ((Int.tmod M 2)==0)=some (r1,r2,r3))/\zaa (kq<=k)/\zaa (wc.heap[D]? =some (.cells #[.string (⟨#[]⟩:ByteArray),.int .i64 0] 28 (0,0)))/\zaa (wc.heap[U]? =some (.cells #[.int .i64 E,.int .i64 Y,.int .u64 I] 38 (0,0)))/\zaa (wc.heap[ad]? =some (.cells #[.string bK,.int .i64 bL,.string ae,.int .i64 af,.bool ((Int.tmod M 2)==0)] 59 (0,0)))/\zaa (Below w.heap.size w wc));case first=>
  have H:=bT.out;clear bT;obtain⟨eb,ec,H⟩:=hG3 H;obtain⟨bM,bI⟩:=ex (shl .u64 1 E);(first|rw[bI] at H|simp only[bI] at H);have cn:(IntKind.u64.wrap (1*2^min E.toNat 64))=bM:=bI;have co:E<=64->(IntKind.u64.wrap (1*2^E.toNat))=bM:=zb5 bI;(have dN:(IntKind.u64.wrap (2^min E.toNat 64))=bM:=by have h_:=cn;rw[Int.one_mul] at h_;exact h_);(have dO:E<=64->(IntKind.u64.wrap (2^E.toNat))=bM:=λhle_=>by have h_:=co hle_;rw[Int.one_mul] at h_;exact h_);by_cases bU:M=(bM)
  (·replace H:=hE H bU;obtain⟨bQ,bR⟩:=eT bU;clear bU;(try first|rw[bQ]|rw[bR]);have H':=zaa.mk H;clear H;have ed:=K.out;have ee:=J.out;have ef:=ah.out;have eg:=ai.out;obtain⟨cR,cS,cT,cV,cW,cX⟩:=cz3 X;go_wp2;go_meet;case rel=>exact⟨_,(decide (bv>Y)),rz,H',⟨by first|omega|exact Nat.le_refl _⟩,⟨bk⟩,⟨bk⟩,⟨bk⟩,⟨bz⟩⟩);replace H:=hN H bU;obtain⟨bQ,bR⟩:=eF bU;(try first|rw[bQ]|rw[bR]);have H':=zaa.mk H;clear H;have eh:=K.out;have ei:=J.out;have ej:=ah.out;have ek:=ai.out;obtain⟨cY,cZ,c5,c6,c7,c8⟩:=cz3 X;go_wp2;go_meet;case rel=>exact⟨_,(false),rz,H',⟨by first|omega|exact Nat.le_refl _⟩,⟨bk⟩,⟨bk⟩,⟨bk⟩,⟨bz⟩⟩
 case rest=>
  clear bT;(try clear c9);(try clear bO);(try clear bP);(try clear bH);(try clear an);(try clear bJ);(try clear au);(try clear av);(try clear aA aB aC aD aE aF);(try clear aG aH aI aJ aK aL aM aN aO aP);(try clear aQ aR aS aT aU aV aW aX aY aZ);(try clear a2 a3 a4 a5 a6 a7 a8 a9 ba bb);(try clear bB bC bD bE bF bG);obtain⟨kq,az,rfl,HA,bS,O,X,Z,HB⟩:=hcut;cases kq with
  |zero=>exact absurd HA.out (by simp[zag.j0])
  |succ ct=>
   have H:=HA.out;clear HA;simp only[zag.j0] at H;have bV:=zaa.mk H;clear H;(go_upto_if 79 with(fail));go_cut [] (λwc=> ∃(kq:Nat) (A:ByteArray) (B:Int),zaa (zag.j1 kq (Go.bits .and .u64 a0 (IntKind.u64.wrap ((am)-1))) E Y I A B ae af ((Int.tmod M 2)==0)=some (r1,r2,r3))/\zaa (kq<=ct)/\zaa (wc.heap[D]? =some (.cells #[.string (⟨#[]⟩:ByteArray),.int .i64 0] 28 (0,0)))/\zaa (wc.heap[U]? =some (.cells #[.int .i64 E,.int .i64 Y,.int .u64 I] 38 (0,0)))/\zaa (wc.heap[ad]? =some (.cells #[.string A,.int .i64 B,.string ae,.int .i64 af,.bool ((Int.tmod M 2)==0)] 59 (0,0)))/\zaa (Below w.heap.size w wc));case first=>
    have H:=bV.out;clear bV;by_cases cp:az=true
    (·subst cp;replace H:=hT H;replace H:=bs H;obtain⟨⟨cu,cv,da⟩,em,H⟩:=H;dsimp only at H;have H':=zaa.mk H;clear H;go_wp2_with (first|((with_reducible refine zac (f:=7) rfl ?_);refine gB Tryd.func7 (zab.calls ct (IntKind.u64.wrap ((IntKind.u64.wrap (4*M))-1)) (wrap64 (bv-2)) cu cv da _ em.out) ?_;intro fv hb;replace O:=kN (g:=D) (cs:=#[.string (⟨#[]⟩:ByteArray),.int .i64 0]) hb bk;replace X:=kN (g:=U) (cs:=#[.int .i64 E,.int .i64 Y,.int .u64 I]) hb bk;replace Z:=kN (g:=ad) (cs:=#[.string bK,.int .i64 bL,.string ae,.int .i64 af,.bool ((Int.tmod M 2)==0)]) hb bk;replace HB:=bN bz hb;clear hb;have en:=al.out;have eo:=ak.out;have ep:=ai.out;have eq:=ah.out;obtain⟨db,dc,dd,de,df,dh,di,dj,dk,dl⟩:=cz5 Z));go_meet;case rel=>exact⟨_,(cu),(cv),H',⟨by have:=bS.out;first|omega|exact Nat.le_refl _⟩,⟨bk⟩,⟨bk⟩,⟨bk⟩,⟨bz⟩⟩);replace cp:=Bool.eq_false_iff.mpr cp;subst cp;replace H:=hF H;have H':=zaa.mk H;clear H;go_wp2;go_meet;case rel=>exact⟨_,(bK),(bL),H',⟨by have:=bS.out;first|omega|exact Nat.le_refl _⟩,⟨bk⟩,⟨bk⟩,⟨bk⟩,⟨bz⟩⟩
   case rest=>
    clear bV;(try clear c9);(try clear bO);(try clear bP);(try clear bH);(try clear an);(try clear bJ);(try clear au);(try clear av);(try clear aA aB aC aD aE aF);(try clear aG aH aI aJ aK aL aM aN aO aP);(try clear aQ aR aS aT aU aV aW aX aY aZ);(try clear a2 a3 a4 a5 a6 a7 a8 a9 ba bb);(try clear bB bC bD bE bF bG);obtain⟨kq,A,B,HA,cw,O,X,Z,HB⟩:=hcut;cases kq with
    |zero=>exact absurd HA.out (by simp[zag.j1])
    |succ bW=>
     have H:=HA.out;clear HA;simp only[zag.j1] at H;replace H:=bs H;obtain⟨⟨ax,ay⟩,er,H⟩:=H;dsimp only at H;have H':=zaa.mk H;clear H;have et:=K.out;have eu:=J.out;have ev:=ah.out;have ew:=ai.out;obtain⟨bX,bY,bZ,b0,b1,b2⟩:=cz3 X;go_wp2_with (first|((with_reducible refine zac (f:=18) rfl ?_);refine gB Tryd.func18 (zaH.calls bW E Y I (Go.bits .and .u64 a0 (IntKind.u64.wrap ((am)-1))) ax ay _ er.out) ?_ (hargs:=by(try simp only[List.map_toArray,List.map_cons,List.map_nil]);first|done|(simp only[aj];rfl)|rfl|(simp only[List.length_drop,List.length_take];rfl));intro fw hb;replace O:=kN (g:=D) (cs:=#[.string (⟨#[]⟩:ByteArray),.int .i64 0]) hb bk;replace X:=kN (g:=U) (cs:=#[.int .i64 E,.int .i64 Y,.int .u64 I]) hb bk;replace Z:=kN (g:=ad) (cs:=#[.string A,.int .i64 B,.string ae,.int .i64 af,.bool ((Int.tmod M 2)==0)]) hb bk;replace HB:=bN bz hb;clear hb)|((with_reducible refine zaf (N:=12) rfl ?_);refine zae rfl (N:=12) rfl (cs:=#[.string (⟨#[]⟩:ByteArray),.int .i64 0]) (t:=28) gz ?_;intro bd hg fx hbox hb;have ey:=gN bz hg;have ao:=lN (g:=D) (cs:=#[.string (⟨#[]⟩:ByteArray),.int .i64 0]) hg bk;have ap:=rN (g:=D) (cs:=#[.string (⟨#[]⟩:ByteArray),.int .i64 0]) hg bk;have be:=lN (g:=U) (cs:=#[.int .i64 E,.int .i64 Y,.int .u64 I]) hg bk;have bf:=rN (g:=U) (cs:=#[.int .i64 E,.int .i64 Y,.int .u64 I]) hg bk;have bg:=lN (g:=ad) (cs:=#[.string A,.int .i64 B,.string ae,.int .i64 af,.bool ((Int.tmod M 2)==0)]) hg bk;have bh:=rN (g:=ad) (cs:=#[.string A,.int .i64 B,.string ae,.int .i64 af,.bool ((Int.tmod M 2)==0)]) hg bk;replace O:=kN (g:=D) (cs:=#[.string (⟨#[]⟩:ByteArray),.int .i64 0]) hb bk;replace X:=kN (g:=U) (cs:=#[.int .i64 E,.int .i64 Y,.int .u64 I]) hb bk;replace Z:=kN (g:=ad) (cs:=#[.string A,.int .i64 B,.string ae,.int .i64 af,.bool ((Int.tmod M 2)==0)]) hb bk;have bi:=zaa.mk hbox;replace HB:=bN bz hb;clear hb hbox hg;have eA:=ap.out;have eB:=ao.out;have eC:=bf.out;have eD:=be.out;have eE:=bh.out;have eG:=bg.out;obtain⟨b3,b4,b5,b6⟩:=cz2 bi;have eH:=al.out;have eI:=ak.out;obtain⟨b7,b8,ca,cb,cc,cd,ce,cf,cg,ci⟩:=cz5 Z));go_loopg [14] bW (λkq eJ w'=> ∃(bj:Int) (aa:ByteArray) (ab:Int),eJ= .int .i64 bj/\zaa (zag.l0 kq bj ax ay A B ae af ((Int.tmod M 2)==0)=some (r1,r2,r3))/\zaa (kq<=bW)/\zaa (w'.heap[D]? =some (.cells #[.string aa,.int .i64 ab] 28 (0,0)))/\zaa (w'.heap[U]? =some (.cells #[.int .i64 E,.int .i64 Y,.int .u64 I] 38 (0,0)))/\zaa (w'.heap[ad]? =some (.cells #[.string A,.int .i64 B,.string ae,.int .i64 af,.bool ((Int.tmod M 2)==0)] 59 (0,0)))/\zaa (w'.heap[bd]? =some (.cells #[.string ax,.int .i64 ay] 28 (0,0)))/\zaa (Below w.heap.size w w'));(case atStart=>exact⟨(1),((⟨#[]⟩:ByteArray)),(0),rz,H',⟨Nat.le_refl _⟩,⟨bk⟩,⟨bk⟩,⟨bk⟩,⟨bk⟩,⟨bz⟩⟩);case round=>
      clear H';(try clear c9);(try clear bO);(try clear bP);(try clear bH);(try clear an);(try clear bJ);(try clear au);(try clear av);(try clear aA aB aC aD aE aF);(try clear aG aH aI aJ aK aL aM aN aO aP);(try clear aQ aR aS aT aU aV aW aX aY aZ);(try clear a2 a3 a4 a5 a6 a7 a8 a9 ba bb);(try clear bX bY bZ b0 b1 b2);(try clear b3 b4 b5 b6);(try clear b7 b8 ca cb cc cd ce cf cg ci);(try clear bB bC bD bE bF bG);obtain⟨bj,aa,ab,rfl,HA,dm,O,X,Z,bi,HB⟩:=hrel;cases gk with
      |zero=>exact absurd HA.out (by simp[zag.l0])
      |succ k3=>
       have H:=HA.out;clear HA;simp only[zag.l0] at H;replace H:=bs H;obtain⟨⟨cx,cy,cz⟩,eK,H⟩:=H;dsimp only at H;have eL:=ap.out;have eM:=ao.out;have eN:=bf.out;have eO:=be.out;have eP:=bh.out;have eQ:=bg.out;obtain⟨dn,dp,dq,ds⟩:=cz2 bi;(go_upto_if 104 with(first|((with_reducible refine zac (f:=26) rfl ?_);refine gB Tryd.func26 (zas.calls k3 ax ay bj A B ae af ((Int.tmod M 2)==0) cx cy cz _ eK.out) ?_;intro fy hb;replace O:=kN (g:=D) (cs:=#[.string aa,.int .i64 ab]) hb bk;replace X:=kN (g:=U) (cs:=#[.int .i64 E,.int .i64 Y,.int .u64 I]) hb bk;replace Z:=kN (g:=ad) (cs:=#[.string A,.int .i64 B,.string ae,.int .i64 af,.bool ((Int.tmod M 2)==0)]) hb bk;replace bi:=kN (g:=bd) (cs:=#[.string ax,.int .i64 ay]) hb bk;replace HB:=bN bz hb;clear hb)|((with_reducible refine zaf (N:=15) rfl ?_);refine zae rfl (N:=15) rfl (cs:=#[.string (⟨#[]⟩:ByteArray),.int .i64 0]) (t:=28) gz ?_;intro eR hg fz hbox hb;have eS:=gN bz hg;have bl:=lN (g:=D) (cs:=#[.string aa,.int .i64 ab]) hg bk;have bm:=rN (g:=D) (cs:=#[.string aa,.int .i64 ab]) hg bk;have bn:=lN (g:=U) (cs:=#[.int .i64 E,.int .i64 Y,.int .u64 I]) hg bk;have bo:=rN (g:=U) (cs:=#[.int .i64 E,.int .i64 Y,.int .u64 I]) hg bk;have bp:=lN (g:=ad) (cs:=#[.string A,.int .i64 B,.string ae,.int .i64 af,.bool ((Int.tmod M 2)==0)]) hg bk;have bq:=rN (g:=ad) (cs:=#[.string A,.int .i64 B,.string ae,.int .i64 af,.bool ((Int.tmod M 2)==0)]) hg bk;have br:=lN (g:=bd) (cs:=#[.string ax,.int .i64 ay]) hg bk;have bu:=rN (g:=bd) (cs:=#[.string ax,.int .i64 ay]) hg bk;replace O:=kN (g:=D) (cs:=#[.string aa,.int .i64 ab]) hb bk;replace X:=kN (g:=U) (cs:=#[.int .i64 E,.int .i64 Y,.int .u64 I]) hb bk;replace Z:=kN (g:=ad) (cs:=#[.string A,.int .i64 B,.string ae,.int .i64 af,.bool ((Int.tmod M 2)==0)]) hb bk;replace bi:=kN (g:=bd) (cs:=#[.string ax,.int .i64 ay]) hb bk;have cj:=zaa.mk hbox;replace HB:=bN bz hb;clear hb hbox hg;have eU:=bm.out;have eV:=bl.out;have eW:=bo.out;have eX:=bn.out;have eY:=bq.out;have eZ:=bp.out;have e0:=bu.out;have e1:=br.out;obtain⟨dt,du,dv,dw⟩:=cz2 cj)));(try simp only[Act.put,List.setIfInBounds_toArray,List.set_cons_zero,List.set_cons_succ]);by_cases cq:cz=true
       (·subst cq;replace H:=hT H;obtain⟨rfl,rfl,rfl⟩:=o3 H;have e2:=bm.out;have e3:=bl.out;have e4:=bo.out;have e5:=bn.out;have e6:=bq.out;have e7:=bp.out;have e8:=bu.out;have e9:=br.out;obtain⟨dx,dy,dA,dB⟩:=cz2 cj;have fa:=J.out;have fb:=K.out;have fc:=ak.out;have fe:=al.out;have fg:=ao.out;have fh:=ap.out;obtain⟨dC,dD,dE,dF⟩:=cz2 O;go_wp2;refine bodyPost_ret (zaq rfl _ _ D 28 #[.string cx,.int .i64 cy] (0,0) _ rfl bk Tryd.underlying28 rfl (by kernel_rfl)) rfl ?_;exact⟨by first|exact ez|(simp only[<-ar,<-aj];exact ez),bz⟩);replace cq:=Bool.eq_false_iff.mpr cq;subst cq;replace H:=hF H;have H':=zaa.mk H;clear H;go_wp2;go_roundg k3;(case measure=>have:=bS.out;have:=cw.out;have:=dm.out;omega);case rel=>exact⟨(wrap64 (bj+1)),(aa),(ab),rz,H',⟨by have:=bS.out;have:=cw.out;have:=dm.out;omega⟩,⟨bk⟩,⟨bk⟩,⟨bk⟩,⟨bk⟩,⟨bz⟩⟩
end
end Go.Proofs.YtlohbokljligoaaDoor.Fn
end
section
namespace Go.Proofs.YtlohbokljligoaaDoor.Pure
open Go.RowKit Go.Proofs.YtlohbokljligoaaDoorW.PrintWords Go.Proofs.YtlohbokljligoaaDoor.Fn
theorem zfc(u:Int):(S ([49]:List UInt8),u+1)=(S (decOf 1 u).1,(decOf 1 u).2):=by
 unfold decOf;rw[if_neg (by omega)];have h1:digs 1=[49]:=rfl;rw[h1];have h2:rz [49]=[49]:=rfl;rw[h2];simp;omega
theorem zfd{l:List UInt8}(h:AllD l){p:Int}(hl:l.length<=2000)(hp: -5000<=p/\p<=5000):normS (S l) p=(S (decOf (val l) (p-l.length)).1,(decOf (val l) (p-l.length)).2,0):=by
 unfold normS normTail;rw[if_neg (by rw[zaA];omega),L_S,if_pos (zdo h),if_neg (by omega),if_neg (by omega),zbh h];rfl
theorem zcb{n k:Nat}{e:Int}(h:n<10^k)(hk:k<=1400)(he: -3000<=e)(h2:e+k<=3000):(decOf n e).1.length<=2000/\ -5000<=(decOf n e).2/\(decOf n e).2<=5000:=by
 have:=zcP h e;omega
structure Val (wide : Bool) (p : Nat) (v : List UInt8 × Int) : Prop where
  form : InForm v.1 v.2
  len : v.1.length <= 1300
  lo : -1200 <= v.2
  hi : v.2 <= 1300
def cU(v:List UInt8×Int)(n:Nat):Nat:=val (v.1.take n)
def cE(v:List UInt8×Int)(n:Nat):Int:=v.2-n
def isP(wide:Bool)(p:Nat)(n:Nat)(x:Int):Prop:=rdX wide (dX wide n x)=p
instance (wide : Bool) (p n : Nat) (x : Int) : Decidable (isP wide p n x) := by unfold isP; infer_instance
def nearU(v:List UInt8×Int)(n:Nat):Nat:=if downP v.1 n then cU v n else cU v n+1
def bestD(wide:Bool)(p:Nat)(v:List UInt8×Int)(n:Nat):Option (List UInt8×Int):=
  if v.1.length<=n then some v
  else if isP wide p (nearU v n) (cE v n) then some (decOf (nearU v n) (cE v n))
  else if isP wide p (cU v n) (cE v n) then some (decOf (cU v n) (cE v n))
  else if isP wide p (cU v n+1) (cE v n) then some (decOf (cU v n+1) (cE v n)) else none
def optD(o:Option (List UInt8×Int)):ByteArray×Int×Bool:=match o with
  |some d=>(S d.1,d.2,true)
  |none=>(⟨#[]⟩,0,false)
structure Span (wide : Bool) (p : Nat) (lo hi : List UInt8 × Int) : Prop where
  f1 : InForm lo.1 lo.2
  f2 : InForm hi.1 hi.2
  b1 : lo.1.length <= 2000 /\ -5000 <= lo.2 /\ lo.2 <= 5000
  b2 : hi.1.length <= 2000 /\ -5000 <= hi.2 /\ hi.2 <= 5000
  c1 : ∀ (n : Nat) (x : Int), -(vv : Int) <= x -> cmpD lo.1 lo.2 (decOf n x).1 (decOf n x).2 = cmpN (loX wide p) (dX wide n x)
  c2 : ∀ (n : Nat) (x : Int), -(vv : Int) <= x -> cmpD hi.1 hi.2 (decOf n x).1 (decOf n x).2 = cmpN (hiX wide p) (dX wide n x)
theorem zeF{wide:Bool}{p:Nat}{lo hi:List UInt8×Int}(hs:Span wide p lo hi)(hp:0<p)(A:p<ii wide){n k:Nat}{e:Int}(h:n<10^k)(hk:k<=1400)(he: -3000<=e)(h2:e+k<=3000):
 Ev (λr=>zaj.f r (S lo.1) lo.2 (S hi.1) hi.2 (decide (p%2=0)) (S (decOf n e).1) (decOf n e).2) (decide (isP wide p n e)):=by
 have hv:=za7;exact zgu wide p _ rfl rfl rfl hs.f1 hs.f2 (zaP n e) hs.b1 hs.b2 (zcb h hk he h2) (hs.c1 n e (by omega)) (hs.c2 n e (by omega)) _ (by rw[decide_eq_true_iff];exact(zgq wide hp A _).symm)
theorem zhk{wide:Bool}{p:Nat}{v:List UInt8×Int}(hv:Val wide p v)(n:Nat)(hn:n<v.1.length):cU v n<10^n:=by
 have:=zcg (hv.form.1.take n);rw[List.length_take,Nat.min_eq_left (by omega)] at this;exact this
theorem zfe(v:List UInt8×Int)(n:Nat):nearU v n=cU v n\/nearU v n=cU v n+1:=by
 unfold nearU;split
 ·exact .inl rfl
 ·exact .inr rfl
theorem zgv{wide:Bool}{p:Nat}{v:List UInt8×Int}(hv:Val wide p v)(n:Nat)(hn:n<v.1.length):roundN v.1 v.2 (n:Int)=decOf (nearU v n) (cE v n):=by
 unfold roundN nearU cU cE;rw[if_neg (by omega),if_neg (by omega),Int.toNat_natCast];by_cases c:downP v.1 n
 ·rw[if_pos c,if_pos c]
 ·rw[if_neg c,if_neg c]
theorem Val.five{wide:Bool}{p:Nat}{v:List UInt8×Int}(hv:Val wide p v):v.1.length<=2000/\ -5000<=v.2/\v.2<=5000:=by
 have:=hv.len;have:=hv.lo;have:=hv.hi;omega
theorem zep{wide:Bool}{p:Nat}{lo hi v:List UInt8×Int}(hs:Span wide p lo hi)(hv:Val wide p v)(hp:0<p)(A:p<ii wide)(n:Nat):
 Ev (λk=>zas.f k (S v.1) v.2 (n:Int) (S lo.1) lo.2 (S hi.1) hi.2 (decide (p%2=0))) (optD (bestD wide p v n)):=by
 have hl:=hv.len;have hlo:=hv.lo;have hhi:=hv.hi;have h5:=hv.five;unfold zas.f bestD;rw[zaA];by_cases c1:v.1.length<=n
 ·rw[if_pos c1];exact Ev.congr (λk=>if_pos (by omega)) (Ev.now _)
 ·rw[if_neg c1];refine Ev.congr (λk=>if_neg (by omega)) ?_;(have hn:n<v.1.length:=by omega);have hu:=zhk hv n hn;have B:cU v n+1<10^(n+1):=by
   rw[Nat.pow_succ];have:1<=10^n:=Nat.pow_pos (by omega);omega
  (have hE: -3000<=cE v n/\cE v n+((n+1:Nat):Int)<=3000:=by unfold cE;omega);(have hnr:nearU v n<10^(n+1):=by rcases zfe v n with h|h<;>rw[h]<;>omega);have hr:=ze6 (S v.1) v.2 (n:Int);have e1:roundS (S v.1) v.2 (λ_=>(n:Int))=(S (decOf (nearU v n) (cE v n)).1,(decOf (nearU v n) (cE v n)).2,0):=by
   unfold roundS;rw[zbC hv.form h5.1 h5.2,if_pos rfl];simp only[L_S];rw[zgv hv n hn];rfl
  rw[e1] at hr;refine Ev.bind hr ?_;refine Ev.bind (zeF hs hp A hnr (by omega) hE.1 hE.2) ?_;by_cases c2:isP wide p (nearU v n) (cE v n)
  ·rw[if_pos c2];refine Ev.congr (λk=>if_pos (decide_eq_true c2)) (Ev.now _)
  ·rw[if_neg c2];refine Ev.congr (λk=>if_neg (λh=>c2 (of_decide_eq_true h))) ?_;refine Ev.congr (λk=>if_pos (by omega)) ?_;refine Ev.congr (λk=>if_pos (by omega)) ?_;rw[Int.toNat_natCast,zcz];have hnm:=zci (S (v.1.take n)) v.2;(have htl:(v.1.take n).length=n:=by rw[List.length_take,Nat.min_eq_left (by omega)]);rw[zfd (hv.form.1.take n) (by omega) h5.2,htl] at hnm;rw[show val (v.1.take n)=cU v n from rfl,show v.2-(n:Int)=cE v n from rfl] at hnm;refine Ev.bind hnm ?_;have hw:wrap64 (wrap64 (v.2-(n:Int))+1)=cE v n+1:=by
    unfold cE;rw[zap (x:=v.2-(n:Int)) (by omega) (by omega),zap (by omega) (by omega)]
   rw[hw];have hone:=zfc (cE v n);have D:(S ([49]:List UInt8))=S (decOf 1 (cE v n)).1:=congrArg Prod.fst hone;have E:cE v n+1=(decOf 1 (cE v n)).2:=congrArg Prod.snd hone;have hadd:=zgj (S (decOf (cU v n) (cE v n)).1) (decOf (cU v n) (cE v n)).2 (S (decOf 1 (cE v n)).1) (decOf 1 (cE v n)).2;(have hE':cE v n+(n:Int)<=3000:=by omega);(have I:cE v n+((1:Nat):Int)<=3000:=by omega);rw[zgk (zaP _ _) (zaP _ _) (zcb hu (by omega) hE.1 hE') (zcb (n:=1) (k:=1) (by decide) (by decide) hE.1 I)] at hadd;have e2:addD (decOf (cU v n) (cE v n)).1 (decOf (cU v n) (cE v n)).2 (decOf 1 (cE v n)).1 (decOf 1 (cE v n)).2=(S (decOf (cU v n+1) (cE v n)).1,(decOf (cU v n+1) (cE v n)).2,0):=by
    unfold addD;rw[ze4,if_neg (by have:=(zcb B (by omega) hE.1 hE.2).1;omega)];rfl
   rw[e2,<-D,<-E] at hadd;refine Ev.bind (g:=λk=>zah.f k (S (decOf (cU v n) (cE v n)).1) (decOf (cU v n) (cE v n)).2 (⟨#[49]⟩:ByteArray) (cE v n+1)) hadd ?_;refine Ev.step (λk=>by simp only[zas.l0];rfl) ?_;refine Ev.congr (λk=>if_pos (by simp)) ?_;refine Ev.congr (λk=>if_pos (by simp)) ?_;refine Ev.bind (zeF hs hp A hu (by omega) hE.1 hE') ?_;by_cases c3:isP wide p (cU v n) (cE v n)
   ·rw[if_pos c3];exact Ev.congr (λk=>if_pos (decide_eq_true c3)) (Ev.now _)
   ·rw[if_neg c3];refine Ev.congr (λk=>if_neg (λh=>c3 (of_decide_eq_true h))) ?_;rw[show wrap64 ((0:Int)+1)=1 by simp[wrap64]];refine Ev.step (λk=>by simp only[zas.l0];rfl) ?_;refine Ev.congr (λk=>if_pos (by simp)) ?_;refine Ev.congr (λk=>if_neg (by simp)) ?_;refine Ev.congr (λk=>if_pos (by simp)) ?_;refine Ev.bind (zeF hs hp A B (by omega) hE.1 hE.2) ?_;by_cases c4:isP wide p (cU v n+1) (cE v n)
    ·rw[if_pos c4];exact Ev.congr (λk=>if_pos (decide_eq_true c4)) (Ev.now _)
    ·rw[if_neg c4];refine Ev.congr (λk=>if_neg (λh=>c4 (of_decide_eq_true h))) ?_;rw[show wrap64 ((1:Int)+1)=2 by simp[wrap64]];refine Ev.step (λk=>by simp only[zas.l0];rfl) ?_;exact Ev.congr (λk=>if_neg (by simp)) (Ev.now _)
def shortGo(wide:Bool)(p:Nat)(v:List UInt8×Int):Nat->Nat->List UInt8×Int
  |0,_=>v
  |d+1,n=>match bestD wide p v n with
    |some r=>r
    |none=>shortGo wide p v d (n+1)
theorem zd5(wide:Bool)(p:Nat)(v:List UInt8×Int){n:Nat}(h:v.1.length<=n):bestD wide p v n=some v:=by
 unfold bestD;rw[if_pos h]
theorem zgw{wide:Bool}{p:Nat}{lo hi v:List UInt8×Int}(hs:Span wide p lo hi)(hv:Val wide p v)(hp:0<p)(A:p<ii wide): ∀(d n:Nat),v.1.length<=n+d->n<=2000->
 Ev (λk=>zag.l0 k (n:Int) (S v.1) v.2 (S lo.1) lo.2 (S hi.1) hi.2 (decide (p%2=0))) (S (shortGo wide p v d n).1,(shortGo wide p v d n).2,0):=by
 intro d;induction d with
 |zero=>
  intro n h hn;have hb:=zep hs hv hp A n;rw[zd5 wide p v (n:=n) h] at hb;refine Ev.step (λk=>by simp only[zag.l0];rfl) ?_;refine Ev.bind hb ?_;exact Ev.congr (λk=>if_pos rfl) (Ev.now _)
 |succ d ih=>
  intro n h hn;have hb:=zep hs hv hp A n;refine Ev.step (λk=>by simp only[zag.l0];rfl) ?_;refine Ev.bind hb ?_;unfold shortGo;cases hbd:bestD wide p v n with
  |some r=>exact Ev.congr (λk=>if_pos rfl) (Ev.now _)
  |none=>
   refine Ev.congr (λk=>if_neg (by decide)) ?_;have hlen:=hv.len;have B:n<v.1.length:=by
    refine Nat.lt_of_not_le λc=>?_;rw[zd5 wide p v c] at hbd;cases hbd
   rw[zap (by omega) (by omega),show((n:Int)+1)=((n+1:Nat):Int) by omega];exact ih (n+1) (by omega) (by omega)
def exV(wide:Bool)(p:Nat):List UInt8×Int:=exD (fM (ff wide) p) ((fE (ff wide) p:Int)-(ll wide:Int))
theorem zgx(wide:Bool){p:Nat}(hp:p<ii wide):Val wide p (exV wide p):=by
 have h1:=fEl wide (Nat.le_of_lt hp);have h2:=zbH wide (Nat.le_of_lt hp);have h:=zbj (m:=fM (ff wide) p) (by omega) (e:=(fE (ff wide) p:Int)-(ll wide:Int)) (by omega);exact⟨zbp _ _,h.1,h.2.1,h.2.2⟩
def shortD(wide:Bool)(p:Nat):List UInt8×Int:=shortGo wide p (exV wide p) (exV wide p).1.length 1
def shortS(wide:Bool)(a:Nat):ByteArray×Int×Int:=
  if ii wide<=bareN wide a then(⟨#[]⟩,0,1) else if bareN wide a=0 then(⟨#[]⟩,0,0) else(S (shortD wide (bareN wide a)).1,(shortD wide (bareN wide a)).2,0)
theorem zgy(wide:Bool){p:Nat}(hp:0<p)(hi:p<ii wide){lo:List UInt8×Int}(f1:InForm lo.1 lo.2)(b1:lo.1.length<=2000/\ -5000<=lo.2/\lo.2<=5000)
 (c1: ∀(n:Nat) (x:Int),-(vv:Int)<=x->cmpD lo.1 lo.2 (decOf n x).1 (decOf n x).2=cmpN (loX wide p) (dX wide n x)):
 Span wide p lo (exD (2*fM (ff wide) p+1) ((fE (ff wide) p:Int)-(ll wide:Int)-1)):=by
 have h1:=fEl wide (Nat.le_of_lt hi);have h2:=zbH wide (Nat.le_of_lt hi);have h:=zbj (m:=2*fM (ff wide) p+1) (by omega) (e:=(fE (ff wide) p:Int)-(ll wide:Int)-1) (by omega);exact⟨f1,zbp _ _,b1,by omega,c1,λn x hx=>zg7 wide p n x hx⟩
theorem zf1{wide:Bool}{p:Nat}{lo hi:List UInt8×Int}(hs:Span wide p lo hi)(hp:0<p)(A:p<ii wide):
 Ev (λk=>zag.j1 k (p:Int) (ff wide:Int) (-(ll wide:Int)) (ii wide:Int) (S lo.1) lo.2 (S hi.1) hi.2 (decide (p%2=0))) (S (shortD wide p).1,(shortD wide p).2,0):=by
 refine Ev.step (λk=>by simp only[zag.j1];rfl) ?_;have hsh:=zcx wide (Nat.le_of_lt A);refine Ev.bind hsh ?_;exact zgw hs (zgx wide A) hp A (exV wide p).1.length 1 (by omega) (by omega)
theorem zed(wide:Bool)(a:Nat)(ha:a<18446744073709551616):Ev (λk=>zag.f k (a:Int) (szB wide)) (shortS wide a):=by
 obtain⟨j,hj,ht,hw⟩:=ze0 wide;have hi:=zbU wide;have hmt:=Nat.mod_lt a (zdP wide).1;have htt:=(zdP wide).2;unfold zag.f;rw[zdZ];simp only[Option.bind_some,if_true];rw[hw];refine Ev.congr (λk=>if_pos (by omega)) ?_;rw[zcU _ hj,zbA _ _ (by omega) ha,<-ht];unfold shortS bareN;obtain⟨p,hp⟩: ∃p,a%tt wide=p:=⟨_,rfl⟩;rw[hp] at hmt ⊢;by_cases c1:ii wide<=p
 ·rw[if_pos c1];exact Ev.congr (λk=>if_pos (by omega)) (Ev.now _)
 ·rw[if_neg c1];refine Ev.congr (λk=>if_neg (by omega)) ?_;rw[zcs wide p (by omega)];simp only[Option.bind_some];by_cases c2:p=0
  ·rw[if_pos c2];(have h0:fM (ff wide) p=0:=by rw[c2];cases wide<;>decide);exact Ev.congr (λk=>if_pos (by omega)) (Ev.now _)
  ·rw[if_neg c2];(have A:0<p:=by omega);(have hlt:p<ii wide:=by omega);have hm:=zd4 (f:=ff wide) A;refine Ev.congr (λk=>if_neg (by omega)) ?_;have h1:=fEl wide (Nat.le_of_lt hlt);have h2:=zbH wide (Nat.le_of_lt hlt);obtain⟨e,he⟩: ∃e:Int,(fE (ff wide) p:Int)-(ll wide:Int)=e:=⟨_,rfl⟩;have B:=zgt wide A;have D:=zgs wide A;have hsp:=λlo=> @zgy wide p A hlt lo;have hll:=zfa wide;rw[he] at h1 D B hsp ⊢;obtain⟨m,hmm⟩: ∃m,fM (ff wide) p=m:=⟨_,rfl⟩;rw[hmm] at hm h2 D B hsp ⊢;have e1:IntKind.u64.wrap (IntKind.u64.wrap (2*(m:Int))+1)=((2*m+1:Nat):Int):=by
    rw[show(2:Int)*(m:Int)=((2*m:Nat):Int) by omega,u64N _ (by omega),show(((2*m:Nat):Int)+1)=((2*m+1:Nat):Int) by omega,u64N _ (by omega)]
   have e2:IntKind.u64.wrap (IntKind.u64.wrap (2*(m:Int))-1)=((2*m-1:Nat):Int):=by
    rw[show(2:Int)*(m:Int)=((2*m:Nat):Int) by omega,u64N _ (by omega),show(((2*m:Nat):Int)-1)=((2*m-1:Nat):Int) by omega,u64N _ (by omega)]
   have e4:IntKind.u64.wrap (IntKind.u64.wrap (4*(m:Int))-1)=((4*m-1:Nat):Int):=by
    rw[show(4:Int)*(m:Int)=((4*m:Nat):Int) by omega,u64N _ (by omega),show(((4*m:Nat):Int)-1)=((4*m-1:Nat):Int) by omega,u64N _ (by omega)]
   have w1:wrap64 (e-1)=e-1:=zap (by omega) (by omega);have w2:wrap64 (e-2)=e-2:=zap (by omega) (by omega);have x1:=zbB (2*m+1) (e-1) (by omega);rw[zbm _ (by omega)] at x1;have x2:=zbB (2*m-1) (e-1) (by omega);rw[zbm _ (by omega)] at x2;have x4:=zbB (4*m-1) (e-2) (by omega);rw[zbm _ (by omega)] at x4;have s2:=zbj (m:=2*m-1) (by omega) (e:=e-1) (by omega);have s4:=zbj (m:=4*m-1) (by omega) (e:=e-2) (by omega);rw[e1,w1,e2];refine Ev.bind x1 ?_;refine Ev.bind x2 ?_;refine Ev.congr (λk=>if_pos (by omega)) ?_;have hpar:(Int.tmod (m:Int) 2==0)=decide (p%2=0):=by
    rw[show(2:Int)=((2:Nat):Int) from rfl,tmodN];have hq:p%2=m%2:=by
     obtain⟨g1,_⟩:=fOf (ff wide) p;rw[hmm] at g1;obtain⟨u,hu⟩: ∃u,ff wide=u+1:=⟨ff wide-1,(Nat.sub_add_cancel (Nat.le_trans (by decide) (zg6 wide).1)).symm⟩;rw[hu,Nat.pow_succ,<-Nat.mul_assoc] at g1;generalize fE (u+1) p*2^u=G at g1;rw[g1];omega
    rw[hq,Bool.eq_iff_iff];simp;omega
   rw[hpar,zdl _ (Nat.le_trans (zfY wide) (by decide))]
   -- the two ways behind
   have E:m≠2^ff wide\/fE (ff wide) p=0->Ev (λk=>zag.j1 k (p:Int) (ff wide:Int) (-(ll wide:Int)) (ii wide:Int) (S (exD (2*m-1) (e-1)).1) (exD (2*m-1) (e-1)).2 (S (exD (2*m+1) (e-1)).1) (exD (2*m+1) (e-1)).2 (decide (p%2=0))) (S (shortD wide p).1,(shortD wide p).2,0):=λh=>
    zf1 (hsp _ (zbp _ _) (by omega) (λn x hx=>D h n x hx)) A hlt
   by_cases c3:m=2^ff wide
   ·refine Ev.congr (λk=>if_pos (by rw[c3])) ?_;by_cases c4:fE (ff wide) p=0
    ·rw[show decide (e> -(ll wide:Int))=false from decide_eq_false (by omega)];refine Ev.step (λk=>by simp only[zag.j0];rfl) ?_;exact Ev.congr (λk=>if_neg (by decide)) (E (.inr c4))
    ·rw[show decide (e> -(ll wide:Int))=true from decide_eq_true (by omega)];refine Ev.step (λk=>by simp only[zag.j0];rfl) ?_;refine Ev.congr (λk=>if_pos (by simp)) ?_;rw[e4,w2];refine Ev.bind x4 ?_;exact zf1 (hsp _ (zbp _ _) (by omega) (λn x hx=>B c3 c4 n x hx)) A hlt
   ·refine Ev.congr (λk=>if_neg (λh=>c3 (Int.ofNat.inj h))) ?_;refine Ev.step (λk=>by simp only[zag.j0];rfl) ?_;exact Ev.congr (λk=>if_neg (by decide)) (E (.inl c3))
theorem zfK(wide:Bool){l:List UInt8}{q:Int}(hf:InForm l q)(h5:l.length<=2000/\ -5000<=q/\q<=5000):rdS wide (S l) q=((rdX wide (dX wide (val l) (q-l.length)):Int),0):=by
 unfold rdS;rw[zbC hf h5.1 h5.2,if_pos rfl];simp only[L_S]
theorem zd6(wide:Bool)(p:Nat)(v:List UInt8×Int)(d n:Nat):shortGo wide p v (d+1) n=(bestD wide p v n).getD (shortGo wide p v d (n+1)):=by
 (conv=>lhs;unfold shortGo);cases bestD wide p v n<;>rfl
end Go.Proofs.YtlohbokljligoaaDoor.Pure
end
section
namespace Go.Proofs.YtlohbokljligoaaDoor.Fn
open Go.RowKit Go.Proofs.YtlohbokljligoaaDoorW.PrintWords Go.Proofs.YtlohbokljligoaaDoorW.PrintLast Go.Proofs.YtlohbokljligoaaDoorW.PrintMore
set_option maxHeartbeats 8000000
set_option maxRecDepth 100000
section
attribute [local go_sem] zaw zaD
attribute [local go_sem high] eqA28
def zaR.f(k:Nat):Option (Bool):=(zaB.f k (⟨#[49]⟩:ByteArray) 0 64).bind λD=>((zag.f k 4591870180066957722 64).bind λA=>((zaC.f 4609434218613702656 64).bind λB=>(if D.2=0 then(if A.2.2=0 then(if D.1=4591870180066957722 then(if(A.1.toList==([49]:List UInt8)&&(A.2.1==0))=true then(if B.2.1=6755399441055744 then(if B.2.2.1=(-52) then(some (B.2.2.2==0)) else(some false)) else(some false)) else(some false)) else(some false)) else(some false)) else(some false))))
theorem zaR.calls(k:Nat)(r:Bool)(w:World)(h:zaR.f k=some r):
 Calls Tryd.prog 9 #[] w λe w'=>e= .returned (.bool r)/\Below w.heap.size w w':=by
 have bd:=Tryd.underlying28;have HB:=zaa.mk (Below.refl w.heap.size w);have H:((zaB.f k (⟨#[49]⟩:ByteArray) 0 64).bind λac=>((zag.f k 4591870180066957722 64).bind λaa=>((zaC.f 4609434218613702656 64).bind λab=>(if ac.2=0 then(if aa.2.2=0 then(if ac.1=4591870180066957722 then(if(aa.1.toList==([49]:List UInt8)&&(aa.2.1==0))=true then(if ab.2.1=6755399441055744 then(if ab.2.2.1=(-52) then(some (ab.2.2.2==0)) else(some false)) else(some false)) else(some false)) else(some false)) else(some false)) else(some false)))))=some r:=h;clear h;replace H:=bs H;obtain⟨⟨K,M⟩,A1,H⟩:=H;dsimp only at H;replace H:=bs H;obtain⟨⟨B,D,O⟩,A2,H⟩:=H;dsimp only at H;replace H:=bs H;obtain⟨⟨Y,U,X,Z⟩,A3,H⟩:=H;dsimp only at H;by_cases c4:M=0;case neg=>
  replace H:=hN H c4;obtain⟨ad,ae⟩:=eF c4;obtain rfl:=Option.some.inj H;go_enter Tryd.func9,Tryd.ntmps9;go_wp2_with (first|((with_reducible refine zac (f:=8) rfl ?_);refine gB Tryd.func8 (zaB.calls k (⟨#[49]⟩:ByteArray) 0 64 K M _ A1.out) ?_;intro bJ hb;replace HB:=bN bz hb;clear hb)|((with_reducible refine zac (f:=20) rfl ?_);refine gB Tryd.func20 (zag.calls k 4591870180066957722 64 B D O _ A2.out) ?_;intro bK hb;replace HB:=bN bz hb;clear hb)|((with_reducible refine zaf (N:=3) rfl ?_);refine zae rfl (N:=3) rfl (cs:=#[.string (⟨#[]⟩:ByteArray),.int .i64 0]) (t:=28) gz ?_;intro E hg bL hbox hb;have I:=gN bz hg;have J:=gN bz hg;have A:=zaa.mk hbox;replace HB:=bN bz hb;clear hb hbox hg;obtain⟨a8,a9,ba,bb⟩:=cz2 A)|((with_reducible refine zac (f:=6) rfl ?_);refine gB Tryd.func6 (zaC.calls 4609434218613702656 64 Y U X Z _ A3.out) ?_;intro bM hb;replace A:=kN (g:=E) (cs:=#[.string B,.int .i64 D]) hb bk;replace HB:=bN bz hb;clear hb));go_ret;exact⟨ez,bz⟩
 replace H:=hE H c4;obtain⟨ad,ae⟩:=eT c4;clear c4;by_cases c5:O=0;case neg=>
  replace H:=hN H c5;obtain⟨af,ag⟩:=eF c5;obtain rfl:=Option.some.inj H;go_enter Tryd.func9,Tryd.ntmps9;go_wp2_with (first|((with_reducible refine zac (f:=8) rfl ?_);refine gB Tryd.func8 (zaB.calls k (⟨#[49]⟩:ByteArray) 0 64 K M _ A1.out) ?_;intro bF hb;replace HB:=bN bz hb;clear hb)|((with_reducible refine zac (f:=20) rfl ?_);refine gB Tryd.func20 (zag.calls k 4591870180066957722 64 B D O _ A2.out) ?_;intro bG hb;replace HB:=bN bz hb;clear hb)|((with_reducible refine zaf (N:=3) rfl ?_);refine zae rfl (N:=3) rfl (cs:=#[.string (⟨#[]⟩:ByteArray),.int .i64 0]) (t:=28) gz ?_;intro E hg bH hbox hb;have I:=gN bz hg;have J:=gN bz hg;have A:=zaa.mk hbox;replace HB:=bN bz hb;clear hb hbox hg;obtain⟨a4,a5,a6,a7⟩:=cz2 A)|((with_reducible refine zac (f:=6) rfl ?_);refine gB Tryd.func6 (zaC.calls 4609434218613702656 64 Y U X Z _ A3.out) ?_;intro bI hb;replace A:=kN (g:=E) (cs:=#[.string B,.int .i64 D]) hb bk;replace HB:=bN bz hb;clear hb));go_ret;exact⟨ez,bz⟩
 replace H:=hE H c5;obtain⟨af,ag⟩:=eT c5;clear c5;by_cases c6:K=4591870180066957722;case neg=>
  replace H:=hN H c6;obtain⟨ah,ai⟩:=eF c6;obtain rfl:=Option.some.inj H;go_enter Tryd.func9,Tryd.ntmps9;go_wp2_with (first|((with_reducible refine zac (f:=8) rfl ?_);refine gB Tryd.func8 (zaB.calls k (⟨#[49]⟩:ByteArray) 0 64 K M _ A1.out) ?_;intro bB hb;replace HB:=bN bz hb;clear hb)|((with_reducible refine zac (f:=20) rfl ?_);refine gB Tryd.func20 (zag.calls k 4591870180066957722 64 B D O _ A2.out) ?_;intro bC hb;replace HB:=bN bz hb;clear hb)|((with_reducible refine zaf (N:=3) rfl ?_);refine zae rfl (N:=3) rfl (cs:=#[.string (⟨#[]⟩:ByteArray),.int .i64 0]) (t:=28) gz ?_;intro E hg bD hbox hb;have I:=gN bz hg;have J:=gN bz hg;have A:=zaa.mk hbox;replace HB:=bN bz hb;clear hb hbox hg;obtain⟨aZ,a1,a2,a3⟩:=cz2 A)|((with_reducible refine zac (f:=6) rfl ?_);refine gB Tryd.func6 (zaC.calls 4609434218613702656 64 Y U X Z _ A3.out) ?_;intro bE hb;replace A:=kN (g:=E) (cs:=#[.string B,.int .i64 D]) hb bk;replace HB:=bN bz hb;clear hb));go_ret;exact⟨ez,bz⟩
 replace H:=hE H c6;obtain⟨ah,ai⟩:=eT c6;clear c6;by_cases c7:(B.toList==([49]:List UInt8)&&(D==0))=true;case neg=>
  replace H:=hN H c7;(have aj:(B.toList==([49]:List UInt8)&&(D==0))=false:=by simpa using c7);(try(have ak:decide (B.toList=([49]:List UInt8)&&(D==0))=false:=by simpa using c7));(try(have al:(B.toList==([49]:List UInt8)&&(D==0))=false:=by simpa using c7));(try(have be: ¬(B.toList=([49]:List UInt8)&&(D==0)):=by simpa using c7));clear c7;obtain rfl:=Option.some.inj H;go_enter Tryd.func9,Tryd.ntmps9;go_wp2_with (first|((with_reducible refine zac (f:=8) rfl ?_);refine gB Tryd.func8 (zaB.calls k (⟨#[49]⟩:ByteArray) 0 64 K M _ A1.out) ?_;intro bu hb;replace HB:=bN bz hb;clear hb)|((with_reducible refine zac (f:=20) rfl ?_);refine gB Tryd.func20 (zag.calls k 4591870180066957722 64 B D O _ A2.out) ?_;intro bv hb;replace HB:=bN bz hb;clear hb)|((with_reducible refine zaf (N:=3) rfl ?_);refine zae rfl (N:=3) rfl (cs:=#[.string (⟨#[]⟩:ByteArray),.int .i64 0]) (t:=28) gz ?_;intro E hg bw hbox hb;have I:=gN bz hg;have J:=gN bz hg;have A:=zaa.mk hbox;replace HB:=bN bz hb;clear hb hbox hg;obtain⟨aR,aS,aT,aU⟩:=cz2 A)|((with_reducible refine zac (f:=6) rfl ?_);refine gB Tryd.func6 (zaC.calls 4609434218613702656 64 Y U X Z _ A3.out) ?_;intro bA hb;replace A:=kN (g:=E) (cs:=#[.string B,.int .i64 D]) hb bk;replace HB:=bN bz hb;clear hb;obtain⟨aV,aW,aX,aY⟩:=cz2 A));go_ret;exact⟨ez,bz⟩
 replace H:=hE H c7;have aj:(B.toList==([49]:List UInt8)&&(D==0))=true:=c7;(try(have ak:decide (B.toList=([49]:List UInt8)&&(D==0))=true:=by simpa using c7));(try(have al:(B.toList==([49]:List UInt8)&&(D==0))=true:=by simpa using c7));clear c7;by_cases c8:U=6755399441055744
 ·replace H:=hE H c8;obtain⟨am,an⟩:=eT c8;clear c8;by_cases c9:X=(-52)
  (·replace H:=hE H c9;obtain⟨ao,ap⟩:=eT c9;clear c9;obtain rfl:=Option.some.inj H;go_enter Tryd.func9,Tryd.ntmps9;go_wp2_with (first|((with_reducible refine zac (f:=8) rfl ?_);refine gB Tryd.func8 (zaB.calls k (⟨#[49]⟩:ByteArray) 0 64 K M _ A1.out) ?_;intro bf hb;replace HB:=bN bz hb;clear hb)|((with_reducible refine zac (f:=20) rfl ?_);refine gB Tryd.func20 (zag.calls k 4591870180066957722 64 B D O _ A2.out) ?_;intro bg hb;replace HB:=bN bz hb;clear hb)|((with_reducible refine zaf (N:=3) rfl ?_);refine zae rfl (N:=3) rfl (cs:=#[.string (⟨#[]⟩:ByteArray),.int .i64 0]) (t:=28) gz ?_;intro E hg bh hbox hb;have I:=gN bz hg;have J:=gN bz hg;have A:=zaa.mk hbox;replace HB:=bN bz hb;clear hb hbox hg;obtain⟨ar,au,av,aw⟩:=cz2 A)|((with_reducible refine zac (f:=6) rfl ?_);refine gB Tryd.func6 (zaC.calls 4609434218613702656 64 Y U X Z _ A3.out) ?_;intro bi hb;replace A:=kN (g:=E) (cs:=#[.string B,.int .i64 D]) hb bk;replace HB:=bN bz hb;clear hb;obtain⟨ax,ay,az,aA⟩:=cz2 A));go_ret;exact⟨ez,bz⟩);replace H:=hN H c9;obtain⟨ao,ap⟩:=eF c9;obtain rfl:=Option.some.inj H;go_enter Tryd.func9,Tryd.ntmps9;go_wp2_with (first|((with_reducible refine zac (f:=8) rfl ?_);refine gB Tryd.func8 (zaB.calls k (⟨#[49]⟩:ByteArray) 0 64 K M _ A1.out) ?_;intro bj hb;replace HB:=bN bz hb;clear hb)|((with_reducible refine zac (f:=20) rfl ?_);refine gB Tryd.func20 (zag.calls k 4591870180066957722 64 B D O _ A2.out) ?_;intro bl hb;replace HB:=bN bz hb;clear hb)|((with_reducible refine zaf (N:=3) rfl ?_);refine zae rfl (N:=3) rfl (cs:=#[.string (⟨#[]⟩:ByteArray),.int .i64 0]) (t:=28) gz ?_;intro E hg bm hbox hb;have I:=gN bz hg;have J:=gN bz hg;have A:=zaa.mk hbox;replace HB:=bN bz hb;clear hb hbox hg;obtain⟨aB,aC,aD,aE⟩:=cz2 A)|((with_reducible refine zac (f:=6) rfl ?_);refine gB Tryd.func6 (zaC.calls 4609434218613702656 64 Y U X Z _ A3.out) ?_;intro bn hb;replace A:=kN (g:=E) (cs:=#[.string B,.int .i64 D]) hb bk;replace HB:=bN bz hb;clear hb;obtain⟨aF,aG,aH,aI⟩:=cz2 A));go_ret;exact⟨ez,bz⟩
 replace H:=hN H c8;obtain⟨am,an⟩:=eF c8;obtain rfl:=Option.some.inj H;go_enter Tryd.func9,Tryd.ntmps9;go_wp2_with (first|((with_reducible refine zac (f:=8) rfl ?_);refine gB Tryd.func8 (zaB.calls k (⟨#[49]⟩:ByteArray) 0 64 K M _ A1.out) ?_;intro bo hb;replace HB:=bN bz hb;clear hb)|((with_reducible refine zac (f:=20) rfl ?_);refine gB Tryd.func20 (zag.calls k 4591870180066957722 64 B D O _ A2.out) ?_;intro bp hb;replace HB:=bN bz hb;clear hb)|((with_reducible refine zaf (N:=3) rfl ?_);refine zae rfl (N:=3) rfl (cs:=#[.string (⟨#[]⟩:ByteArray),.int .i64 0]) (t:=28) gz ?_;intro E hg bq hbox hb;have I:=gN bz hg;have J:=gN bz hg;have A:=zaa.mk hbox;replace HB:=bN bz hb;clear hb hbox hg;obtain⟨aJ,aK,aL,aM⟩:=cz2 A)|((with_reducible refine zac (f:=6) rfl ?_);refine gB Tryd.func6 (zaC.calls 4609434218613702656 64 Y U X Z _ A3.out) ?_;intro br hb;replace A:=kN (g:=E) (cs:=#[.string B,.int .i64 D]) hb bk;replace HB:=bN bz hb;clear hb;obtain⟨aN,aO,aP,aQ⟩:=cz2 A));go_ret;exact⟨ez,bz⟩
end
end Go.Proofs.YtlohbokljligoaaDoor.Fn
end
section
namespace Go.Proofs.YtlohbokljligoaaDoor.Pure
open Go.RowKit Go.Proofs.YtlohbokljligoaaDoorW.PrintWords Go.Proofs.YtlohbokljligoaaDoor.Fn
theorem zgz: ∃p,p+1=4591870180066957722/\p<9218868437227405312/\fW 52 p*20<=2^1075/\2^1075<fW 52 (p+1)*20/\(fW 52 p+fW 52 (p+1))*10<2^1075:=⟨4591870180066957721,by decide+kernel⟩
theorem zgA(wide:Bool):dX wide 1 (-1)*10=CC*2^uu wide:=by
 have hv:=za7;obtain⟨u,hu⟩: ∃u,vv=u+1:=⟨vv-1,by omega⟩;unfold dX CC;rw[hu,show(-1+((u+1:Nat):Int)).toNat=u by omega,Nat.pow_succ,Nat.one_mul];rw[Nat.mul_assoc,Nat.mul_comm (2^uu wide),<-Nat.mul_assoc]
theorem zdp{a X C L:Nat}(hX:X*10=C*L)(hC:0<C):(a*(2*C)<=X↔a*20<=L)/\(X<a*(2*C)↔L<a*20)/\(a*C<X↔a*10<L):=by
 have e1:a*(2*C)*10=C*(a*20):=by
  rw[show(20:Nat)=2*10 from rfl];simp only[Nat.mul_assoc,Nat.mul_comm,Nat.mul_left_comm]
 (have e2:a*C*10=C*(a*10):=by simp only[Nat.mul_assoc,Nat.mul_comm,Nat.mul_left_comm]);refine⟨?_,?_,?_⟩
 ·rw[<-Nat.mul_le_mul_right_iff (show 0<10 by decide),e1,hX,Nat.mul_le_mul_left_iff hC]
 ·rw[<-Nat.mul_lt_mul_right (show 0<10 by decide),e1,hX,Nat.mul_lt_mul_left hC]
 ·rw[<-Nat.mul_lt_mul_right (show 0<10 by decide),e2,hX,Nat.mul_lt_mul_left hC]
theorem zda:rdX true (dX true 1 (-1))=4591870180066957722:=by
 obtain⟨p,hp,hi,w1,w2,w3⟩:=zgz;have hX:=zgA true;have hu:uu true=1075:=rfl;have hf:ff true=52:=rfl;have hii:ii true=9218868437227405312:=rfl;obtain⟨L,hL⟩: ∃L,2^1075=L:=⟨_,rfl⟩;rw[hu,hL] at hX;rw[hL] at w1 w2 w3;have hfl:fFloor (ff true) (ii true) (dX true 1 (-1)) (2*CC) p:=by
  rw[hf,hii];exact⟨Nat.le_of_lt hi,(zdp hX zbN).1.2 w1,λ_=>(zdp hX zbN).2.1.2 w2⟩
 rw[zcK true hfl,if_neg (by omega),hf,if_pos (.inl ((zdp hX zbN).2.2.2 w3))];exact hp
def tenthL:List UInt8:=[49,48,48,48,48,48,48,48,48,48,48,48,48,48,48,48,48,53,53,53,49,49,49,53,49,50,51,49,50,53,55,56,50,55,48,50,49,49,56,49,53,56,51,52,48,52,53,52,49,48,49,53,54,50,53]
theorem zgB:exV true 4591870180066957722=(tenthL,0):=by decide+kernel
theorem zee:shortD true 4591870180066957722=([49],0):=by
 unfold shortD;rw[zgB];(have hl:tenthL.length=54+1:=by decide);show shortGo true _ (tenthL,0) tenthL.length 1=_;(have hn:nearU (tenthL,0) 1=1:=by decide+kernel);(have hE:cE (tenthL,0) 1= -1:=by unfold cE;rfl);have hb:bestD true 4591870180066957722 (tenthL,0) 1=some ([49],0):=by
  unfold bestD;rw[if_neg (by rw[hl];decide),hn,hE,if_pos (show isP true 4591870180066957722 1 (-1) from zda)];rfl
 rw[hl,zd6,hb];rfl
theorem zef:shortS true 4591870180066957722=(S [49],0,0):=by
 (have hb:bareN true 4591870180066957722=4591870180066957722:=by decide);unfold shortS;rw[hb,if_neg (by decide),if_neg (by decide),zee]
theorem zeG:rdS true (S [49]) 0=(4591870180066957722,0):=by
 have h1:InForm ([49]:List UInt8) 0:=⟨zfI,λc t h=>by
  injection h with h1 h2
  rw[<-h1];decide,rfl,λh=>by cases h⟩
 rw[zfK true h1 (by decide)];(have:dX true (val [49]) (0-(([49]:List UInt8).length:Int))=dX true 1 (-1):=by rw[zgp];rfl);rw[this,zda];rfl
theorem zfL:partsS true 4609434218613702656=(false,6755399441055744,-52,0):=by decide+kernel
theorem zg8:Ev (λk=>zaR.f k) true:=by
 have h1:=zcL true (S [49]) 0;rw[zeG] at h1;have h2:=zed true 4591870180066957722 (by decide);rw[zef] at h2;have h3:=parts_eq true 4609434218613702656 (by decide);rw[zfL] at h3;unfold zaR.f;refine Ev.bind (g:=λk=>zaB.f k (⟨#[49]⟩:ByteArray) 0 64) h1 ?_;refine Ev.bind (g:=λk=>zag.f k 4591870180066957722 64) h2 ?_;refine Ev.congr (λk=>?_) (Ev.now _);rw[show zaC.f 4609434218613702656 64=some (false,6755399441055744,-52,0) from h3];simp[zaY,L_S]
theorem wf_u64{a:Int}(h:(Lit.int .u64 a).wf=true): ∃n:Nat,a=n/\n<18446744073709551616:=by
 have h2:0<=a/\a<18446744073709551616:=by
  simp[Lit.wf,IntKind.min,IntKind.max,IntKind.bits,IntKind.signed] at h;omega
 exact⟨a.toNat,by omega,by omega⟩
theorem zff(wide:Bool):zaQ.f wide=some (szB wide):=by cases wide<;>rfl
theorem zfg(wide:Bool)(a:Nat)(ha:a<18446744073709551616): ∃p:Nat,zaL.f (a:Int) (szB wide)=some (p:Int)/\p<ii wide:=by
 cases wide
 ·have hm:=zbA 31 a (by omega) ha;have e:((2^31-1:Nat):Int)=2147483647:=rfl;rw[e] at hm;have hb:a%2^31<2147483648:=Nat.mod_lt _ (by decide);unfold zaL.f szB ii;simp only[Bool.false_eq_true,if_false,if_true];rw[hm];generalize a%2^31=q at*
  by_cases c:(q:Int)>=2139095040
  ·refine⟨q-2139095040,?_,by omega⟩;rw[if_pos c,show((q:Int)-2139095040)=((q-2139095040:Nat):Int) by omega,u64N _ (by omega)]
  ·exact⟨q,by rw[if_neg c],by omega⟩
 ·have hm:=zbA 63 a (by omega) ha;have e:((2^63-1:Nat):Int)=9223372036854775807:=rfl;rw[e] at hm;have hb:a%2^63<9223372036854775808:=Nat.mod_lt _ (by decide);unfold zaL.f szB ii;simp only[if_true];rw[if_neg (by decide),hm];generalize a%2^63=q at*
  by_cases c:(q:Int)>=9218868437227405312
  ·refine⟨q-9218868437227405312,?_,by omega⟩;rw[if_pos c,show((q:Int)-9218868437227405312)=((q-9218868437227405312:Nat):Int) by omega,u64N _ (by omega)]
  ·exact⟨q,by rw[if_neg c],by omega⟩
theorem zfM(wide:Bool){p:Nat}(hp:p<ii wide):bareN wide p=p:=by
 have:=(zbU wide).2.1;exact Nat.mod_eq_of_lt (by omega)
theorem zfh(wide:Bool){p:Nat}(hp:p<ii wide):zaC.f (p:Int) (szB wide)=some (false,(fM (ff wide) p:Int),(fE (ff wide) p:Int)-(ll wide:Int),0):=by
 have hi:=zbU wide;rw[parts_eq wide p (by omega)];unfold partsS;rw[zfM wide hp,if_pos hp,Nat.div_eq_of_lt (by omega)];rfl
end Go.Proofs.YtlohbokljligoaaDoor.Pure
end
section
namespace Go.Proofs.YtlohbokljligoaaDoor.Fn
open Go.RowKit Go.Proofs.YtlohbokljligoaaDoorW.PrintWords Go.Proofs.YtlohbokljligoaaDoorW.PrintLast Go.Proofs.YtlohbokljligoaaDoorW.PrintMore
set_option maxHeartbeats 8000000
set_option maxRecDepth 100000
section
attribute [local go_sem] zaw zaD
def repsB(c:UInt8)(i:Nat):ByteArray:=⟨(List.replicate i c).toArray⟩
theorem zbx(c:UInt8)(i:Nat):(repsB c i).size=i:=by simp[repsB,ByteArray.size]
theorem zdb(c:UInt8)(i:Nat):repsB c i++(⟨#[c]⟩:ByteArray)=repsB c (i+1):=by
 apply ByteArray.ext;rw[ByteArray.data_append];apply Array.ext';simp[repsB,List.replicate_succ']
def fewerB(s:ByteArray):ByteArray:=strOfNums ((bytesOf s).set (s.size-1) (rd (bytesOf s) ((s.size-1:Nat):Int)-1))
def platenlaw05_ShortMiddles.f(k:Nat)(a0:Int)(a1:Bool):Option Bool:=
  (zaQ.f a1).bind λn=>(zaL.f a0 n).bind λp=>(zaC.f p n).bind λb=>(zab.f k (IntKind.u64.wrap (IntKind.u64.wrap (2*b.2.1)+1)) (wrap64 (b.2.2.1-1))).bind λd=>
    if d.2.2=0/\0<d.1.size/\d.1.size<=100000/\1<=rd (bytesOf d.1) ((d.1.size-1:Nat):Int)/\rd (bytesOf d.1) ((d.1.size-1:Nat):Int)<=255 then
      (zaB.f k d.1 d.2.1 n).bind λq=>(zaB.f k ((d.1++repsB 48 25)++(⟨#[49]⟩:ByteArray)) d.2.1 n).bind λr=>(zaB.f k (fewerB d.1++repsB 57 25) d.2.1 n).bind λs=>
        if q.2=0/\r.2=0/\s.2=0/\q.1=IntKind.u64.wrap (p+Int.tmod p 2)/\r.1=IntKind.u64.wrap (p+1)/\s.1=p then zaR.f k else none
    else none
theorem gI{α:Type}{c:Prop}[Decidable c]{a:Option α}{r:α}(h:(if c then a else none)=some r):c/\a=some r:=by
 by_cases d:c
 ·rw[if_pos d] at h;exact⟨d,h⟩
 ·rw[if_neg d] at h;cases h
theorem zfi{w:World}{dg:ByteArray}{X Y:Int}(hs:0<dg.size)(hX:rd (bytesOf dg) ((dg.size-1:Nat):Int)=X){P:Program}(A:P.underlying 34=some (.slice 5))(h5:P.underlying 5=some (.int .u8))(h9:P.underlying 9=some .string)(cap:Nat):
 (Lib.bytesWorld w 5 dg).cell? ⟨w.heap.size,dg.size-1,none⟩=some (.int .u8 X)/\(Lib.bytesWorld w 5 dg).frozen? ⟨w.heap.size,dg.size-1,none⟩=false/\
 (convert 34 9 (.slice (some ⟨w.heap.size,0,none⟩) dg.size cap)).run P ((Lib.bytesWorld w 5 dg).setCell ⟨w.heap.size,dg.size-1,none⟩ (.int .u8 Y))= .ok (.string (strOfNums ((bytesOf dg).set (dg.size-1) Y))) ((Lib.bytesWorld w 5 dg).setCell ⟨w.heap.size,dg.size-1,none⟩ (.int .u8 Y))/\
 Below w.heap.size w ((Lib.bytesWorld w 5 dg).setCell ⟨w.heap.size,dg.size-1,none⟩ (.int .u8 Y)):=by
 have hl:=bytesOf_length dg;have hM:=Bts.made w 5 dg;have hc:=hM.cell (dg.size-1) (by omega);rw[hX] at hc;refine⟨hc,hM.free (dg.size-1) (by omega),?_,zaW (zbE (Below.refl _ _) (Nat.le_refl _) 5 dg) (Nat.le_refl _)⟩;have ht:=(hM.set (dg.size-1) Y).text (P:=P) (src:=34) (dst:=9) (cap:=cap) A h5 h9;rw[List.length_set,hl] at ht;exact ht
theorem zgC{x:Int}(h1:1<=x)(h2:x<=255):(x-1)%256=x-1:=by omega
theorem platenlaw05_ShortMiddles.calls(k:Nat)(a0:Int)(a1:Bool)(r:Bool)(w:World)(h:platenlaw05_ShortMiddles.f k a0 a1=some r):
 Calls Tryd.prog 3 #[.int .u64 a0,.bool a1] w λe w'=>e= .returned (.bool r)/\Below w.heap.size w w':=by
 unfold platenlaw05_ShortMiddles.f at h;replace h:=bs h;obtain⟨n,A1,h⟩:=h;replace h:=bs h;obtain⟨p,A2,h⟩:=h;replace h:=bs h;obtain⟨⟨b1,b2,b3,b4⟩,A3,h⟩:=h;dsimp only at h;replace h:=bs h;obtain⟨⟨dg,pt,er⟩,A4,h⟩:=h;dsimp only at h;replace h:=gI h;obtain⟨⟨rfl,A,I,B,D⟩,h⟩:=h;replace h:=bs h;obtain⟨⟨q1,q2⟩,A5,h⟩:=h;dsimp only at h;replace h:=bs h;obtain⟨⟨r1,r2⟩,A6,h⟩:=h;dsimp only at h;replace h:=bs h;obtain⟨⟨s1,s2⟩,A7,h⟩:=h;dsimp only at h;replace h:=gI h;obtain⟨⟨rfl,rfl,rfl,rfl,rfl,rfl⟩,h⟩:=h;have A8:=zaa.mk h;clear h;obtain⟨X,hX⟩: ∃X:Int,rd (bytesOf dg) ((dg.size-1:Nat):Int)=X:=⟨_,rfl⟩;rw[hX] at B D;(have hfw:fewerB dg=strOfNums ((bytesOf dg).set (dg.size-1) ((X-1)%256)):=by unfold fewerB;rw[hX,zgC B D]);rw[hfw] at A7;clear hfw;have HX:=zaa.mk hX;have SZ:=zaa.mk A;have SB:=zaa.mk I;have hemp:dg.toList.isEmpty=false:=by
  rw[Lib.toList_data];have h1:=Lib.size_eq dg;cases hl:dg.data.toList with
  |nil=>rw[hl] at h1;simp at h1;rw[h1] at A;exact absurd A (by decide)
  |cons c l=>rfl
 have hnl:(dg.toList==([]:List UInt8))=false:=by
  cases hl:dg.toList with
  |nil=>rw[hl] at hemp;simp at hemp
  |cons c l=>rfl
 clear B D A I hX;have M:=Tryd.underlying28;have HB:=zaa.mk (Below.refl w.heap.size w);go_enter Tryd.func3,Tryd.ntmps3;go_wp2_with (first|((with_reducible refine zac (f:=5) rfl ?_);refine za9 (some 26) rfl rfl Tryd.func5 (by kernel_rfl) rfl #[.bool a1] rfl lz ?_;(with_reducible refine(zaQ.calls a1 n _ A1.out).mono ?_);rintro e w' ⟨rfl,⟨nd,rfl⟩⟩;refine⟨_,rfl,?_⟩)|((with_reducible refine zac (f:=4) rfl ?_);refine za9 (some 27) rfl rfl Tryd.func4 (by kernel_rfl) rfl #[.int .u64 a0,.int .i64 n] rfl lz ?_;(with_reducible refine(zaL.calls a0 n s1 _ A2.out).mono ?_);rintro e w' ⟨rfl,⟨nd,rfl⟩⟩;refine⟨_,rfl,?_⟩)|((with_reducible refine zac (f:=5) rfl ?_);refine za9 (some 29) rfl rfl Tryd.func5 (by kernel_rfl) rfl #[.bool a1] rfl lz ?_;(with_reducible refine(zaQ.calls a1 n _ A1.out).mono ?_);rintro e w' ⟨rfl,⟨nd,rfl⟩⟩;refine⟨_,rfl,?_⟩)|((with_reducible refine zac (f:=6) rfl ?_);refine za9 (some 33) rfl rfl Tryd.func6 (by kernel_rfl) rfl #[.int .u64 s1,.int .i64 n] rfl lz ?_;(with_reducible refine(zaC.calls s1 n b1 b2 b3 b4 _ A3.out).mono ?_);rintro e w1 ⟨rfl,hb⟩;refine⟨_,rfl,?_⟩;replace HB:=bN bz hb;clear hb)|((with_reducible refine zac (f:=7) rfl ?_);refine za9 (some 44) rfl rfl Tryd.func7 (by kernel_rfl) rfl #[.int .u64 (IntKind.u64.wrap (IntKind.u64.wrap (2*b2)+1)),.int .i64 (wrap64 (b3-1))] rfl lz ?_;(with_reducible refine(zab.calls k (IntKind.u64.wrap (IntKind.u64.wrap (2*b2)+1)) (wrap64 (b3-1)) dg pt 0 _ A4.out).mono ?_);rintro e w2 ⟨rfl,hb⟩;refine⟨_,rfl,?_⟩;replace HB:=bN bz hb;clear hb)|((with_reducible refine zaf (N:=11) rfl ?_);refine zae rfl (N:=11) rfl (cs:=#[.string (⟨#[]⟩:ByteArray),.int .i64 0]) (t:=28) gz ?_;intro gb hg w3 hbox hb;have GE:=gN bz hg;have BK:=zaa.mk hbox;replace HB:=bN bz hb;clear hb hbox hg;obtain⟨O,U,Z,aa⟩:=cz2 (W:=w3) BK)|((with_reducible refine zac (f:=8) rfl ?_);refine za9 (some 61) rfl rfl Tryd.func8 (by kernel_rfl) rfl #[.agg #[.string dg,.int .i64 pt],.int .i64 n] rfl lz ?_;(with_reducible refine(zaB.calls k dg pt n _ 0 _ A5.out).mono ?_);rintro e w4 ⟨rfl,hb⟩;refine⟨_,rfl,?_⟩;replace BK:=kN (g:=gb) (cs:=#[.string dg,.int .i64 pt]) hb bk;replace HB:=bN bz hb;clear hb));go_loopw [16,17,18] (λJ K E wr=> ∃i:Nat,i<=25/\J= .string (repsB 48 i)/\K= .string (repsB 57 i)/\E= .int .i64 (i:Int)/\wr=w4) (λ_ _ E _=>(25-intOf E).toNat);(case atStart=>exact⟨0,by omega,rfl,rfl,rfl,rfl⟩);case round=>
  obtain⟨i,hi,rfl,rfl,rfl,rfl⟩:=hrel;by_cases hlt:i<25
  ·(have f1:(repsB 48 i).size+1<=9223372036854775807:=by rw[zbx];omega);(have f2:(repsB 57 i).size+1<=9223372036854775807:=by rw[zbx];omega);go_wp2;go_roundw;(case rel=>exact⟨i+1,by omega,by rw[zdb],by rw[zdb],by go_num,by first|rfl|trivial⟩);case measure=>simp[intOf];omega
  ·(obtain rfl:i=25:=by omega);have f0:=zbx 48 25;have f9:=zbx 57 25;(have f1:dg.size+(repsB 48 25).size<=9223372036854775807:=by have:=SZ.out;have:=SB.out;omega);(have f2:(dg++repsB 48 25).size+1<=9223372036854775807:=by rw[ByteArray.size_append];have:=SZ.out;have:=SB.out;omega);(have f3:dg.size+(repsB 48 25).size+1<=9223372036854775807:=by have:=SZ.out;have:=SB.out;omega);obtain⟨ab,ac,ad,ae⟩:=cz2 (W:=wr) BK;clear f0 f9;have kc:=λW=>zcc (P:=Tryd.prog) 9 34 5 Tryd.underlying9 Tryd.underlying34 Tryd.underlying5 dg W;have an:(1<=(dg.size:Int))=True:=eq_true (by have:=SZ.out;omega);have ao:((dg.size:Int)-1<(dg.size:Int))=True:=eq_true (by omega);have g0:(strOfNums ((bytesOf dg).set (dg.size-1) ((X-1)%256))).size+(repsB 57 25).size<=9223372036854775807:=by
    rw[strOfNums_size,List.length_set,bytesOf_length,zbx];have:=SB.out;omega
   go_wp2_with (first|((with_reducible refine zac (f:=8) rfl ?_);refine za9 (some 82) rfl rfl Tryd.func8 (by kernel_rfl) rfl #[.agg #[.string ((dg++repsB 48 25)++(⟨#[49]⟩:ByteArray)),.int .i64 pt],.int .i64 n] rfl lz ?_;(with_reducible refine(zaB.calls k ((dg++repsB 48 25)++(⟨#[49]⟩:ByteArray)) pt n _ 0 _ A6.out).mono ?_);rintro e w5 ⟨rfl,hb⟩;refine⟨_,rfl,?_⟩;replace BK:=kN (g:=gb) (cs:=#[.string dg,.int .i64 pt]) hb bk;replace HB:=bN bz hb;clear hb;obtain⟨af,ag,ah,ai⟩:=cz2 (W:=w5) BK;obtain⟨L1,L2,L3,L4⟩:=zfi (w:=w5) (Y:=(X-1)%256) SZ.out HX.out Tryd.underlying34 Tryd.underlying5 Tryd.underlying9 (grownCap w5 dg.size 0 5);have L5:=kN (g:=gb) (cs:=#[.string dg,.int .i64 pt]) L4 BK.out;have L6:=bN HB.out L4;obtain⟨aj,ak,al,am⟩:=cz2 L5;clear L4)|((with_reducible refine zac (f:=8) rfl ?_);refine za9 (some 105) rfl rfl Tryd.func8 (by kernel_rfl) rfl #[.agg #[.string (strOfNums ((bytesOf dg).set (dg.size-1) ((X-1)%256))++repsB 57 25),.int .i64 pt],.int .i64 n] rfl lz ?_;(with_reducible refine(zaB.calls k (strOfNums ((bytesOf dg).set (dg.size-1) ((X-1)%256))++repsB 57 25) pt n _ 0 _ A7.out).mono ?_);rintro e w6 ⟨rfl,hb⟩;refine⟨_,rfl,?_⟩;replace HB:=bN L6.out hb;clear hb)|(go_at_call 9;(with_reducible refine(zaR.calls k r _ A8.out).mono ?_);rintro e w7 ⟨rfl,hb⟩;replace HB:=bN HB.out hb;clear hb));go_ret;exact⟨rfl,HB.out⟩
end
end Go.Proofs.YtlohbokljligoaaDoor.Fn
end
section
namespace Go.Proofs.YtlohbokljligoaaDoor.Pure
open Go.RowKit Go.Proofs.YtlohbokljligoaaDoorW.PrintWords Go.Proofs.YtlohbokljligoaaDoorW.PrintLast Go.Proofs.YtlohbokljligoaaDoorW.PrintMore Go.Proofs.YtlohbokljligoaaDoor.Fn
theorem zfN(wide:Bool)(n:Nat){e:Int}(he: -(vv:Int)<=e):dX wide (val (decOf n e).1) ((decOf n e).2-(decOf n e).1.length)=dX wide n e:=by
 unfold dX decOf;by_cases c:n=0
 ·rw[if_pos c,c];show val []*_*_=_;rw[zaI,Nat.zero_mul,Nat.zero_mul,Nat.zero_mul,Nat.zero_mul]
 ·rw[if_neg c];show val (rz (digs n))*10^((((digs n).length:Int)+e)-((rz (digs n)).length:Int)+(vv:Int)).toNat*2^uu wide=_;obtain⟨k,hk⟩:=zb6 (digs n);obtain⟨R,hR⟩: ∃R,rz (digs n)=R:=⟨_,rfl⟩;rw[hR] at hk ⊢;have hl:(digs n).length=R.length+k:=by
   have:=congrArg List.length hk;rw[List.length_append,List.length_replicate] at this;exact this
  have hn:n=val R*10^k:=by
   have:=zb0 n;rw[hk,val_append,List.length_replicate,zbK,Nat.add_zero] at this;exact this.symm
  (have A:((((digs n).length:Int)+e)-(R.length:Int)+(vv:Int)).toNat=k+(e+(vv:Int)).toNat:=by omega);rw[A,Nat.pow_add,<-Nat.mul_assoc,<-hn]
theorem zdq(wide:Bool){l:List UInt8}{q:Int}(hf:AllD l)(h5:l.length<=2000/\ -5000<=q/\q<=5000):rdS wide (S l) q=((rdX wide (dX wide (val l) (q-l.length)):Int),0):=by
 have h1:normS (S l) q=(S (decOf (val l) (q-l.length)).1,(decOf (val l) (q-l.length)).2,0):=by
  unfold normS normTail;rw[if_neg (by rw[zaA];omega),L_S,if_pos (zdo hf),if_neg (by omega),if_neg (by omega),zbh hf];rfl
 unfold rdS;rw[h1,if_pos rfl];simp only[L_S];rw[zfN wide _ (by have:=za7;omega)]
def midV(wide:Bool)(p:Nat):List UInt8×Int:=exD (2*fM (ff wide) p+1) ((fE (ff wide) p:Int)-(ll wide:Int)-1)
theorem zby(wide:Bool){p:Nat}(hp:p<ii wide):(midV wide p).1.length<=1300/\ -1200<=(midV wide p).2/\(midV wide p).2<=1300:=by
 have h1:=fEl wide (Nat.le_of_lt hp);have h2:=zbH wide (Nat.le_of_lt hp);exact zbj (by omega) (by omega)
theorem zbO(wide:Bool)(p:Nat):InForm (midV wide p).1 (midV wide p).2:=zbp _ _
theorem midX(wide:Bool){p:Nat}(hp:p<ii wide):dX wide (val (midV wide p).1) ((midV wide p).2-(midV wide p).1.length)=(fW (ff wide) p+fW (ff wide) (p+1))*CC:=by
 have hs:=zby wide hp;have hv:=za7;have hc:=zc9 wide (p:=p) (zbO wide p) (by omega);have h0:cmpD (midV wide p).1 (midV wide p).2 (midV wide p).1 (midV wide p).2=0:=by
  unfold cmpD;exact zdB _
 have A:cmpD (midV wide p).1 (midV wide p).2 (midV wide p).1 (midV wide p).2=cmpN ((fW (ff wide) p+fW (ff wide) (p+1))*CC) (dX wide (val (midV wide p).1) ((midV wide p).2-(midV wide p).1.length)):=hc;rw[h0] at A;exact((zca _ _).1 A.symm).symm
theorem three(wide:Bool)(p:Nat):fW (ff wide) p*(2*CC)=2*(fW (ff wide) p*CC)/\fW (ff wide) (p+1)*(2*CC)=2*(fW (ff wide) p*CC)+2*(2^fE (ff wide) p*CC)/\(fW (ff wide) p+fW (ff wide) (p+1))*CC=2*(fW (ff wide) p*CC)+2^fE (ff wide) p*CC:=by
 have h:=zbY (ff wide) p;generalize fW (ff wide) p=A at*
 generalize 2^fE (ff wide) p=G at*
 generalize CC=C at*
 rw[h];refine⟨by rw[Nat.mul_left_comm],by rw[Nat.mul_left_comm,Nat.add_mul];omega,by rw[Nat.add_mul,Nat.add_mul];omega⟩
theorem zcl(wide:Bool)(p:Nat):0<2^fE (ff wide) p*CC:=Nat.mul_pos (za1 _) zbN
theorem zfO(wide:Bool){p:Nat}(hp:p<ii wide):rdX wide ((fW (ff wide) p+fW (ff wide) (p+1))*CC)=p+p%2:=by
 obtain⟨h1,h2,h3⟩:=three wide p;have hg:=zcl wide p;have hfl:fFloor (ff wide) (ii wide) ((fW (ff wide) p+fW (ff wide) (p+1))*CC) (2*CC) p:=⟨Nat.le_of_lt hp,by omega,λ_=>by omega⟩;rw[zcK wide hfl,if_neg (Nat.ne_of_lt hp)];by_cases c:p%2=1
 ·rw[if_pos (.inr ⟨rfl,c⟩),c]
 ·rw[if_neg (λh=>h.elim (λh=>Nat.lt_irrefl _ h) (λh=>c h.2))];omega
theorem zgD(wide:Bool){p X:Nat}(hp:p<ii wide)(h:(fW (ff wide) p+fW (ff wide) (p+1))*CC<X)(hX:X<fW (ff wide) (p+1)*(2*CC)):rdX wide X=p+1:=by
 obtain⟨h1,h2,h3⟩:=three wide p;have hfl:fFloor (ff wide) (ii wide) X (2*CC) p:=⟨Nat.le_of_lt hp,by omega,λ_=>hX⟩;rw[zcK wide hfl,if_neg (Nat.ne_of_lt hp),if_pos (.inl h)]
theorem zfP(wide:Bool){p X:Nat}(hp:p<ii wide)(h:X<(fW (ff wide) p+fW (ff wide) (p+1))*CC)(hX:fW (ff wide) p*(2*CC)<=X):rdX wide X=p:=by
 obtain⟨h1,h2,h3⟩:=three wide p;have hg:=zcl wide p;have hfl:fFloor (ff wide) (ii wide) X (2*CC) p:=⟨Nat.le_of_lt hp,hX,λ_=>by omega⟩;rw[zcK wide hfl,if_neg (Nat.ne_of_lt hp),if_neg];rintro(g|g)
 ·exact Nat.lt_asymm g h
 ·exact absurd g.1 (Nat.ne_of_lt h)
theorem zdc(wide:Bool){p:Nat}(hp:p<ii wide){n j:Nat}{z:Int}(hj:17<=j)(hz: -(vv:Int)+j<=z)(hn:1<=n)(h:dX wide n z=(fW (ff wide) p+fW (ff wide) (p+1))*CC):
 10^j*dX wide 1 (z-j)=dX wide 1 z/\dX wide 1 (z-j)<2^fE (ff wide) p*CC:=by
 have e:10^j*dX wide 1 (z-j)=dX wide 1 z:=by
  unfold dX;rw[Nat.one_mul,Nat.one_mul,show(z+(vv:Int)).toNat=j+(z-j+(vv:Int)).toNat by omega,Nat.pow_add,Nat.mul_assoc]
 refine⟨e,?_⟩;have h1:dX wide 1 z<=dX wide n z:=by
  unfold dX;rw[Nat.one_mul,Nat.mul_assoc];exact Nat.le_mul_of_pos_left _ hn
 obtain⟨_,_,h3⟩:=three wide p;have hM:=(zbH wide (Nat.le_of_lt hp)).2;(have hw:fW (ff wide) p*CC=fM (ff wide) p*(2^fE (ff wide) p*CC):=by unfold fW;rw[Nat.mul_assoc]);have hg:=zcl wide p;have A:2*fM (ff wide) p+1<10^j:=by
  have:(10:Nat)^17<=10^j:=Nat.pow_le_pow_right (by decide) hj;(have B:(10:Nat)^17=100000000000000000:=by decide);omega
 rw[hw] at h3;generalize 2^fE (ff wide) p*CC=T at*
 generalize fM (ff wide) p=M at*
 generalize dX wide 1 (z-j)=u at*
 generalize 10^j=J at*
 have h4:J*u<=(2*M+1)*T:=by
  rw[e];refine Nat.le_trans h1 ?_;rw[h,h3,Nat.add_mul,Nat.one_mul,Nat.mul_assoc];exact Nat.le_refl _
 have h5:(2*M+1)*T<J*T:=Nat.mul_lt_mul_of_pos_right A hg;exact Nat.lt_of_mul_lt_mul_left (Nat.lt_of_le_of_lt h4 h5)
theorem zdd(wide:Bool)(n:Nat)(z:Int):dX wide n z=n*dX wide 1 z:=by
 unfold dX;rw[Nat.one_mul,Nat.mul_assoc]
theorem zfQ{t:List UInt8}{c:UInt8}(h:rz (t++[c])=t++[c]):c.toNat≠48:=by
 intro e;rw[zbk e] at h;have:=zbt t;have h2:=congrArg List.length h;rw[List.length_append,List.length_singleton] at h2;omega
theorem zdr(l:List UInt8):bytesOf (S l)=l.map (λc=>(c.toNat:Int)):=by simp[bytesOf,S]
theorem zhl(l:List UInt8):strOfNums (l.map (λc=>(c.toNat:Int)))=S l:=by
 have:=zdr l;apply ByteArray.ext;simp[strOfNums,S,List.map_map,Function.comp_def]
theorem zeq(t:List UInt8)(c:UInt8):rd (bytesOf (S (t++[c]))) (((S (t++[c])).size-1:Nat):Int)=(c.toNat:Int):=by
 rw[zaA,List.length_append,List.length_singleton,Nat.add_sub_cancel,zdr];show(List.map (λc:UInt8=>(c.toNat:Int)) (t++[c])).getD ((t.length:Int)).toNat 0=_;rw[Int.toNat_natCast,List.getD_eq_getElem?_getD,List.map_append,List.getElem?_append_right (by rw[List.length_map];exact Nat.le_refl _),List.length_map,Nat.sub_self];rfl
def lessC(c:UInt8):UInt8:=UInt8.ofNat (c.toNat-1)
theorem zce{c:UInt8}:(lessC c).toNat=c.toNat-1:=by
 have:=c.toNat_lt;unfold lessC;rw[UInt8.toNat_ofNat'];omega
theorem zfR(t:List UInt8)(c:UInt8)(hc:49<=c.toNat):fewerB (S (t++[c]))=S (t++[lessC c]):=by
 unfold fewerB;rw[zeq,zaA,List.length_append,List.length_singleton,Nat.add_sub_cancel,zdr];have e:((t++[c]).map (λc=>(c.toNat:Int))).set t.length ((c.toNat:Int)-1)=(t++[lessC c]).map (λc=>(c.toNat:Int)):=by
  rw[List.map_append,List.map_append,List.set_append_right _ _ (by rw[List.length_map];exact Nat.le_refl _),List.length_map,Nat.sub_self];(have e2:(c.toNat:Int)-1=((lessC c).toNat:Int):=by rw[zce];omega);rw[e2];rfl
 rw[e,zhl]
theorem zfj(c:UInt8)(n:Nat):repsB c n=S (List.replicate n c):=rfl
theorem zeH(a b:List UInt8):S a++S b=S (a++b):=by
 apply ByteArray.ext;rw[ByteArray.data_append];simp[S]
theorem zeg:val (List.replicate 25 57)=10^25-1:=by decide
theorem zeI:val (List.replicate 25 48++[49])=1:=by decide
theorem zd7{c:UInt8}(h:48<=c.toNat/\c.toNat<=57)(n:Nat):AllD (List.replicate n c):=λx hx=>by
 rw[(List.mem_replicate.1 hx).2];exact h
theorem zfS(wide:Bool){p:Nat}(hp:p<ii wide):rdS wide (S (midV wide p).1) (midV wide p).2=(((p+p%2:Nat):Int),0):=by
 have hs:=zby wide hp;have hf:=zbO wide p;rw[zdq wide hf.1 (by omega),midX wide hp,zfO wide hp]
theorem zfk(wide:Bool){p:Nat}(hp:p<ii wide):rdS wide (S ((midV wide p).1++(List.replicate 25 48++[49]))) (midV wide p).2=(((p+1:Nat):Int),0):=by
 have hs:=zby wide hp;have hf:=zbO wide p;have hx:=midX wide hp;have hv:=za7;have hn:1<=val (midV wide p).1:=by
  refine Nat.pos_of_ne_zero λe=>?_;rw[e] at hx;unfold dX at hx;rw[Nat.zero_mul,Nat.zero_mul] at hx;have:=zcl wide p;obtain⟨_,_,h3⟩:=three wide p;omega
 generalize midV wide p=d at*
 obtain⟨l,q⟩:=d;dsimp only at*
 have hall:AllD (l++(List.replicate 25 48++[49])):=hf.1.append ((zd7 (by decide) 25).append (λx hx=>by rw[List.mem_singleton.1 hx];decide));(have hlen:(l++(List.replicate 25 (48:UInt8)++[49])).length=l.length+26:=by simp);rw[zdq wide hall (by omega),hlen,val_append,zeI];(have A:(List.replicate 25 (48:UInt8)++[49]).length=26:=by simp);rw[A];obtain⟨u1,u2⟩:=zdc wide hp (j:=26) (by decide) (by omega) hn hx;rw[show(q-((l.length+26:Nat):Int))=(q-(l.length:Int)-(26:Nat)) by omega,zdd,Nat.add_mul,Nat.one_mul,Nat.mul_assoc,u1,<-zdd,hx];obtain⟨h1,h2,h3⟩:=three wide p;have hpos:0<dX wide 1 (q-(l.length:Int)-(26:Nat)):=by
  unfold dX;exact Nat.mul_pos (Nat.mul_pos (by decide) (Nat.pow_pos (by decide))) (za1 _)
 rw[zgD wide hp (by omega) (by omega)]
theorem zeJ(wide:Bool){p:Nat}(hp:p<ii wide){t:List UInt8}{c:UInt8}(ht:(midV wide p).1=t++[c])(hc:49<=c.toNat):
 rdS wide (S ((t++[lessC c])++List.replicate 25 57)) (midV wide p).2=((p:Int),0):=by
 have hs:=zby wide hp;have hf:=zbO wide p;have hx:=midX wide hp;have hv:=za7;generalize midV wide p=d at*
 obtain⟨l,q⟩:=d;dsimp only at*
 subst ht;have hcd:=hf.1.last;(have hl:(t++[c]).length=t.length+1:=by simp);have hvl:val (t++[c])=val (t++[lessC c])+1:=by
  rw[za6,za6];(have e1:dig c=dig (lessC c)+1:=by unfold dig;rw[zce];omega);omega
 (have hn:1<=val (t++[c]):=by omega);(have A:(t++[lessC c]).length=t.length+1:=by simp);have hall:AllD ((t++[lessC c])++List.replicate 25 57):=by
  refine(hf.1.left.append (λx hx=>?_)).append (zd7 (by decide) 25);rw[List.mem_singleton.1 hx,zce];omega
 (have hlen:((t++[lessC c])++List.replicate 25 57).length=t.length+26:=by simp);rw[hl] at hx hs;obtain⟨u1,u2⟩:=zdc wide hp (j:=25) (by decide) (by omega) hn hx;have hpos:0<dX wide 1 (q-((t.length+1:Nat):Int)-(25:Nat)):=by
  unfold dX;exact Nat.mul_pos (Nat.mul_pos (by decide) (Nat.pow_pos (by decide))) (za1 _)
 rw[zdq wide hall (by omega),hlen,val_append,zeg,List.length_replicate];rw[show(q-((t.length+26:Nat):Int))=(q-((t.length+1:Nat):Int)-(25:Nat)) by omega,zdd];have key:(val (t++[lessC c])*10^25+(10^25-1))*dX wide 1 (q-((t.length+1:Nat):Int)-(25:Nat))+dX wide 1 (q-((t.length+1:Nat):Int)-(25:Nat))=(fW (ff wide) p+fW (ff wide) (p+1))*CC:=by
  rw[<-hx,zdd wide (val (t++[c])),<-u1,hvl];obtain⟨J,hJ⟩: ∃J:Nat,J+1=10^25:=⟨10^25-1,by decide⟩;rw[<-hJ,Nat.add_sub_cancel];generalize dX wide 1 (q-((t.length+1:Nat):Int)-(25:Nat))=u;generalize val (t++[lessC c])=V;rw[<-Nat.succ_mul,<-Nat.mul_assoc];congr 1;rw[Nat.succ_eq_add_one,Nat.add_mul,Nat.one_mul];omega
 obtain⟨h1,h2,h3⟩:=three wide p;generalize (val (t++[lessC c])*10^25+(10^25-1))*dX wide 1 (q-((t.length+1:Nat):Int)-(25:Nat))=X at*
 rw[zfP wide hp (by omega) (by omega)]
theorem ShortMiddles: ∀(a0:Int) (a1:Bool),(Lit.int .u64 a0).wf=true-> ∃k,platenlaw05_ShortMiddles.f k a0 a1=some true:=by
 intro a0 wide h0;obtain⟨a,rfl,ha⟩:=wf_u64 h0;refine Ev.rounds (g:=λk=>platenlaw05_ShortMiddles.f k (a:Int) wide) ?_;unfold platenlaw05_ShortMiddles.f;obtain⟨p,hp,hpi⟩:=zfg wide a ha;rw[zff];simp only[Option.bind_some];rw[hp];simp only[Option.bind_some];rw[zfh wide hpi];simp only[Option.bind_some];have hM:=(zbH wide (Nat.le_of_lt hpi)).2;have hE:=fEl wide (Nat.le_of_lt hpi);have hi:=zbU wide;have e1:IntKind.u64.wrap (IntKind.u64.wrap (2*(fM (ff wide) p:Int))+1)=((2*fM (ff wide) p+1:Nat):Int):=by
  rw[show(2*(fM (ff wide) p:Int))=((2*fM (ff wide) p:Nat):Int) by omega,u64N _ (by omega),show(((2*fM (ff wide) p:Nat):Int)+1)=((2*fM (ff wide) p+1:Nat):Int) by omega,u64N _ (by omega)]
 have e2:wrap64 ((fE (ff wide) p:Int)-(ll wide:Int)-1)=(fE (ff wide) p:Int)-(ll wide:Int)-1:=zap (by omega) (by omega);rw[e1,e2];have hx:=zbB (2*fM (ff wide) p+1) ((fE (ff wide) p:Int)-(ll wide:Int)-1) (by omega);rw[zbm _ (by omega)] at hx;refine Ev.bind (show Ev _ (S (midV wide p).1,(midV wide p).2,(0:Int)) from hx) ?_;have hs:=zby wide hpi;have hf:=zbO wide p;have hne:(midV wide p).1≠[]:=by
  intro e;have h1:=midX wide hpi;rw[e] at h1;unfold dX at h1;rw[zaI,Nat.zero_mul,Nat.zero_mul] at h1;have:=zcl wide p;obtain⟨_,_,h3⟩:=three wide p;omega
 obtain⟨t,c,ht⟩: ∃t c,(midV wide p).1=t++[c]:=⟨_,_,(List.dropLast_concat_getLast hne).symm⟩;have A:=zfQ (by rw[<-ht];exact hf.2.2.1);(have hall:AllD (t++[c]):=by rw[<-ht];exact hf.1);have hcd:48<=c.toNat/\c.toNat<=57:=hall.last;(have hc:49<=c.toNat:=by omega);have r1:=zcL wide (S (midV wide p).1) (midV wide p).2;have r2:=zcL wide (S ((midV wide p).1++(List.replicate 25 48++[49]))) (midV wide p).2;have r3:=zcL wide (S ((t++[lessC c])++List.replicate 25 57)) (midV wide p).2;rw[zfS wide hpi] at r1;rw[zfk wide hpi] at r2;rw[zeJ wide hpi ht hc] at r3;have b1:(S (midV wide p).1++repsB 48 25)++(⟨#[49]⟩:ByteArray)=S ((midV wide p).1++(List.replicate 25 48++[49])):=by
  rw[zfj,zeH,show(⟨#[49]⟩:ByteArray)=S [49] from rfl,zeH,List.append_assoc]
 have b2:fewerB (S (midV wide p).1)++repsB 57 25=S ((t++[lessC c])++List.replicate 25 57):=by
  rw[ht,zfR t c hc,zfj,zeH]
 have hl:=congrArg List.length ht;rw[List.length_append,List.length_singleton] at hl;(have hr:rd (bytesOf (S (midV wide p).1)) (((S (midV wide p).1).size-1:Nat):Int)=(c.toNat:Int):=by rw[ht];exact zeq t c);refine Ev.congr (λk=>if_pos ⟨rfl,by rw[zaA];omega,by rw[zaA];omega,by rw[hr];omega,by rw[hr];omega⟩) ?_;refine Ev.bind r1 ?_;rw[b1];refine Ev.bind r2 ?_;rw[b2];refine Ev.bind r3 ?_;have q1:((p+p%2:Nat):Int)=IntKind.u64.wrap ((p:Int)+Int.tmod (p:Int) 2):=by
  rw[show Int.tmod (p:Int) 2=((p%2:Nat):Int) from rfl,show((p:Int)+((p%2:Nat):Int))=((p+p%2:Nat):Int) by omega,u64N _ (by omega)]
 have q2:((p+1:Nat):Int)=IntKind.u64.wrap ((p:Int)+1):=by
  rw[show((p:Int)+1)=((p+1:Nat):Int) by omega,u64N _ (by omega)]
 exact Ev.congr (λk=>if_pos ⟨rfl,rfl,rfl,q1,q2,rfl⟩) zg8
end Go.Proofs.YtlohbokljligoaaDoor.Pure
end
