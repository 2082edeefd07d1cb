/- The law CplxTexts: the walks through its functions and its plain law (part 1). Own texts and the kit's printed words for this seat, without what the law does not use: put together by merge.py (of this work). -/
import Derived.Test.YtilidabdbhaljaaGreatDoorMCplxTexts0
set_option linter.unusedVariables false
set_option linter.unusedSimpArgs false
section
namespace Go.Proofs.YtilidabdbhaljaaGreatDoor.Fn
open Go.RowKit Go.Proofs.YtilidabdbhaljaaGreatDoorW.PrintWords Go.Proofs.YtilidabdbhaljaaGreatDoorW.PrintLast Go.Proofs.YtilidabdbhaljaaGreatDoorW.PrintMore
set_option maxHeartbeats 8000000
set_option maxRecDepth 100000
section
attribute [local go_sem] fnW_0 fnW_1 fnW_2 fnW_3 fnW_4 fnW_5 fnW_guard fnW_eql zaC zaD zaI zaJ
def zbc.l0:Nat->List Int->Int->Int->ByteArray->Int->Option (ByteArray×Int×Int)
 |0,_,_,_,_,_=>none
 |k+1,I,J,D,B,A=>if D<J then(if 0<=D then(if D<(I.length:Int) then(if(rd I D)<48 then(some ((⟨#[]⟩:ByteArray),0,4)) else(if(rd I D)>57 then(some ((⟨#[]⟩:ByteArray),0,4)) else(zbc.l0 k I J (wrap64 (D+1)) B A))) else(none)) else(none)) else(if A<(-5000) then(some ((⟨#[]⟩:ByteArray),0,2)) else(if A>5000 then(some ((⟨#[]⟩:ByteArray),0,2)) else((zbH.f B A).bind λE=>(some (E.1,E.2,0)))))
def zbc.f(k:Nat)(A:ByteArray)(D:Int):Option (ByteArray×Int×Int):=if(A.size:Int)>2000 then(some ((⟨#[]⟩:ByteArray),0,2)) else(if A.size<=9223372036854775807 then((some (bytesOf A:List Int)).bind λB=>(zbc.l0 k B (B.length:Int) 0 A D)) else(none))
theorem zbc.calls(k:Nat)(A:ByteArray)(I:Int)(r1:ByteArray)(r2:Int)(r3:Int)(w:World)(h:zbc.f k A I=some (r1,r2,r3)):
  Calls Tryz.prog 100 #[.agg #[.string A,.int .i64 I]] w λe w'=>e= .returned (.tuple #[.agg #[.string r1,.int .i64 r2],.int .i64 r3])/\Below w.heap.size w w':=by
 have bZ:=Tryz.underlying74;have HB:=zaa.mk (Below.refl w.heap.size w);have H:(if(A.size:Int)>2000 then(some ((⟨#[]⟩:ByteArray),0,2)) else(if A.size<=9223372036854775807 then((some (bytesOf A:List Int)).bind λJ=>(zbc.l0 k J (J.length:Int) 0 A I)) else(none)))=some (r1,r2,r3):=h;clear h;go_enter Tryz.func100,Tryz.ntmps100;(go_upto_if 9 with(first|((with_reducible refine zae (N:=1) rfl ?_);refine zaf rfl (N:=1) rfl (cs:=#[.string A,.int .i64 I]) (t:=74) gz ?_;intro U hg w2 hbox hb;have bE:=gN bz hg;have M:=zaa.mk hbox;replace HB:=bN bz hb;clear hb hbox hg)|((with_reducible refine zae (N:=2) rfl ?_);refine zaf rfl (N:=2) rfl (cs:=#[.string (⟨#[]⟩:ByteArray),.int .i64 0]) (t:=74) gz ?_;intro K hg w3 hbox hb;have bG:=gN bz hg;have D:=lN (g:=U) (cs:=#[.string A,.int .i64 I]) hg bk;have E:=rN (g:=U) (cs:=#[.string A,.int .i64 I]) hg bk;replace M:=kN (g:=U) (cs:=#[.string A,.int .i64 I]) hb bk;have O:=zaa.mk hbox;replace HB:=bN bz hb;clear hb hbox hg;have b0:=D.out;have b1:=E.out;obtain⟨aB,aC,aD,aE⟩:=cz2 M)));(try simp only[Act.put,sA]);by_cases c6:(A.size:Int)>2000
 (·replace H:=hE H c6;have ag:decide (2000<(A.size:Int))=true:=decide_eq_true c6;have ah:decide (2000<A.size)=true:=decide_eq_true (by omega);clear c6;(try first|rw[ag]|rw[ah]);obtain⟨rfl,rfl,rfl⟩:=o3 H;have b2:=E.out;have b3:=D.out;obtain⟨bA,bB,bC,bD⟩:=cz2 O;go_wp2;refine bodyPost_ret (zaS rfl _ _ K 74 #[.string (⟨#[]⟩:ByteArray),.int .i64 0] (0,0) _ rfl bk Tryz.underlying74 rfl (by kernel_rfl)) rfl ?_;exact⟨ez,bz⟩);replace H:=hN H c6;have ag:decide (2000<(A.size:Int))=false:=decide_eq_false c6;have ah:decide (2000<A.size)=false:=decide_eq_false (by omega);clear c6;(try first|rw[ag]|rw[ah]);by_cases c9:A.size<=9223372036854775807;case neg=>
  replace H:=hN H c9;exact absurd H (by simp)
 replace H:=hE H c9;have aN:=eq_true c9;have aO:=decide_eq_true c9;have aP:=eq_false (Nat.not_lt.2 c9);clear c9;obtain⟨J,ac⟩: ∃y_:List Int,y_=(bytesOf A):=⟨_,rfl⟩;(replace H:(zbc.l0 k J (J.length:Int) 0 A I)=some (r1,r2,r3):=by first|(rw[ac];with_reducible exact H)|(have aH:=(Option.bind_some _ _).symm.trans H;rw[ac];with_reducible exact aH)|(have aH:=(Option.bind_some _ _).symm.trans H;with_reducible exact aH)|with_reducible exact H|(rw[ac];exact H)|exact H);have an:=zaa.mk ac;clear ac;have H':=zaa.mk H;clear H;have bH:=D.out;have bI:=E.out;obtain⟨ao,ap,ar,au⟩:=cz2 M;go_wp2_with (first|((with_reducible refine zae (N:=13) rfl ?_);refine Kd.V_conv _ rfl (N:=13) rfl 9 67 5 _ rfl A rfl Tryz.underlying9 Tryz.underlying67 Tryz.underlying5 (od) (ok:=λk_=>w3.heap.size<=k_) (Nat.le_refl _) (Below.refl _ _) (Nat.le_refl _) ?_;intro b4 b5 ad hb hg_ hnew_;clear hg_ hnew_;(first|rw[<-an.out] at ad|(simp only[Int.reduceToNat] at ad;rw[<-an.out] at ad));have av:=zaa.mk (Kd.V_lower (Kd.V_mono (ok':=λk_=>k_≠U/\k_≠K) ad (λk_ hk_=>⟨(Kd.freshB (g:=U) (o:=.cells #[.string A,.int .i64 I] 74 (0,0)) bk k_ hk_),(Kd.freshB (g:=K) (o:=.cells #[.string (⟨#[]⟩:ByteArray),.int .i64 0] 74 (0,0)) bk k_ hk_)⟩)) (zay bz));have aw:=kN (g:=U) (cs:=#[.string A,.int .i64 I]) hb bk;have ax:=kN (g:=K) (cs:=#[.string (⟨#[]⟩:ByteArray),.int .i64 0]) hb bk;have ay:=bN bz hb;clear M O HB;have az:=av;have M:=aw;have O:=ax;have HB:=ay;clear av aw ax ay;clear hb ad;obtain⟨aQ,aR,aS⟩:=Kd.V_slice az.out;subst aS));go_loopg [15] k (λkq bJ w'=> ∃(B:Int) (X:ByteArray) (Y:Int),bJ= .int .i64 B/\zaa (zbc.l0 kq J (J.length:Int) B A I=some (r1,r2,r3))/\zaa (kq<=k)/\zaa (Kd.V (Kd.int .u8) 5 w' w.heap.size (λk_=>k_≠U/\k_≠K) (.slice aQ J.length aR) J)/\zaa (w'.heap[U]? =some (.cells #[.string A,.int .i64 I] 74 (0,0)))/\zaa (w'.heap[K]? =some (.cells #[.string X,.int .i64 Y] 74 (0,0)))/\zaa (Below w.heap.size w w'));(case atStart=>exact⟨(0),((⟨#[]⟩:ByteArray)),(0),rz,H',⟨Nat.le_refl _⟩,⟨kv az.out⟩,⟨bk⟩,⟨bk⟩,⟨bz⟩⟩);case round=>
  clear H';(try clear c6);(try clear ag);(try clear ah);(try clear c9);(try clear aN);(try clear aO);(try clear aP);(try clear ao ap ar au);(try clear aB aC aD aE);obtain⟨B,X,Y,rfl,HA,aT,ab,M,O,HB⟩:=hrel;cases gk with
  |zero=>exact absurd HA.out (by simp[zbc.l0])
  |succ k1=>
   have H:=HA.out;clear HA;simp only[zbc.l0] at H;by_cases ai:B<(J.length:Int);case neg=>
    replace H:=hN H ai;have aI:=decide_eq_false ai;clear ai;by_cases al:I<(-5000)
    (·replace H:=hE H al;have aL:=decide_eq_true al;clear al;obtain⟨rfl,rfl,rfl⟩:=o3 H;have bR:=D.out;have bS:=E.out;obtain⟨a5,a6,a7,a8⟩:=cz2 M;obtain⟨a9,ba,bb,bd⟩:=cz2 O;go_wp2;refine bodyPost_ret (zaS rfl _ _ K 74 #[.string (⟨#[]⟩:ByteArray),.int .i64 0] (0,0) _ rfl bk Tryz.underlying74 rfl (by kernel_rfl)) rfl ?_;exact⟨ez,bz⟩);replace H:=hN H al;have aL:=decide_eq_false al;clear al;by_cases am:I>5000
    (·replace H:=hE H am;have aM:decide (5000<I)=true:=decide_eq_true am;clear am;obtain⟨rfl,rfl,rfl⟩:=o3 H;have bU:=D.out;have bV:=E.out;obtain⟨be,bf,bg,bh⟩:=cz2 M;obtain⟨bi,bj,bl,bm⟩:=cz2 O;go_wp2;refine bodyPost_ret (zaS rfl _ _ K 74 #[.string (⟨#[]⟩:ByteArray),.int .i64 0] (0,0) _ rfl bk Tryz.underlying74 rfl (by kernel_rfl)) rfl ?_;exact⟨ez,bz⟩);replace H:=hN H am;have aM:decide (5000<I)=false:=decide_eq_false am;clear am;replace H:=bs H;obtain⟨⟨aF,aG⟩,bW,H⟩:=H;dsimp only at H;obtain⟨rfl,rfl,rfl⟩:=o3 H;have bX:=D.out;have bY:=E.out;obtain⟨bn,bo,bp,bq⟩:=cz2 M;go_wp2_with (first|((with_reducible refine zac (f:=127) rfl ?_);refine gB Tryz.func127 (zbH.calls A I aF aG _ bW.out) ?_;intro b6 hb;have av:=zaa.mk (Kd.V_below (kv ab.out) hb);have aw:=kN (g:=U) (cs:=#[.string A,.int .i64 I]) hb bk;have ax:=kN (g:=K) (cs:=#[.string X,.int .i64 Y]) hb bk;have ay:=bN bz hb;clear ab M O HB;have ab:=av;have M:=aw;have O:=ax;have HB:=ay;clear av aw ax ay;clear hb;obtain⟨br,bu,bv,bw⟩:=cz2 O));refine bodyPost_ret (zaS rfl _ _ K 74 #[.string aF,.int .i64 aG] (0,0) _ rfl bk Tryz.underlying74 rfl (by kernel_rfl)) rfl ?_;exact⟨ez,bz⟩
   replace H:=hE H ai;have aI:=decide_eq_true ai;clear ai;obtain⟨aU,H⟩:=hG H;have bK:=decide_eq_true aU;clear aU;obtain⟨aV,H⟩:=hG H;have bL:=decide_eq_true aV;clear aV;by_cases aj:(rd J B)<48
   (·replace H:=hE H aj;have aJ:=decide_eq_true aj;clear aj;obtain⟨rfl,rfl,rfl⟩:=o3 H;have Z:0<=(B:Int):=od;have aa:B<(J.length:Int):=od;obtain⟨aA,ae,af⟩:=Kd.at_int (Kd.V_reads' ab.out).2.2 B Z aa;cases ae;replace Z:=eq_true Z;replace aa:=eq_true aa;have bM:=E.out;have bO:=D.out;obtain⟨aW,aX,aY,aZ⟩:=cz2 O;go_wp2;refine bodyPost_ret (zaS rfl _ _ K 74 #[.string (⟨#[]⟩:ByteArray),.int .i64 0] (0,0) _ rfl bk Tryz.underlying74 rfl (by kernel_rfl)) rfl ?_;exact⟨ez,bz⟩);replace H:=hN H aj;have aJ:=decide_eq_false aj;clear aj;by_cases ak:(rd J B)>57
   (·replace H:=hE H ak;have aK:decide (57<(rd J B))=true:=decide_eq_true ak;clear ak;obtain⟨rfl,rfl,rfl⟩:=o3 H;have Z:0<=(B:Int):=od;have aa:B<(J.length:Int):=od;obtain⟨aA,ae,af⟩:=Kd.at_int (Kd.V_reads' ab.out).2.2 B Z aa;cases ae;replace Z:=eq_true Z;replace aa:=eq_true aa;have bP:=E.out;have bQ:=D.out;obtain⟨a1,a2,a3,a4⟩:=cz2 O;go_wp2;refine bodyPost_ret (zaS rfl _ _ K 74 #[.string (⟨#[]⟩:ByteArray),.int .i64 0] (0,0) _ rfl bk Tryz.underlying74 rfl (by kernel_rfl)) rfl ?_;exact⟨ez,bz⟩);replace H:=hN H ak;have aK:decide (57<(rd J B))=false:=decide_eq_false ak;clear ak;have H':=zaa.mk H;clear H;have Z:0<=(B:Int):=od;have aa:B<(J.length:Int):=od;obtain⟨aA,ae,af⟩:=Kd.at_int (Kd.V_reads' ab.out).2.2 B Z aa;cases ae;replace Z:=eq_true Z;replace aa:=eq_true aa;go_wp2;go_roundg k1;(case measure=>have:=aT.out;omega);case rel=>exact⟨(wrap64 (B+1)),(X),(Y),rz,H',⟨by have:=aT.out;omega⟩,⟨kv ab.out⟩,⟨bk⟩,⟨bk⟩,⟨bz⟩⟩
mutual
def zaB.j1:Nat->ByteArray->Int->Option (ByteArray×Int)
 |0,_,_=>none
 |k+1,A,B=>zaB.l1 k A B
def zaB.l1:Nat->ByteArray->Int->Option (ByteArray×Int)
 |0,_,_=>none
 |k+1,A,B=>if A.toList=([]:List UInt8) then(some (A,0)) else(if 0<=(wrap64 ((A.size:Int)-1)) then(if(wrap64 ((A.size:Int)-1))<(A.size:Int) then(if(bt A (wrap64 ((A.size:Int)-1)))=48 then(if(wrap64 ((A.size:Int)-1))<=(A.size:Int) then(zaB.l1 k (A.extract 0 ((wrap64 ((A.size:Int)-1)):Int).toNat) B) else(none)) else(some (A,B))) else(none)) else(none))
def zaB.l0:Nat->ByteArray->Int->Option (ByteArray×Int)
 |0,_,_=>none
 |k+1,A,B=>if A.toList=([]:List UInt8) then(zaB.j1 k A B) else(if 0<(A.size:Int) then(if(bt A 0)=48 then(if 1<=(A.size:Int) then(zaB.l0 k (A.extract 1 A.size) (wrap64 (B-1))) else(none)) else(zaB.j1 k A B)) else(none))
end
def zaB.f(k:Nat)(A:ByteArray)(B:Int):Option (ByteArray×Int):=zaB.l0 k A B
theorem zaB.calls(k:Nat)(O:ByteArray)(U:Int)(r1:ByteArray)(r2:Int)(w:World)(h:zaB.f k O U=some (r1,r2)):
  Calls Tryz.prog 91 #[.agg #[.string O,.int .i64 U]] w λe w'=>e= .returned (.agg #[.string r1,.int .i64 r2])/\Below w.heap.size w w':=by
 have bA:=Tryz.underlying74;have HB:=zaa.mk (Below.refl w.heap.size w);have H:(zaB.l0 k O U)=some (r1,r2):=h;clear h;have al:=zaa.mk H;clear H;go_enter Tryz.func91,Tryz.ntmps91;(go_upto_block 0 with(first|((with_reducible refine zae (N:=1) rfl ?_);(try(refine zco (by rfl) ?_;dsimp only));refine zaf rfl (N:=1) rfl (cs:=#[.string O,.int .i64 U]) (t:=74) gz ?_;intro M hg w3 hbox hb;have a8:=gN bz hg;have J:=zaa.mk hbox;replace HB:=bN bz hb;clear hb hbox hg)|((with_reducible refine zae (N:=2) rfl ?_);(try(refine zco (by rfl) ?_;dsimp only));refine zaf rfl (N:=2) rfl (cs:=#[.string (⟨#[]⟩:ByteArray),.int .i64 0]) (t:=74) gz ?_;intro X hg w4 hbox hb;have a9:=gN bz hg;have E:=lN (g:=M) (cs:=#[.string O,.int .i64 U]) hg bk;have I:=rN (g:=M) (cs:=#[.string O,.int .i64 U]) hg bk;replace J:=kN (g:=M) (cs:=#[.string O,.int .i64 U]) hb bk;have Y:=zaa.mk hbox;replace HB:=bN bz hb;clear hb hbox hg)));(try simp only[Act.put,sA]);go_cut [] (λwc=> ∃(kq:Nat) (A:ByteArray) (D:Int),zaa (zaB.j1 kq A D=some (r1,r2))/\zaa (kq<=k)/\zaa (wc.heap[M]? =some (.cells #[.string A,.int .i64 D] 74 (0,0)))/\zaa (wc.heap[X]? =some (.cells #[.string (⟨#[]⟩:ByteArray),.int .i64 0] 74 (0,0)))/\zaa (Below w.heap.size w wc));case first=>
  have H:=al.out;clear al;have H':=zaa.mk H;clear H;go_wp2;go_loopg [] k (λkq w'=> ∃(A:ByteArray) (D:Int),zaa (zaB.l0 kq A D=some (r1,r2))/\zaa (kq<=k)/\zaa (w'.heap[M]? =some (.cells #[.string A,.int .i64 D] 74 (0,0)))/\zaa (w'.heap[X]? =some (.cells #[.string (⟨#[]⟩:ByteArray),.int .i64 0] 74 (0,0)))/\zaa (Below w.heap.size w w'));(case atStart=>exact⟨(O),(U),H',⟨Nat.le_refl _⟩,⟨bk⟩,⟨bk⟩,⟨bz⟩⟩);case round=>
   clear H';obtain⟨A,D,HA,aj,J,Y,HB⟩:=hrel;cases gk with
   |zero=>exact absurd HA.out (by simp[zaB.l0])
   |succ k1=>
    have H:=HA.out;clear HA;simp only[zaB.l0] at H;by_cases c5:A.toList=([]:List UInt8)
    (·replace H:=hE H c5;have aa:(A.toList==([]:List UInt8))=true:=beq_iff_eq.mpr c5;have ad:(A.toList !=([]:List UInt8))=false:=bne_eq_false_iff_eq.mpr c5;(have ae:A.toList.isEmpty=true:=by simpa using aa);clear c5;(try first|rw[aa]|rw[ad]|rw[ae]);have H':=zaa.mk H;clear H;have bB:=E.out;have bC:=I.out;obtain⟨a3,a4,a5,a6⟩:=cz2 J;go_wp2;go_meet;case rel=>exact⟨_,(A),(D),H',⟨by have:=aj.out;first|omega|exact Nat.le_refl _⟩,⟨bk⟩,⟨bk⟩,⟨bz⟩⟩);replace H:=hN H c5;have aa:(A.toList==([]:List UInt8))=false:=beq_eq_false_iff_ne.mpr c5;have ad:(A.toList !=([]:List UInt8))=true:=bne_iff_ne.mpr c5;(have ae:A.toList.isEmpty=false:=by simpa using aa);(try first|rw[aa]|rw[ad]|rw[ae]);obtain⟨c8,H⟩:=hG H;have bD:=decide_eq_true c8;have bE:decide (0<A.size)=true:=decide_eq_true (by omega);clear c8;by_cases af:(bt A 0)=48
    (·replace H:=hE H af;obtain⟨am,an⟩:=eT af;clear af;obtain⟨ba,bb,H⟩:=hG3 H;have H':=zaa.mk H;clear H;have bd:=E.out;have be:=I.out;obtain⟨av,aw,ax,ay⟩:=cz2 J;have p9:0<=(0:Int):=(by omega);have q9:0<A.size:=(by have:(0:Int)<(A.size:Int):=od;omega);have bf: ∀h:0<A.size,((A[0]'h).toNat:Int)=bt A 0:=zcn A 0;clear p9;have bg:(0<(A.size:Int))=True:=eq_true (od);replace q9:=eq_true q9;go_wp2;go_roundg k1;(case measure=>have:=aj.out;omega);case rel=>exact⟨(A.extract 1 A.size),(wrap64 (D-1)),H',⟨by have:=aj.out;omega⟩,⟨bk⟩,⟨bk⟩,⟨bz⟩⟩);replace H:=hN H af;obtain⟨am,an⟩:=eF af;have H':=zaa.mk H;clear H;have bh:=E.out;have bi:=I.out;obtain⟨az,aA,aB,aC⟩:=cz2 J;have p9:0<=(0:Int):=(by omega);have q9:0<A.size:=(by have:(0:Int)<(A.size:Int):=od;omega);have bf: ∀h:0<A.size,((A[0]'h).toNat:Int)=bt A 0:=zcn A 0;clear p9;have bg:(0<(A.size:Int))=True:=eq_true (od);replace q9:=eq_true q9;go_wp2;go_meet;case rel=>exact⟨_,(A),(D),H',⟨by have:=aj.out;first|omega|exact Nat.le_refl _⟩,⟨bk⟩,⟨bk⟩,⟨bz⟩⟩
 case rest=>
  clear al;obtain⟨kq,A,D,HA,aD,J,Y,HB⟩:=hcut;cases kq with
  |zero=>exact absurd HA.out (by simp[zaB.j1])
  |succ aE=>
   have H:=HA.out;clear HA;simp only[zaB.j1] at H;have H':=zaa.mk H;clear H;go_wp2;go_loopg [] aE (λkq w'=> ∃(B:ByteArray),zaa (zaB.l1 kq B D=some (r1,r2))/\zaa (kq<=aE)/\zaa (w'.heap[M]? =some (.cells #[.string B,.int .i64 D] 74 (0,0)))/\zaa (w'.heap[X]? =some (.cells #[.string (⟨#[]⟩:ByteArray),.int .i64 0] 74 (0,0)))/\zaa (Below w.heap.size w w'));(case atStart=>exact⟨(A),H',⟨Nat.le_refl _⟩,⟨bk⟩,⟨bk⟩,⟨bz⟩⟩);case round=>
    clear H';obtain⟨B,HA,aF,J,Y,HB⟩:=hrel;cases gk with
    |zero=>exact absurd HA.out (by simp[zaB.l1])
    |succ k2=>
     have H:=HA.out;clear HA;simp only[zaB.l1] at H;by_cases ab:B.toList=([]:List UInt8)
     (·replace H:=hE H ab;have ac:(B.toList==([]:List UInt8))=true:=beq_iff_eq.mpr ab;have ao:(B.toList !=([]:List UInt8))=false:=bne_eq_false_iff_eq.mpr ab;(have ap:B.toList.isEmpty=true:=by simpa using ac);clear ab;obtain⟨rfl,rfl⟩:=o2 H;have bj:=E.out;have bl:=I.out;obtain⟨aG,aH,aI,aJ⟩:=cz2 J;obtain⟨aK,aL,aM,aN⟩:=cz2 Y;go_wp2;refine bodyPost_ret (results_cell_row rfl _ _ X 74 #[.string B,.int .i64 0] (0,0) _ rfl bk Tryz.underlying74 rfl (by kernel_rfl)) rfl ?_;exact⟨ez,bz⟩);replace H:=hN H ab;have ac:(B.toList==([]:List UInt8))=false:=beq_eq_false_iff_ne.mpr ab;have ao:(B.toList !=([]:List UInt8))=true:=bne_iff_ne.mpr ab;(have ap:B.toList.isEmpty=false:=by simpa using ac);obtain⟨K,Z⟩:=ex (wrap64 ((B.size:Int)-1));(first|rw[Z] at H|simp only[Z] at H);have a7:(IntKind.i64.wrap ((B.size:Int)-1))=K:=(zbb _).trans Z;by_cases ak:0<=(K);case neg=>
      replace H:=hN H ak;exact absurd H (by simp)
     replace H:=hE H ak;have bm:=decide_eq_true ak;clear ak;obtain⟨aO,H⟩:=hG H;have bn:=decide_eq_true aO;clear aO;by_cases ag:(bt B (K))=48
     (·replace H:=hE H ag;obtain⟨ar,au⟩:=eT ag;clear ag;have bo:=eq_true (od:0<=(K));obtain⟨bp,bq,H⟩:=hG3 H;have H':=zaa.mk H;clear H;have br:=E.out;have bu:=I.out;obtain⟨aP,aQ,aR,aS⟩:=cz2 J;have ah:0<=((K):Int):=od;have ai:(K)<(B.size:Int):=od;have aT:=zcn B (K);replace ah:=eq_true ah;replace ai:=eq_true ai;go_wp2;go_roundg k2;(case measure=>have:=aD.out;have:=aF.out;omega);case rel=>exact⟨(B.extract 0 ((K):Int).toNat),H',⟨by have:=aD.out;have:=aF.out;omega⟩,⟨bk⟩,⟨bk⟩,⟨bz⟩⟩);replace H:=hN H ag;obtain⟨ar,au⟩:=eF ag;obtain⟨rfl,rfl⟩:=o2 H;have bv:=E.out;have bw:=I.out;obtain⟨aU,aV,aW,aX⟩:=cz2 J;have ah:0<=((K):Int):=od;have ai:(K)<(B.size:Int):=od;have aT:=zcn B (K);replace ah:=eq_true ah;replace ai:=eq_true ai;obtain⟨aY,aZ,a1,a2⟩:=cz2 Y;go_wp2;refine bodyPost_ret (results_cell_row rfl _ _ X 74 #[.string B,.int .i64 D] (0,0) _ rfl bk Tryz.underlying74 rfl (by kernel_rfl)) rfl ?_;exact⟨by first|exact ez|(simp only[<-Z];exact ez),bz⟩
def za2.l0:Nat->Int->ByteArray->Int->Option (ByteArray×Int×Int)
 |0,_,_,_=>none
 |k+1,x4,A,B=>if x4<(A.size:Int) then(if 0<=x4 then(if(bt A x4)<48 then(some ((⟨#[]⟩:ByteArray),0,4)) else(if(bt A x4)>57 then(some ((⟨#[]⟩:ByteArray),0,4)) else(za2.l0 k (wrap64 (x4+1)) A B))) else(none)) else(if B<(-5000) then(some ((⟨#[]⟩:ByteArray),0,2)) else(if B>5000 then(some ((⟨#[]⟩:ByteArray),0,2)) else((zaB.f k A B).bind λD=>(some (D.1,D.2,0)))))
def za2.f(k:Nat)(A:ByteArray)(B:Int):Option (ByteArray×Int×Int):=if(A.size:Int)>2000 then(some ((⟨#[]⟩:ByteArray),0,2)) else(za2.l0 k 0 A B)
theorem za2.calls(k:Nat)(A:ByteArray)(I:Int)(r1:ByteArray)(r2:Int)(r3:Int)(w:World)(h:za2.f k A I=some (r1,r2,r3)):
  Calls Tryz.prog 96 #[.agg #[.string A,.int .i64 I]] w λe w'=>e= .returned (.tuple #[.agg #[.string r1,.int .i64 r2],.int .i64 r3])/\Below w.heap.size w w':=by
 have bL:=Tryz.underlying74;have HB:=zaa.mk (Below.refl w.heap.size w);have H:(if(A.size:Int)>2000 then(some ((⟨#[]⟩:ByteArray),0,2)) else(za2.l0 k 0 A I))=some (r1,r2,r3):=h;clear h;go_enter Tryz.func96,Tryz.ntmps96;(go_upto_if 8 with(first|((with_reducible refine zae (N:=1) rfl ?_);refine zaf rfl (N:=1) rfl (cs:=#[.string A,.int .i64 I]) (t:=74) gz ?_;intro X hg w2 hbox hb;have bp:=gN bz hg;have J:=zaa.mk hbox;replace HB:=bN bz hb;clear hb hbox hg)|((with_reducible refine zae (N:=2) rfl ?_);refine zaf rfl (N:=2) rfl (cs:=#[.string (⟨#[]⟩:ByteArray),.int .i64 0]) (t:=74) gz ?_;intro O hg w3 hbox hb;have bq:=gN bz hg;have D:=lN (g:=X) (cs:=#[.string A,.int .i64 I]) hg bk;have E:=rN (g:=X) (cs:=#[.string A,.int .i64 I]) hg bk;replace J:=kN (g:=X) (cs:=#[.string A,.int .i64 I]) hb bk;have U:=zaa.mk hbox;replace HB:=bN bz hb;clear hb hbox hg;have bM:=D.out;have bO:=E.out;obtain⟨ai,aj,ak,al⟩:=cz2 J)));(try simp only[Act.put,sA]);by_cases c6:(A.size:Int)>2000
 (·replace H:=hE H c6;have aa:decide (2000<(A.size:Int))=true:=decide_eq_true c6;have ab:decide (2000<A.size)=true:=decide_eq_true (by omega);clear c6;(try first|rw[aa]|rw[ab]);obtain⟨rfl,rfl,rfl⟩:=o3 H;have bP:=E.out;have bQ:=D.out;obtain⟨bl,bm,bn,bo⟩:=cz2 U;go_wp2;refine bodyPost_ret (zaS rfl _ _ O 74 #[.string (⟨#[]⟩:ByteArray),.int .i64 0] (0,0) _ rfl bk Tryz.underlying74 rfl (by kernel_rfl)) rfl ?_;exact⟨ez,bz⟩);replace H:=hN H c6;have aa:decide (2000<(A.size:Int))=false:=decide_eq_false c6;have ab:decide (2000<A.size)=false:=decide_eq_false (by omega);clear c6;(try first|rw[aa]|rw[ab]);have H':=zaa.mk H;clear H;go_wp2;go_loopg [4] k (λkq v4 w'=> ∃(B:Int) (K:ByteArray) (M:Int),v4= .int .i64 B/\zaa (za2.l0 kq B A I=some (r1,r2,r3))/\zaa (kq<=k)/\zaa (w'.heap[X]? =some (.cells #[.string A,.int .i64 I] 74 (0,0)))/\zaa (w'.heap[O]? =some (.cells #[.string K,.int .i64 M] 74 (0,0)))/\zaa (Below w.heap.size w w'));(case atStart=>exact⟨(0),((⟨#[]⟩:ByteArray)),(0),rz,H',⟨Nat.le_refl _⟩,⟨bk⟩,⟨bk⟩,⟨bz⟩⟩);case round=>
  clear H';(try clear c6);(try clear aa);(try clear ab);(try clear ai aj ak al);obtain⟨B,K,M,rfl,HA,aw,J,U,HB⟩:=hrel;cases gk with
  |zero=>exact absurd HA.out (by simp[za2.l0])
  |succ k1=>
   have H:=HA.out;clear HA;simp only[za2.l0] at H;by_cases c9:B<(A.size:Int);case neg=>
    replace H:=hN H c9;have ax:=decide_eq_false c9;clear c9;by_cases ae:I<(-5000)
    (·replace H:=hE H ae;have au:=decide_eq_true ae;clear ae;obtain⟨rfl,rfl,rfl⟩:=o3 H;have bD:=D.out;have bE:=E.out;obtain⟨aU,aV,aW,aX⟩:=cz2 J;obtain⟨aY,aZ,a1,a2⟩:=cz2 U;go_wp2;refine bodyPost_ret (zaS rfl _ _ O 74 #[.string (⟨#[]⟩:ByteArray),.int .i64 0] (0,0) _ rfl bk Tryz.underlying74 rfl (by kernel_rfl)) rfl ?_;exact⟨ez,bz⟩);replace H:=hN H ae;have au:=decide_eq_false ae;clear ae;by_cases af:I>5000
    (·replace H:=hE H af;have av:decide (5000<I)=true:=decide_eq_true af;clear af;obtain⟨rfl,rfl,rfl⟩:=o3 H;have bG:=D.out;have bH:=E.out;obtain⟨a3,a4,a5,a6⟩:=cz2 J;obtain⟨a7,a8,a9,ba⟩:=cz2 U;go_wp2;refine bodyPost_ret (zaS rfl _ _ O 74 #[.string (⟨#[]⟩:ByteArray),.int .i64 0] (0,0) _ rfl bk Tryz.underlying74 rfl (by kernel_rfl)) rfl ?_;exact⟨ez,bz⟩);replace H:=hN H af;have av:decide (5000<I)=false:=decide_eq_false af;clear af;replace H:=bs H;obtain⟨⟨an,ao⟩,bI,H⟩:=H;dsimp only at H;obtain⟨rfl,rfl,rfl⟩:=o3 H;have bJ:=D.out;have bK:=E.out;obtain⟨bb,bd,be,bf⟩:=cz2 J;go_wp2_with (first|((with_reducible refine zac (f:=91) rfl ?_);refine gB Tryz.func91 (zaB.calls k1 A I an ao _ bI.out) ?_;intro bR hb;replace J:=kN (g:=X) (cs:=#[.string A,.int .i64 I]) hb bk;replace U:=kN (g:=O) (cs:=#[.string K,.int .i64 M]) hb bk;replace HB:=bN bz hb;clear hb;obtain⟨bg,bh,bi,bj⟩:=cz2 U));refine bodyPost_ret (zaS rfl _ _ O 74 #[.string an,.int .i64 ao] (0,0) _ rfl bk Tryz.underlying74 rfl (by kernel_rfl)) rfl ?_;exact⟨ez,bz⟩
   replace H:=hE H c9;have ax:=decide_eq_true c9;clear c9;obtain⟨ay,H⟩:=hG H;have br:=decide_eq_true ay;clear ay;by_cases ac:(bt A B)<48
   (·replace H:=hE H ac;have ap:=decide_eq_true ac;clear ac;obtain⟨rfl,rfl,rfl⟩:=o3 H;have bu:=D.out;have bv:=E.out;obtain⟨az,aA,aB,aC⟩:=cz2 J;have Y:0<=(B:Int):=od;have Z:B<(A.size:Int):=od;have am:=zcn A B;replace Y:=eq_true Y;replace Z:=eq_true Z;obtain⟨aD,aE,aF,aG⟩:=cz2 U;go_wp2;refine bodyPost_ret (zaS rfl _ _ O 74 #[.string (⟨#[]⟩:ByteArray),.int .i64 0] (0,0) _ rfl bk Tryz.underlying74 rfl (by kernel_rfl)) rfl ?_;exact⟨ez,bz⟩);replace H:=hN H ac;have ap:=decide_eq_false ac;clear ac;by_cases ad:(bt A B)>57
   (·replace H:=hE H ad;have ar:decide (57<(bt A B))=true:=decide_eq_true ad;clear ad;obtain⟨rfl,rfl,rfl⟩:=o3 H;have bw:=D.out;have bA:=E.out;obtain⟨aH,aI,aJ,aK⟩:=cz2 J;have Y:0<=(B:Int):=od;have Z:B<(A.size:Int):=od;have am:=zcn A B;replace Y:=eq_true Y;replace Z:=eq_true Z;have ag:0<=(B:Int):=od;have ah:B<(A.size:Int):=od;have aL:=zcn A B;replace ag:=eq_true ag;replace ah:=eq_true ah;obtain⟨aM,aN,aO,aP⟩:=cz2 U;go_wp2;refine bodyPost_ret (zaS rfl _ _ O 74 #[.string (⟨#[]⟩:ByteArray),.int .i64 0] (0,0) _ rfl bk Tryz.underlying74 rfl (by kernel_rfl)) rfl ?_;exact⟨ez,bz⟩);replace H:=hN H ad;have ar:decide (57<(bt A B))=false:=decide_eq_false ad;clear ad;have H':=zaa.mk H;clear H;have bB:=D.out;have bC:=E.out;obtain⟨aQ,aR,aS,aT⟩:=cz2 J;have Y:0<=(B:Int):=od;have Z:B<(A.size:Int):=od;have am:=zcn A B;replace Y:=eq_true Y;replace Z:=eq_true Z;have ag:0<=(B:Int):=od;have ah:B<(A.size:Int):=od;have aL:=zcn A B;replace ag:=eq_true ag;replace ah:=eq_true ah;go_wp2;go_roundg k1;(case measure=>have:=aw.out;omega);case rel=>exact⟨(wrap64 (B+1)),(K),(M),rz,H',⟨by have:=aw.out;omega⟩,⟨bk⟩,⟨bk⟩,⟨bz⟩⟩
end
end Go.Proofs.YtilidabdbhaljaaGreatDoor.Fn
end
section
namespace Go.Proofs.YtilidabdbhaljaaGreatDoor.Pure
open Go.RowKit Go.Proofs.YtilidabdbhaljaaGreatDoorW.PrintWords Go.Proofs.YtilidabdbhaljaaGreatDoor.Fn
abbrev L (s : ByteArray) : List UInt8 := s.data.toList
def S(l:List UInt8):ByteArray:=⟨l.toArray⟩
theorem L_S(l:List UInt8):L (S l)=l:=rfl
theorem S_L(s:ByteArray):S (L s)=s:=Lib.mk_data s
theorem zb4(s:ByteArray):s.size=(L s).length:=Lib.size_eq s
theorem zas(l:List UInt8):(S l).size=l.length:=by rw[zb4,L_S]
theorem zbn(s:ByteArray):s.toList=L s:=Lib.toList_data s
theorem bt_L(s:ByteArray)(i:Nat)(h:i<s.size):bt s (i:Int)=(((L s)[i]'(by rw[<-zb4];exact h)).toNat:Int):=by
 unfold bt;rw[dif_pos (by simpa using h)];simp only[Int.toNat_natCast];rfl
theorem zdj(s:ByteArray)(a b:Nat):L (s.extract a b)=((L s).drop a).take (b-a):=Lib.extract_data s a b
theorem zaF{x:Int}(h1: -9223372036854775808<=x)(h2:x<=9223372036854775807):wrap64 x=x:=by unfold wrap64;omega
def decS(d:List UInt8×Int):ByteArray×Int:=(S d.1,d.2)
theorem trimL(s:ByteArray):zbQ.f s ⟨#[48]⟩=some (S (dz (L s))):=by
 show(if(48:UInt8).toNat<128 then some ((⟨(Lib.trimLeftB s.data.toList 48).toArray⟩:ByteArray)) else none)=_;rw[if_pos (by decide)];rfl
theorem trimR(s:ByteArray)(h:s.size<=9223372036854775807):zbV.f s ⟨#[48]⟩=some (S (rz (L s))):=by
 show(if(48:UInt8).toNat<128/\s.size<=9223372036854775807 then some ((⟨(Lib.trimRightB s.data.toList 48).toArray⟩:ByteArray)) else none)=_;rw[if_pos ⟨by decide,h⟩];rfl
theorem zet(s:ByteArray)(p:Int)(hs:s.size<=4611686018427387904)(h1: -4611686018427387904<=p)(h2:p<=4611686018427387904):zbH.f s p=some (decS (formL (L s) p)):=by
 have hl:=zgz (L s);rw[<-zb4] at hl;unfold zbH.f;rw[trimL,Option.bind_some,trimR _ (by rw[zas];omega),Option.bind_some,zbn,L_S,L_S];unfold formL decS;by_cases h:rz (dz (L s))=[]
 ·rw[if_pos h,if_pos h];rfl
 ·rw[if_neg h,if_neg h,zas,zaF (x:=(s.size:Int)-_) (by omega) (by omega),zaF (by omega) (by omega),zb4]
def normTail(l0:List UInt8)(p:Int)(l:List UInt8):ByteArray×Int×Int:=
  if l.all isD=true then(if p< -5000 then(⟨#[]⟩,0,2) else if p>5000 then(⟨#[]⟩,0,2) else((decS (formL l0 p)).1,(decS (formL l0 p)).2,0)) else(⟨#[]⟩,0,4)
def normS(s:ByteArray)(p:Int):ByteArray×Int×Int:=if s.size>2000 then(⟨#[]⟩,0,2) else normTail (L s) p (L s)
theorem zdX(c:UInt8):isD c=true↔48<=c.toNat/\c.toNat<=57:=by
 unfold isD;simp
theorem drop_at(l:List UInt8)(i:Nat)(h:i<l.length):l.drop i=l[i]::l.drop (i+1):=List.drop_eq_getElem_cons h
theorem zl3(s:ByteArray)(p:Int)(hs:s.size<=2000): ∀d i,i+d=s.size->Ev (λk=>zbc.l0 k (bytesOf s) (s.size:Int) (i:Int) s p) (normTail (L s) p ((L s).drop i)):=by
 intro d;induction d with
 |zero=>
  intro i hi;refine Ev.step (f:=λ_=>some (normTail (L s) p ((L s).drop i))) (λk=>?_) (Ev.now _);simp only[zbc.l0];rw[if_neg (by omega)];have:(L s).drop i=[]:=List.drop_of_length_le (by rw[<-zb4];omega);rw[this];unfold normTail;rw[if_pos (show([]:List UInt8).all isD=true from rfl)];by_cases h1:p< -5000
  ·rw[if_pos h1,if_pos h1]
  ·rw[if_neg h1,if_neg h1];by_cases h2:p>5000
   ·rw[if_pos h2,if_pos h2]
   ·rw[if_neg h2,if_neg h2,zet s p (by omega) (by omega) (by omega)];rfl
 |succ d ih=>
  intro i hi;(have hlt:i<s.size:=by omega);have hc:rd (bytesOf s) (i:Int)=(((L s)[i]'(by rw[<-zb4];exact hlt)).toNat:Int):=(ziL s i).trans (bt_L s i hlt);have hd:=drop_at (L s) i (by rw[<-zb4];exact hlt);generalize hcc:(L s)[i]'(by rw[<-zb4];exact hlt)=c at hc hd;(have hlen:((bytesOf s).length:Int)=(s.size:Int):=by rw[bytesOf_length]);by_cases hb:isD c=true
  ·have A:=(zdX c).1 hb;have e:normTail (L s) p ((L s).drop i)=normTail (L s) p ((L s).drop (i+1)):=by
    rw[hd];unfold normTail;rw[List.all_cons,hb,Bool.true_and]
   rw[e];refine Ev.step (f:=λk=>zbc.l0 k (bytesOf s) (s.size:Int) ((i+1:Nat):Int) s p) (λk=>?_) (ih (i+1) (by omega));simp only[zbc.l0];rw[if_pos (by omega),if_pos (by omega),if_pos (by omega),hc,if_neg (by omega),if_neg (by omega),zaF (by omega) (by omega)];rfl
  ·have e:normTail (L s) p ((L s).drop i)=(⟨#[]⟩,0,4):=by
    rw[hd];unfold normTail;rw[List.all_cons,if_neg (by simp[hb])]
   rw[e];have A: ¬(48<=c.toNat/\c.toNat<=57):=λh=>hb ((zdX c).2 h);refine Ev.step (f:=λ_=>some ((⟨#[]⟩:ByteArray),(0:Int),(4:Int))) (λk=>?_) (Ev.now _);simp only[zbc.l0];rw[if_pos (by omega),if_pos (by omega),if_pos (by omega),hc];by_cases h1:(c.toNat:Int)<48
   ·rw[if_pos h1]
   ·rw[if_neg h1,if_pos (by omega)]
theorem zeu(s:ByteArray)(p:Int):Ev (λk=>zbc.f k s p) (normS s p):=by
 unfold zbc.f normS;by_cases h:s.size>2000
 ·rw[if_pos h];exact Ev.congr (λk=>by rw[if_pos (by omega)]) (Ev.now _)
 ·rw[if_neg h];refine Ev.congr (f:=λk=>zbc.l0 k (bytesOf s) (s.size:Int) ((0:Nat):Int) s p) (λk=>?_) ?_
  ·rw[if_neg (by omega),if_pos (by omega),Option.bind_some,bytesOf_length];rfl
  ·have:=zl3 s p (by omega) s.size 0 (by omega);rw[List.drop_zero] at this;exact this
theorem zjo(p:Int): ∀(n:Nat) (s:ByteArray),s.size=n->n<=1000000->(L s=[]->p=p)->Ev (λk=>zaB.l1 k s p) (S (rz (L s)),if rz (L s)=[] then 0 else p):=by
 intro n;induction n with
 |zero=>
  intro s hs _ _;have hl:L s=[]:=List.eq_nil_of_length_eq_zero (by rw[<-zb4];exact hs);refine Ev.step (f:=λ_=>some (s,(0:Int))) (λk=>?_) ?_
  ·simp only[zaB.l1];rw[if_pos (by rw[zbn,hl])]
  ·rw[hl,zhk,if_pos rfl];(have:s=S []:=by rw[<-S_L s,hl]);rw[this];exact Ev.now _
 |succ n ih=>
  intro s hs hn _;(have hne:L s≠[]:=by intro e;have h_:=zb4 s;rw[e,List.length_nil] at h_;omega);obtain⟨t,c,hl⟩: ∃t c,L s=t++[c]:=by
   rcases List.eq_nil_or_concat (L s) with h|⟨t,c,h⟩
   ·exact absurd h hne
   ·exact⟨t,c,by rw[h,List.concat_eq_append]⟩
  (have htl:t.length=n:=by have:=zb4 s;rw[hl,List.length_append] at this;simp at this;omega);have hb:bt s ((n:Nat):Int)=(c.toNat:Int):=by
   rw[bt_L s n (by omega)];have:(L s)[n]'(by rw[<-zb4];omega)=c:=by
    simp only[hl];rw[List.getElem_append_right (by omega)];simp[htl]
   rw[this]
  (have hw:wrap64 ((s.size:Int)-1)=(n:Int):=by rw[zaF (by omega) (by omega)];omega);by_cases h:c.toNat=48
  ·(have hx:L (s.extract 0 n)=t:=by rw[zdj,hl];simp[htl]);rw[hl,zcH h];have:=ih (s.extract 0 n) (by rw[zb4,hx,htl]) (by omega) (λ_=>rfl);rw[hx] at this;refine Ev.step (f:=λk=>zaB.l1 k (s.extract 0 n) p) (λk=>?_) this;simp only[zaB.l1];rw[if_neg (by rw[zbn];exact hne),hw,if_pos (by omega),if_pos (by omega),hb,if_pos (by omega),if_pos (by omega)];simp
  ·rw[hl,zc8 h,if_neg (by simp)];refine Ev.step (f:=λ_=>some (s,p)) (λk=>?_) ?_
   ·simp only[zaB.l1];rw[if_neg (by rw[zbn];exact hne),hw,if_pos (by omega),if_pos (by omega),hb,if_neg (by omega)]
   ·(have:s=S (t++[c]):=by rw[<-hl,S_L]);rw[this];exact Ev.now _
theorem zm5: ∀(n:Nat) (s:ByteArray) (p:Int),s.size=n->n<=1000000-> -4611686018427387904+n<=p->p<=4611686018427387904->Ev (λk=>zaB.l0 k s p) (decS (formL (L s) p)):=by
 intro n;induction n with
 |zero=>
  intro s p hs _ _ _;have hl:L s=[]:=List.eq_nil_of_length_eq_zero (by rw[<-zb4];exact hs);have h1:=zjo p 0 s hs (by omega) (λ_=>rfl);refine Ev.step (f:=λk=>zaB.j1 k s p) (λk=>?_) (Ev.step (f:=λk=>zaB.l1 k s p) (λk=>rfl) ?_)
  ·simp only[zaB.l0];rw[if_pos (by rw[zbn,hl])]
  ·rw[hl] at h1 ⊢;exact h1
 |succ n ih=>
  intro s p hs hn h1 h2;(have hne:L s≠[]:=by intro e;have h_:=zb4 s;rw[e,List.length_nil] at h_;omega);obtain⟨c,t,hl⟩: ∃c t,L s=c::t:=by
   cases h:L s with
   |nil=>exact absurd h hne
   |cons c t=>exact⟨c,t,rfl⟩
  (have htl:t.length=n:=by have:=zb4 s;rw[hl,List.length_cons] at this;omega);have hb:bt s ((0:Nat):Int)=(c.toNat:Int):=by
   rw[bt_L s 0 (by omega)];simp only[hl];rfl
  by_cases h:c.toNat=48
  ·(have hx:L (s.extract 1 s.size)=t:=by rw[zdj,hl];simp[List.take_of_length_le,htl,hs]);have:=ih (s.extract 1 s.size) (p-1) (by rw[zb4,hx,htl]) (by omega) (by omega) (by omega);rw[hx] at this;have e:formL (L s) p=formL t (p-1):=by
    rw[hl];unfold formL;rw[zeF h];by_cases hz:rz (dz t)=[]
    ·rw[if_pos hz,if_pos hz]
    ·rw[if_neg hz,if_neg hz,List.length_cons];congr 1;omega
   rw[e];refine Ev.step (f:=λk=>zaB.l0 k (s.extract 1 s.size) (p-1)) (λk=>?_) this;simp only[zaB.l0];rw[if_neg (by rw[zbn];exact hne),if_pos (by omega)];rw[show((0:Int))=((0:Nat):Int) from rfl,hb,if_pos (by omega),if_pos (by omega),zaF (by omega) (by omega)]
  ·have h3:=zjo p (n+1) s hs (by omega) (λ_=>rfl);have e:decS (formL (L s) p)=(S (rz (L s)),if rz (L s)=[] then 0 else p):=by
    unfold formL decS;rw[hl,zeG h];by_cases hz:rz (c::t)=[]
    ·rw[if_pos hz,if_pos hz,hz]
    ·rw[if_neg hz,if_neg hz];congr 1;show p-_=p;omega
   rw[e];refine Ev.step (f:=λk=>zaB.j1 k s p) (λk=>?_) (Ev.step (f:=λk=>zaB.l1 k s p) (λk=>rfl) h3);simp only[zaB.l0];rw[if_neg (by rw[zbn];exact hne),if_pos (by omega)];rw[show((0:Int))=((0:Nat):Int) from rfl,hb,if_neg (by omega)]
theorem ze2(s:ByteArray)(p:Int)(hs:s.size<=1000000)(h1: -4000000000000000000<=p)(h2:p<=4000000000000000000):Ev (λk=>zaB.f k s p) (decS (formL (L s) p)):=
 zm5 s.size s p rfl hs (by omega) (by omega)
theorem zkM(s:ByteArray)(p:Int)(hs:s.size<=2000): ∀d i,i+d=s.size->Ev (λk=>za2.l0 k (i:Int) s p) (normTail (L s) p ((L s).drop i)):=by
 intro d;induction d with
 |zero=>
  intro i hi;have hn:(L s).drop i=[]:=List.drop_of_length_le (by rw[<-zb4];omega);rw[hn];unfold normTail;rw[if_pos (show([]:List UInt8).all isD=true from rfl)];by_cases h1:p< -5000
  ·rw[if_pos h1];refine Ev.step (f:=λ_=>some ((⟨#[]⟩:ByteArray),(0:Int),(2:Int))) (λk=>?_) (Ev.now _);simp only[za2.l0];rw[if_neg (by omega),if_pos h1]
  ·rw[if_neg h1];by_cases h2:p>5000
   ·rw[if_pos h2];refine Ev.step (f:=λ_=>some ((⟨#[]⟩:ByteArray),(0:Int),(2:Int))) (λk=>?_) (Ev.now _);simp only[za2.l0];rw[if_neg (by omega),if_neg h1,if_pos h2]
   ·rw[if_neg h2];refine Ev.step (f:=λk=>(zaB.f k s p).bind λA=>(some (A.1,A.2,0))) (λk=>?_) (Ev.bind (ze2 s p (by omega) (by omega) (by omega)) (Ev.now _));simp only[za2.l0];rw[if_neg (by omega),if_neg h1,if_neg h2]
 |succ d ih=>
  intro i hi;(have hlt:i<s.size:=by omega);have hc:bt s (i:Int)=(((L s)[i]'(by rw[<-zb4];exact hlt)).toNat:Int):=bt_L s i hlt;have hd:=drop_at (L s) i (by rw[<-zb4];exact hlt);generalize hcc:(L s)[i]'(by rw[<-zb4];exact hlt)=c at hc hd;by_cases hb:isD c=true
  ·have B:=(zdX c).1 hb;have e:normTail (L s) p ((L s).drop i)=normTail (L s) p ((L s).drop (i+1)):=by
    rw[hd];unfold normTail;rw[List.all_cons,hb,Bool.true_and]
   rw[e];refine Ev.step (f:=λk=>za2.l0 k ((i+1:Nat):Int) s p) (λk=>?_) (ih (i+1) (by omega));simp only[za2.l0];rw[if_pos (by omega),if_pos (by omega),hc,if_neg (by omega),if_neg (by omega),zaF (by omega) (by omega)];rfl
  ·have e:normTail (L s) p ((L s).drop i)=(⟨#[]⟩,0,4):=by
    rw[hd];unfold normTail;rw[List.all_cons,if_neg (by simp[hb])]
   rw[e];have B: ¬(48<=c.toNat/\c.toNat<=57):=λh=>hb ((zdX c).2 h);refine Ev.step (f:=λ_=>some ((⟨#[]⟩:ByteArray),(0:Int),(4:Int))) (λk=>?_) (Ev.now _);simp only[za2.l0];rw[if_pos (by omega),if_pos (by omega),hc];by_cases h1:(c.toNat:Int)<48
   ·rw[if_pos h1]
   ·rw[if_neg h1,if_pos (by omega)]
theorem zfA(s:ByteArray)(p:Int):Ev (λk=>za2.f k s p) (normS s p):=by
 unfold za2.f normS;by_cases h:s.size>2000
 ·rw[if_pos h];exact Ev.congr (λk=>by rw[if_pos (by omega)]) (Ev.now _)
 ·rw[if_neg h];have:=zkM s p (by omega) s.size 0 (by omega);rw[List.drop_zero] at this;exact Ev.congr (λk=>by rw[if_neg (by omega)];rfl) this
end Go.Proofs.YtilidabdbhaljaaGreatDoor.Pure
end
section
namespace Go.Proofs.YtilidabdbhaljaaGreatDoor.Pure
open Go.RowKit Go.Proofs.YtilidabdbhaljaaGreatDoorW.PrintWords
theorem zde{x:Int}(h1:0<=x)(h2:x<=18446744073709551615):IntKind.u64.wrap x=x:=by
 simp[IntKind.wrap,IntKind.bits,IntKind.signed];omega
theorem zcY{x y:Int}(h:0<=x):Int.tmod x y=x%y:=Int.tmod_eq_emod_of_nonneg h
theorem zda{x y:Int}(h:0<=x):Int.tdiv x y=x / y:=Int.tdiv_eq_ediv_of_nonneg h
def InB(B:Nat)(xs:List Int):Prop:= ∀x∈xs,0<=x/\x<(B:Int)
def lv(B:Nat):List Int->Nat
  |[]=>0
  |x::xs=>x.toNat+B*lv B xs
theorem InB.nil(B:Nat):InB B []:=λx h=>by cases h
theorem InB.cons{B:Nat}{x:Int}{xs:List Int}(h:InB B (x::xs)):(0<=x/\x<(B:Int))/\InB B xs:=⟨h x List.mem_cons_self,λy hy=>h y (List.mem_cons_of_mem _ hy)⟩
theorem InB.mk{B:Nat}{x:Int}{xs:List Int}(h1:0<=x/\x<(B:Int))(h2:InB B xs):InB B (x::xs):=by
 intro y hy;rcases List.mem_cons.1 hy with rfl|h
 ·exact h1
 ·exact h2 y h
theorem InB.left{B:Nat}{a b:List Int}(h:InB B (a++b)):InB B a:=λx hx=>h x (List.mem_append_left _ hx)
theorem InB.append{B:Nat}{a b:List Int}(ha:InB B a)(hb:InB B b):InB B (a++b):=λx hx=>(List.mem_append.1 hx).elim (ha x) (hb x)
theorem zeg(B:Nat)(a b:List Int):lv B (a++b)=lv B a+B^a.length*lv B b:=by
 induction a with
 |nil=>simp[lv]
 |cons x a ih=>
  rw[List.cons_append,lv,lv,ih,List.length_cons,Nat.pow_succ,Nat.mul_add];(have:B*(B^a.length*lv B b)=B^a.length*B*lv B b:=by rw[<-Nat.mul_assoc,Nat.mul_comm B]);omega
def mulGo(B by_:Nat):List Int->Nat->List Int
  |[],c=>if c=0 then [] else [(c:Int)]
  |x::xs,c=>(((x.toNat*by_+c)%B:Nat):Int)::mulGo B by_ xs ((x.toNat*by_+c) / B)
theorem zgA{B by_:Nat}(hB:0<B): ∀(xs:List Int) (c:Nat),lv B (mulGo B by_ xs c)=lv B xs*by_+c
  |[],c=>by
    unfold mulGo
    by_cases h:c=0
    ·rw[if_pos h,h];simp[lv]
    ·rw[if_neg h];simp[lv]
  |x::xs,c=>by
    unfold mulGo
    rw[lv,lv,zgA hB xs,Int.toNat_natCast,Nat.mul_add,Nat.add_mul,<-Nat.mul_assoc]
    have:=Nat.mod_add_div (x.toNat*by_+c) B
    omega
theorem zdp{B by_:Nat}(hB:0<B)(xs:List Int):lv B (mulGo B by_ xs 0)=lv B xs*by_:=zgA hB xs 0
theorem zfB{B by_ x c:Nat}(hx:x<B)(hc:c<=by_)(hB:0<B):(x*by_+c) / B<=by_:=by
 have h1:x*by_+c<=B*by_:=by
  have:x*by_<=(B-1)*by_:=Nat.mul_le_mul_right _ (by omega);have h2:(B-1)*by_+by_=B*by_:=by
   have:(B-1+1)*by_=(B-1)*by_+by_:=Nat.succ_mul _ _;rw[<-this];congr 1;omega
  omega
 calc (x*by_+c) / B<=(B*by_) / B:=Nat.div_le_div_right h1
  _=by_:=Nat.mul_div_cancel_left _ hB
theorem zdu{B by_:Nat}(hby:by_<B): ∀(xs:List Int) (c:Nat),InB B xs->c<=by_->InB B (mulGo B by_ xs c)
  |[],c,_,hc=>by
    unfold mulGo
    by_cases h:c=0
    ·rw[if_pos h];exact InB.nil B
    ·rw[if_neg h];exact InB.mk ⟨by omega,by omega⟩ (InB.nil B)
  |x::xs,c,h,hc=>by
    unfold mulGo
    have hx:=h.cons.1
    refine InB.mk ⟨by omega,?_⟩ (zdu hby xs _ h.cons.2 (zfB (by omega) hc (by omega)))
    have:=Nat.mod_lt (x.toNat*by_+c) (show B>0 by omega)
    omega
theorem zdk{B by_:Nat}: ∀(xs:List Int) (c:Nat),(mulGo B by_ xs c).length<=xs.length+1
  |[],c=>by
    unfold mulGo
    by_cases h:c=0
    ·rw[if_pos h];simp
    ·rw[if_neg h];simp
  |x::xs,c=>by
    unfold mulGo
    have:=zdk (B:=B) (by_:=by_) xs ((x.toNat*by_+c) / B)
    simp only[List.length_cons]
    omega
theorem zd3(a:List Int)(x:Int)(b:List Int):rd (a++x::b) (a.length:Int)=x:=by
 unfold rd;simp[List.getD_eq_getElem?_getD]
theorem set_mid(a:List Int)(x y:Int)(b:List Int):(a++x::b).set a.length y=a++y::b:=by
 rw[List.set_append_right _ _ (Nat.le_refl _)];simp
def dLE:Nat->Nat->List Int
  |0,_=>[]
  |f+1,n=>if n=0 then [] else((n%10:Nat):Int)::dLE f (n / 10)
theorem zif: ∀(f n:Nat),n<10^f->lv 10 (dLE f n)=n
 |0,n,h=>by simp at h;subst h;rfl
 |f+1,n,h=>by
  unfold dLE
  by_cases h0:n=0
  ·rw[if_pos h0,h0];rfl
  ·rw[if_neg h0,lv,zif f (n / 10) (by rw[Nat.pow_succ] at h;omega),Int.toNat_natCast]
   omega
theorem zjp: ∀(f n:Nat),InB 10 (dLE f n)
 |0,n=>InB.nil 10
 |f+1,n=>by
  unfold dLE
  by_cases h0:n=0
  ·rw[if_pos h0];exact InB.nil 10
  ·rw[if_neg h0];exact InB.mk ⟨by omega,by omega⟩ (zjp f _)
theorem zig: ∀(f n:Nat),(dLE f n).length<=f
 |0,n=>Nat.le_refl _
 |f+1,n=>by
  unfold dLE
  by_cases h0:n=0
  ·rw[if_pos h0];simp
  ·rw[if_neg h0]
   have:=zig f (n / 10)
   simp only[List.length_cons]
   omega
def textLE(l:List Int):List UInt8:=l.reverse.map λx=>ch x.toNat
theorem zf2{l:List Int}(h:InB 10 l):val (textLE l)=lv 10 l:=by
 induction l with
 |nil=>rfl
 |cons x l ih=>
  have:=ih h.cons.2;unfold textLE at this ⊢;rw[List.reverse_cons,List.map_append,List.map_cons,List.map_nil,zcB,this,lv,zcP (by have:=h.cons.1;omega)];omega
theorem zf3{l:List Int}(h:InB 10 l):AllD (textLE l):=by
 intro c hc;obtain⟨x,hx,rfl⟩:=List.mem_map.1 hc;have:=h x (List.mem_reverse.1 hx);rw[zcK (by omega)];omega
theorem zdQ(l:List Int):(textLE l).length=l.length:=by simp[textLE]
theorem zeo(xs:List Int):L (strOfNums xs)=xs.map λn=>UInt8.ofNat n.toNat:=strOfNums_data xs
theorem zlB{B:Nat}{xs:List Int}(h:InB B xs):lv B xs<B^xs.length:=by
 induction xs with
 |nil=>simp[lv]
 |cons x xs ih=>
  have h1:=ih h.cons.2;have h2:=h.cons.1;rw[lv,List.length_cons,Nat.pow_succ];have h3:B*(lv B xs+1)<=B*B^xs.length:=Nat.mul_le_mul_left _ h1;rw[Nat.mul_add,Nat.mul_one] at h3;have:B*B^xs.length=B^xs.length*B:=Nat.mul_comm _ _;omega
theorem zfC: ∀(k n:Nat),n<10^k->(digs n).length<=k
 |0,n,h=>by simp at h;subst h;exact Nat.le_refl _
 |k+1,n,h=>by
  by_cases h0:n=0
  ·subst h0;exact Nat.zero_le _
  ·rw[zdh h0,List.length_append]
   have:=zfC k (n / 10) (by rw[Nat.pow_succ] at h;omega)
   simp
   omega
end Go.Proofs.YtilidabdbhaljaaGreatDoor.Pure
end
section
namespace Go.Proofs.YtilidabdbhaljaaGreatDoor.Fn
open Go.RowKit Go.Proofs.YtilidabdbhaljaaGreatDoorW.PrintWords Go.Proofs.YtilidabdbhaljaaGreatDoorW.PrintLast Go.Proofs.YtilidabdbhaljaaGreatDoorW.PrintMore
set_option maxHeartbeats 8000000
set_option maxRecDepth 100000
section
attribute [local go_sem] fnW_0 fnW_1 fnW_2 fnW_3 fnW_4 fnW_5 fnW_guard fnW_eql zaC zaD zaI zaJ
def zbA.j0:Nat->Bool->ByteArray->Int->ByteArray->Int->Option (Int)
 |0,_,_,_,_,_=>none
 |k+1,x5,A,B,D,E=>if x5=true then((strings_Compare.f A D).bind λI=>(some I)) else(if B<E then(some (-1)) else(if B>E then(some 1) else((strings_Compare.f A D).bind λJ=>(some J))))
def zbA.f(k:Nat)(A:ByteArray)(D:Int)(B:ByteArray)(E:Int):Option (Int):=if A.toList=([]:List UInt8) then(zbA.j0 k true A D B E) else(zbA.j0 k (B.toList==([]:List UInt8)) A D B E)
theorem zbA.calls(k:Nat)(A:ByteArray)(E:Int)(J:ByteArray)(K:Int)(r:Int)(w:World)(h:zbA.f k A E J K=some r):
  Calls Tryz.prog 152 #[.agg #[.string A,.int .i64 E],.agg #[.string J,.int .i64 K]] w λe w'=>e= .returned (.int .i64 r)/\Below w.heap.size w w':=by
 have bi:=Tryz.underlying74;have HB:=zaa.mk (Below.refl w.heap.size w);have H:(if A.toList=([]:List UInt8) then(zbA.j0 k true A E J K) else(zbA.j0 k (J.toList==([]:List UInt8)) A E J K))=some r:=h;clear h;have ae:=zaa.mk H;clear H;go_enter Tryz.func152,Tryz.ntmps152;(go_upto_region 1 with(first|((with_reducible refine zae (N:=2) rfl ?_);refine zaf rfl (N:=2) rfl (cs:=#[.string A,.int .i64 E]) (t:=74) gz ?_;intro O hg w4 hbox hb;have a5:=gN bz hg;have I:=zaa.mk hbox;replace HB:=bN bz hb;clear hb hbox hg)|((with_reducible refine zae (N:=3) rfl ?_);refine zaf rfl (N:=3) rfl (cs:=#[.string J,.int .i64 K]) (t:=74) gz ?_;intro X hg w5 hbox hb;have a6:=gN bz hg;have B:=lN (g:=O) (cs:=#[.string A,.int .i64 E]) hg bk;have D:=rN (g:=O) (cs:=#[.string A,.int .i64 E]) hg bk;replace I:=kN (g:=O) (cs:=#[.string A,.int .i64 E]) hb bk;have M:=zaa.mk hbox;replace HB:=bN bz hb;clear hb hbox hg)));(try simp only[Act.put,sA]);go_cut [5] (λv5 wc=> ∃(kq:Nat) (Y:Bool),v5= .bool Y/\zaa (zbA.j0 kq Y A E J K=some r)/\zaa (kq<=k)/\zaa (wc.heap[O]? =some (.cells #[.string A,.int .i64 E] 74 (0,0)))/\zaa (wc.heap[X]? =some (.cells #[.string J,.int .i64 K] 74 (0,0)))/\zaa (Below w.heap.size w wc));case first=>
  have H:=ae.out;clear ae;by_cases c6:A.toList=([]:List UInt8)
  (·replace H:=hE H c6;have U:(A.toList==([]:List UInt8))=true:=beq_iff_eq.mpr c6;have ab:(A.toList !=([]:List UInt8))=false:=bne_eq_false_iff_eq.mpr c6;(have ac:A.toList.isEmpty=true:=by simpa using U);clear c6;(try first|rw[U]|rw[ab]|rw[ac]);have H':=zaa.mk H;clear H;have bj:=B.out;have bl:=D.out;obtain⟨a1,a2,a3,a4⟩:=cz2 I;go_wp2;go_meet;case rel=>exact⟨_,(true),rz,H',⟨by first|omega|exact Nat.le_refl _⟩,⟨bk⟩,⟨bk⟩,⟨bz⟩⟩);replace H:=hN H c6;have U:(A.toList==([]:List UInt8))=false:=beq_eq_false_iff_ne.mpr c6;have ab:(A.toList !=([]:List UInt8))=true:=bne_iff_ne.mpr c6;(have ac:A.toList.isEmpty=false:=by simpa using U);(try first|rw[U]|rw[ab]|rw[ac]);have H':=zaa.mk H;clear H;have bm:=B.out;have bn:=D.out;obtain⟨ah,ai,aj,ak⟩:=cz2 I;obtain⟨al,am,an,ao⟩:=cz2 M;go_wp2;go_meet;case rel=>exact⟨_,((J.toList==([]:List UInt8))),rz,H',⟨by first|omega|exact Nat.le_refl _⟩,⟨bk⟩,⟨bk⟩,⟨bz⟩⟩
 case rest=>
  clear ae;obtain⟨kq,Y,rfl,HA,bo,I,M,HB⟩:=hcut;cases kq with
  |zero=>exact absurd HA.out (by simp[zbA.j0])
  |succ bp=>
   have H:=HA.out;clear HA;simp only[zbA.j0] at H;by_cases ad:Y=true
   (·subst ad;replace H:=hT H;replace H:=bs H;obtain⟨ap,a7,H⟩:=H;obtain rfl:=Option.some.inj H;have a8:=B.out;have a9:=D.out;obtain⟨ar,au,av,aw⟩:=cz2 I;obtain⟨ax,ay,az,aA⟩:=cz2 M;go_wp2_with (first|((with_reducible refine zac (f:=162) rfl ?_);refine gB Tryz.func162 (strings_Compare.calls A J ap _ a7.out) ?_;intro bq hb;replace I:=kN (g:=O) (cs:=#[.string A,.int .i64 E]) hb bk;replace M:=kN (g:=X) (cs:=#[.string J,.int .i64 K]) hb bk;replace HB:=bN bz hb;clear hb));go_ret;exact⟨ez,bz⟩);replace ad:=Bool.eq_false_iff.mpr ad;subst ad;replace H:=hF H;by_cases Z:E<K
   (·replace H:=hE H Z;have af:=decide_eq_true Z;clear Z;obtain rfl:=Option.some.inj H;have ba:=B.out;have bb:=D.out;obtain⟨aB,aC,aD,aE⟩:=cz2 I;obtain⟨aF,aG,aH,aI⟩:=cz2 M;go_wp2;go_ret;exact⟨ez,bz⟩);replace H:=hN H Z;have af:=decide_eq_false Z;clear Z;by_cases aa:E>K
   (·replace H:=hE H aa;have ag:decide (K<E)=true:=decide_eq_true aa;clear aa;obtain rfl:=Option.some.inj H;have bd:=B.out;have be:=D.out;obtain⟨aJ,aK,aL,aM⟩:=cz2 I;obtain⟨aN,aO,aP,aQ⟩:=cz2 M;go_wp2;go_ret;exact⟨ez,bz⟩);replace H:=hN H aa;have ag:decide (K<E)=false:=decide_eq_false aa;clear aa;replace H:=bs H;obtain⟨aR,bf,H⟩:=H;obtain rfl:=Option.some.inj H;have bg:=B.out;have bh:=D.out;obtain⟨aS,aT,aU,aV⟩:=cz2 I;obtain⟨aW,aX,aY,aZ⟩:=cz2 M;go_wp2_with (first|((with_reducible refine zac (f:=162) rfl ?_);refine gB Tryz.func162 (strings_Compare.calls A J aR _ bf.out) ?_;intro br hb;replace I:=kN (g:=O) (cs:=#[.string A,.int .i64 E]) hb bk;replace M:=kN (g:=X) (cs:=#[.string J,.int .i64 K]) hb bk;replace HB:=bN bz hb;clear hb));go_ret;exact⟨ez,bz⟩
def zcu.f(k:Nat)(I:ByteArray)(J:Int)(D:ByteArray)(E:Int):Option (ByteArray×Int×ByteArray×Int×Int):=(zbc.f k I J).bind λA=>(if A.2.2=0 then((zbc.f k D E).bind λB=>(some (A.1,A.2.1,B.1,B.2.1,B.2.2))) else(some (A.1,A.2.1,D,E,A.2.2)))
theorem zcu.calls(k:Nat)(ae:ByteArray)(af:Int)(ac:ByteArray)(ad:Int)(r1:ByteArray)(r2:Int)(r3:ByteArray)(r4:Int)(r5:Int)(w:World)(h:zcu.f k ae af ac ad=some (r1,r2,r3,r4,r5)):
 Calls Tryz.prog 151 #[.agg #[.string ae,.int .i64 af],.agg #[.string ac,.int .i64 ad]] w λe w'=>e= .returned (.tuple #[.agg #[.string r1,.int .i64 r2],.agg #[.string r3,.int .i64 r4],.int .i64 r5])/\Below w.heap.size w w':=by
 have cm:=Tryz.underlying74;have HB:=zaa.mk (Below.refl w.heap.size w);have H:((zbc.f k ae af).bind λao=>(if ao.2.2=0 then((zbc.f k ac ad).bind λau=>(some (ao.1,ao.2.1,au.1,au.2.1,au.2.2))) else(some (ao.1,ao.2.1,ac,ad,ao.2.2))))=some (r1,r2,r3,r4,r5):=h;clear h;replace H:=bs H;obtain⟨⟨ak,al,aH⟩,A3,H⟩:=H;dsimp only at H;go_enter Tryz.func151,Tryz.ntmps151;(go_upto_if 14 with(first|((with_reducible refine zae (N:=2) rfl ?_);refine zaf rfl (N:=2) rfl (cs:=#[.string ae,.int .i64 af]) (t:=74) gz ?_;intro A hg w4 hbox hb;have bW:=gN bz hg;have U:=zaa.mk hbox;replace HB:=bN bz hb;clear hb hbox hg)|((with_reducible refine zae (N:=3) rfl ?_);refine zaf rfl (N:=3) rfl (cs:=#[.string ac,.int .i64 ad]) (t:=74) gz ?_;intro M hg w5 hbox hb;have bX:=gN bz hg;have ap:=lN (g:=A) (cs:=#[.string ae,.int .i64 af]) hg bk;have ar:=rN (g:=A) (cs:=#[.string ae,.int .i64 af]) hg bk;replace U:=kN (g:=A) (cs:=#[.string ae,.int .i64 af]) hb bk;have Y:=zaa.mk hbox;replace HB:=bN bz hb;clear hb hbox hg)|((with_reducible refine zae (N:=4) rfl ?_);refine zaf rfl (N:=4) rfl (cs:=#[.string (⟨#[]⟩:ByteArray),.int .i64 0]) (t:=74) gz ?_;intro B hg w6 hbox hb;have bY:=gN bz hg;have D:=lN (g:=A) (cs:=#[.string ae,.int .i64 af]) hg bk;have ag:=rN (g:=A) (cs:=#[.string ae,.int .i64 af]) hg bk;have E:=lN (g:=M) (cs:=#[.string ac,.int .i64 ad]) hg bk;have ah:=rN (g:=M) (cs:=#[.string ac,.int .i64 ad]) hg bk;replace U:=kN (g:=A) (cs:=#[.string ae,.int .i64 af]) hb bk;replace Y:=kN (g:=M) (cs:=#[.string ac,.int .i64 ad]) hb bk;have X:=zaa.mk hbox;replace HB:=bN bz hb;clear hb hbox hg)|((with_reducible refine zae (N:=5) rfl ?_);refine zaf rfl (N:=5) rfl (cs:=#[.string (⟨#[]⟩:ByteArray),.int .i64 0]) (t:=74) gz ?_;intro O hg w7 hbox hb;have bZ:=gN bz hg;have I:=lN (g:=A) (cs:=#[.string ae,.int .i64 af]) hg bk;have ai:=rN (g:=A) (cs:=#[.string ae,.int .i64 af]) hg bk;have J:=lN (g:=M) (cs:=#[.string ac,.int .i64 ad]) hg bk;have aj:=rN (g:=M) (cs:=#[.string ac,.int .i64 ad]) hg bk;have aa:=lN (g:=B) (cs:=#[.string (⟨#[]⟩:ByteArray),.int .i64 0]) hg bk;have ab:=rN (g:=B) (cs:=#[.string (⟨#[]⟩:ByteArray),.int .i64 0]) hg bk;replace U:=kN (g:=A) (cs:=#[.string ae,.int .i64 af]) hb bk;replace Y:=kN (g:=M) (cs:=#[.string ac,.int .i64 ad]) hb bk;replace X:=kN (g:=B) (cs:=#[.string (⟨#[]⟩:ByteArray),.int .i64 0]) hb bk;have Z:=zaa.mk hbox;replace HB:=bN bz hb;clear hb hbox hg;have cn:=ap.out;have co:=ar.out;have cp:=D.out;have cq:=ag.out;have b0:=I.out;have b1:=ai.out;obtain⟨aI,aJ,aK,aL⟩:=cz2 U)|((with_reducible refine zac (f:=100) rfl ?_);refine gB Tryz.func100 (zbc.calls k ae af ak al aH _ A3.out) ?_;intro aC hb;replace U:=kN (g:=A) (cs:=#[.string ae,.int .i64 af]) hb bk;replace Y:=kN (g:=M) (cs:=#[.string ac,.int .i64 ad]) hb bk;replace X:=kN (g:=B) (cs:=#[.string (⟨#[]⟩:ByteArray),.int .i64 0]) hb bk;replace Z:=kN (g:=O) (cs:=#[.string (⟨#[]⟩:ByteArray),.int .i64 0]) hb bk;replace HB:=bN bz hb;clear hb;obtain⟨aM,aN,aO,aP⟩:=cz2 U)));(try simp only[Act.put,sA]);by_cases aE:aH=0
 ·replace H:=hE H aE;obtain⟨av,aw⟩:=eT aE;clear aE;(try first|rw[av]|rw[aw]);replace H:=bs H;obtain⟨⟨am,an,aQ⟩,b2,H⟩:=H;dsimp only at H;simp only[Option.some.injEq,Prod.mk.injEq] at H;obtain⟨rfl,rfl,rfl,rfl,rfl⟩:=H;have b3:=ar.out;have b4:=ap.out;have b5:=E.out;have b6:=ah.out;have b7:=J.out;have b8:=aj.out;obtain⟨aR,aS,aT,aU⟩:=cz2 Y;(try go_wp2_with (first|((with_reducible refine zac (f:=100) rfl ?_);refine gB Tryz.func100 (zbc.calls k ac ad am an aQ _ b2.out) ?_;intro aD hb;replace U:=kN (g:=A) (cs:=#[.string ak,.int .i64 al]) hb bk;replace Y:=kN (g:=M) (cs:=#[.string ac,.int .i64 ad]) hb bk;replace X:=kN (g:=B) (cs:=#[.string (⟨#[]⟩:ByteArray),.int .i64 0]) hb bk;replace Z:=kN (g:=O) (cs:=#[.string (⟨#[]⟩:ByteArray),.int .i64 0]) hb bk;replace HB:=bN bz hb;clear hb;obtain⟨aV,aW,aX,aY⟩:=cz2 Y)));have ax:zaa (((aD.setCell ⟨M,0,none⟩ (.string am)).setCell ⟨M,1,none⟩ (.int .i64 an)).heap[A]? =some (.cells #[.string ak,.int .i64 al] 74 (0,0))):=⟨bk⟩;have ay:zaa (((aD.setCell ⟨M,0,none⟩ (.string am)).setCell ⟨M,1,none⟩ (.int .i64 an)).heap[M]? =some (.cells #[.string am,.int .i64 an] 74 (0,0))):=⟨bk⟩;have az:zaa (((aD.setCell ⟨M,0,none⟩ (.string am)).setCell ⟨M,1,none⟩ (.int .i64 an)).heap[B]? =some (.cells #[.string (⟨#[]⟩:ByteArray),.int .i64 0] 74 (0,0))):=⟨bk⟩;have aA:zaa (((aD.setCell ⟨M,0,none⟩ (.string am)).setCell ⟨M,1,none⟩ (.int .i64 an)).heap[O]? =some (.cells #[.string (⟨#[]⟩:ByteArray),.int .i64 0] 74 (0,0))):=⟨bk⟩;have aB:zaa (Below w.heap.size w ((aD.setCell ⟨M,0,none⟩ (.string am)).setCell ⟨M,1,none⟩ (.int .i64 an))):=⟨bz⟩;(try clear U);(try clear Y);(try clear X);(try clear Z);(try clear HB);generalize ((aD.setCell ⟨M,0,none⟩ (.string am)).setCell ⟨M,1,none⟩ (.int .i64 an))=ca at ax ay az aA aB ⊢;have U:=ax;have Y:=ay;have X:=az;have Z:=aA;have HB:=aB;clear ax ay az aA aB;replace U:=zaa.mk (zat U.out);replace Y:=zaa.mk (zat Y.out);replace X:=zaa.mk (zat X.out);replace Z:=zaa.mk (zat Z.out);replace HB:=zaa.mk (zaT HB.out);refine zbv (n:=6) (S:=λw'=>w'.cell? ⟨A,0,none⟩=some (.string ak)/\w'.cell? ⟨A,1,none⟩=some (.int .i64 al)/\w'.cell? ⟨M,0,none⟩=some (.string am)/\w'.cell? ⟨M,1,none⟩=some (.int .i64 an)) (ds:=[]) #[false,false,false,false,false,false] (by kernel_rfl) rfl rfl ⟨(zab U.out 0).trans rfl,(zab U.out 1).trans rfl,(zab Y.out 0).trans rfl,(zab Y.out 1).trans rfl⟩ (λhHeld=>?_);generalize ca.drew=aF at U Y X Z HB hHeld ⊢;refine zb9 (i:=2) (N:=some 25) (v:=?_) (a':=?_) #[false,false,true,false,false,false] rfl rfl (by kernel_rfl) (λ_ _ _ h=>h) (Or.inl ⟨by rfl,?_⟩) ?_ ?_;rotate_left
  (·intro w';go_simp;with_reducible rfl);rotate_left
  (·simp only[Act.put,sA,zbb,zbo];rfl);refine zc1 (i:=0) (N:=some 23) (v:=?_) (a':=?_) #[true,false,true,false,false,false] rfl rfl (by kernel_rfl) (λ_ _ _ h=>h) (Or.inl ⟨by rfl,?_⟩) hHeld ?_ ?_;rotate_left
  (·rintro w' ⟨s0,s1,s2,s3⟩;go_simp;with_reducible rfl);rotate_left
  (·simp only[Act.put,sA,zbb,zbo];rfl);refine zc1 (i:=1) (N:=some 24) (v:=?_) (a':=?_) #[true,true,true,false,false,false] rfl rfl (by kernel_rfl) (λ_ _ _ h=>h) (Or.inl ⟨by rfl,?_⟩) hHeld ?_ ?_;rotate_left
  (·rintro w' ⟨s0,s1,s2,s3⟩;go_simp;with_reducible rfl);rotate_left
  (·simp only[Act.put,sA,zbb,zbo];rfl);refine one_ (i:=3) (N:=none) #[true,true,true,true,false,false] rfl rfl (by kernel_rfl) (by decide) (λK hK=>?_);have cr:aF.cell? ⟨B,0,none⟩=some (.string (⟨#[]⟩:ByteArray)):=(zab X.out 0).trans rfl;have cb:=za1 X.out 0;have aZ:=D.out;have a1:=E.out;have a2:=ab.out;have a3:=ag.out;have a4:=ah.out;have a5:=aa.out;have ct:aF.cell? ⟨B,1,none⟩=some (.int .i64 0):=(zab X.out 1).trans rfl;have cc:=za1 X.out 1;have a6:=D.out;have a7:=E.out;have a8:=ab.out;have a9:=ag.out;have ba:=ah.out;have bb:=aa.out;refine zdP (w1:=?_) (by rfl) rfl ?_ ?_;rotate_left
  (·go_simp;rfl);refine hK.out _ _ ⟨((cell_far (p:=⟨B,_,none⟩) D.out _).trans (((cell_far (p:=⟨B,_,none⟩) D.out _).trans (hHeld.1)))),((cell_far (p:=⟨B,_,none⟩) D.out _).trans (((cell_far (p:=⟨B,_,none⟩) D.out _).trans (hHeld.2.1)))),((cell_far (p:=⟨B,_,none⟩) E.out _).trans (((cell_far (p:=⟨B,_,none⟩) E.out _).trans (hHeld.2.2.1)))),((cell_far (p:=⟨B,_,none⟩) E.out _).trans (((cell_far (p:=⟨B,_,none⟩) E.out _).trans (hHeld.2.2.2))))⟩ (λhHeld=>?_);clear hK K;refine one_ (i:=4) (N:=none) #[true,true,true,true,true,false] rfl rfl (by kernel_rfl) (by decide) (λK hK=>?_);have cu:aF.cell? ⟨O,0,none⟩=some (.string (⟨#[]⟩:ByteArray)):=(zab Z.out 0).trans rfl;have cd:=za1 Z.out 0;have bd:=I.out;have be:=J.out;have bf:=aa.out;have bg:=ai.out;have bh:=aj.out;have bi:=ab.out;have cv:aF.cell? ⟨O,1,none⟩=some (.int .i64 0):=(zab Z.out 1).trans rfl;have ce:=za1 Z.out 1;have bj:=I.out;have bl:=J.out;have bm:=aa.out;have bn:=ai.out;have bo:=aj.out;have bp:=ab.out;refine zdP (w1:=?_) (by rfl) rfl ?_ ?_;rotate_left
  (·go_simp;rfl);refine hK.out _ _ ⟨((cell_far (p:=⟨O,_,none⟩) I.out _).trans (((cell_far (p:=⟨O,_,none⟩) I.out _).trans (hHeld.1)))),((cell_far (p:=⟨O,_,none⟩) I.out _).trans (((cell_far (p:=⟨O,_,none⟩) I.out _).trans (hHeld.2.1)))),((cell_far (p:=⟨O,_,none⟩) J.out _).trans (((cell_far (p:=⟨O,_,none⟩) J.out _).trans (hHeld.2.2.1)))),((cell_far (p:=⟨O,_,none⟩) J.out _).trans (((cell_far (p:=⟨O,_,none⟩) J.out _).trans (hHeld.2.2.2))))⟩ (λhHeld=>?_);clear hK K;refine zb9 (i:=5) (N:=some 6) (v:=?_) (a':=?_) #[true,true,true,true,true,true] rfl rfl (by kernel_rfl) (λ_ _ _ h=>h) (Or.inl ⟨by rfl,?_⟩) ?_ ?_;rotate_left
  (·intro w';go_simp;with_reducible rfl);rotate_left
  (·simp only[Act.put,sA,zbb,zbo];rfl);refine zdO (by kernel_rfl) ?_;(try go_wp2);refine bodyPost_ret (zb6 (rs:=[.cell 4 74,.cell 5 74,.tmp 6]) rfl (by simp) (.cell B 74 #[.string ak,.int .i64 al] (0,0) _ rfl bk Tryz.underlying74 rfl (by kernel_rfl) (.cell O 74 #[.string am,.int .i64 an] (0,0) _ rfl bk Tryz.underlying74 rfl (by kernel_rfl) (.tmp .nil)))) rfl ?_;exact⟨ez,bz⟩
 replace H:=hN H aE;obtain⟨av,aw⟩:=eF aE;(try first|rw[av]|rw[aw]);simp only[Option.some.injEq,Prod.mk.injEq] at H;obtain⟨rfl,rfl,rfl,rfl,rfl⟩:=H;(try go_wp2);have ax:zaa (((aC.setCell ⟨A,0,none⟩ (.string ak)).setCell ⟨A,1,none⟩ (.int .i64 al)).heap[A]? =some (.cells #[.string ak,.int .i64 al] 74 (0,0))):=⟨bk⟩;have ay:zaa (((aC.setCell ⟨A,0,none⟩ (.string ak)).setCell ⟨A,1,none⟩ (.int .i64 al)).heap[M]? =some (.cells #[.string ac,.int .i64 ad] 74 (0,0))):=⟨bk⟩;have az:zaa (((aC.setCell ⟨A,0,none⟩ (.string ak)).setCell ⟨A,1,none⟩ (.int .i64 al)).heap[B]? =some (.cells #[.string (⟨#[]⟩:ByteArray),.int .i64 0] 74 (0,0))):=⟨bk⟩;have aA:zaa (((aC.setCell ⟨A,0,none⟩ (.string ak)).setCell ⟨A,1,none⟩ (.int .i64 al)).heap[O]? =some (.cells #[.string (⟨#[]⟩:ByteArray),.int .i64 0] 74 (0,0))):=⟨bk⟩;have aB:zaa (Below w.heap.size w ((aC.setCell ⟨A,0,none⟩ (.string ak)).setCell ⟨A,1,none⟩ (.int .i64 al))):=⟨bz⟩;(try clear U);(try clear Y);(try clear X);(try clear Z);(try clear HB);generalize ((aC.setCell ⟨A,0,none⟩ (.string ak)).setCell ⟨A,1,none⟩ (.int .i64 al))=cf at ax ay az aA aB ⊢;have U:=ax;have Y:=ay;have X:=az;have Z:=aA;have HB:=aB;clear ax ay az aA aB;replace U:=zaa.mk (zat U.out);replace Y:=zaa.mk (zat Y.out);replace X:=zaa.mk (zat X.out);replace Z:=zaa.mk (zat Z.out);replace HB:=zaa.mk (zaT HB.out);refine zbv (n:=6) (S:=λw'=>w'.cell? ⟨A,0,none⟩=some (.string ak)/\w'.cell? ⟨A,1,none⟩=some (.int .i64 al)/\w'.cell? ⟨M,0,none⟩=some (.string ac)/\w'.cell? ⟨M,1,none⟩=some (.int .i64 ad)) (ds:=[]) #[false,false,false,false,false,false] (by kernel_rfl) rfl rfl ⟨(zab U.out 0).trans rfl,(zab U.out 1).trans rfl,(zab Y.out 0).trans rfl,(zab Y.out 1).trans rfl⟩ (λhHeld=>?_);generalize cf.drew=aG at U Y X Z HB hHeld ⊢;refine zb9 (i:=2) (N:=some 17) (v:=?_) (a':=?_) #[false,false,true,false,false,false] rfl rfl (by kernel_rfl) (λ_ _ _ h=>h) (Or.inl ⟨by rfl,?_⟩) ?_ ?_;rotate_left
 (·intro w';go_simp;with_reducible rfl);rotate_left
 (·simp only[Act.put,sA,zbb,zbo];rfl);refine zc1 (i:=0) (N:=some 15) (v:=?_) (a':=?_) #[true,false,true,false,false,false] rfl rfl (by kernel_rfl) (λ_ _ _ h=>h) (Or.inl ⟨by rfl,?_⟩) hHeld ?_ ?_;rotate_left
 (·rintro w' ⟨s0,s1,s2,s3⟩;go_simp;with_reducible rfl);rotate_left
 (·simp only[Act.put,sA,zbb,zbo];rfl);refine zc1 (i:=1) (N:=some 16) (v:=?_) (a':=?_) #[true,true,true,false,false,false] rfl rfl (by kernel_rfl) (λ_ _ _ h=>h) (Or.inl ⟨by rfl,?_⟩) hHeld ?_ ?_;rotate_left
 (·rintro w' ⟨s0,s1,s2,s3⟩;go_simp;with_reducible rfl);rotate_left
 (·simp only[Act.put,sA,zbb,zbo];rfl);refine one_ (i:=3) (N:=none) #[true,true,true,true,false,false] rfl rfl (by kernel_rfl) (by decide) (λK hK=>?_);have cw:aG.cell? ⟨B,0,none⟩=some (.string (⟨#[]⟩:ByteArray)):=(zab X.out 0).trans rfl;have cg:=za1 X.out 0;have bq:=D.out;have br:=E.out;have bu:=ab.out;have bv:=ag.out;have bw:=ah.out;have bA:=aa.out;have cx:aG.cell? ⟨B,1,none⟩=some (.int .i64 0):=(zab X.out 1).trans rfl;have ci:=za1 X.out 1;have bB:=D.out;have bC:=E.out;have bD:=ab.out;have bE:=ag.out;have bG:=ah.out;have bH:=aa.out;refine zdP (w1:=?_) (by rfl) rfl ?_ ?_;rotate_left
 (·go_simp;rfl);refine hK.out _ _ ⟨((cell_far (p:=⟨B,_,none⟩) D.out _).trans (((cell_far (p:=⟨B,_,none⟩) D.out _).trans (hHeld.1)))),((cell_far (p:=⟨B,_,none⟩) D.out _).trans (((cell_far (p:=⟨B,_,none⟩) D.out _).trans (hHeld.2.1)))),((cell_far (p:=⟨B,_,none⟩) E.out _).trans (((cell_far (p:=⟨B,_,none⟩) E.out _).trans (hHeld.2.2.1)))),((cell_far (p:=⟨B,_,none⟩) E.out _).trans (((cell_far (p:=⟨B,_,none⟩) E.out _).trans (hHeld.2.2.2))))⟩ (λhHeld=>?_);clear hK K;refine one_ (i:=4) (N:=none) #[true,true,true,true,true,false] rfl rfl (by kernel_rfl) (by decide) (λK hK=>?_);have cy:aG.cell? ⟨O,0,none⟩=some (.string (⟨#[]⟩:ByteArray)):=(zab Z.out 0).trans rfl;have cj:=za1 Z.out 0;have bI:=I.out;have bJ:=J.out;have bK:=aa.out;have bL:=ai.out;have bM:=aj.out;have bO:=ab.out;have cz:aG.cell? ⟨O,1,none⟩=some (.int .i64 0):=(zab Z.out 1).trans rfl;have ck:=za1 Z.out 1;have bP:=I.out;have bQ:=J.out;have bR:=aa.out;have bS:=ai.out;have bU:=aj.out;have bV:=ab.out;refine zdP (w1:=?_) (by rfl) rfl ?_ ?_;rotate_left
 (·go_simp;rfl);refine hK.out _ _ ⟨((cell_far (p:=⟨O,_,none⟩) I.out _).trans (((cell_far (p:=⟨O,_,none⟩) I.out _).trans (hHeld.1)))),((cell_far (p:=⟨O,_,none⟩) I.out _).trans (((cell_far (p:=⟨O,_,none⟩) I.out _).trans (hHeld.2.1)))),((cell_far (p:=⟨O,_,none⟩) J.out _).trans (((cell_far (p:=⟨O,_,none⟩) J.out _).trans (hHeld.2.2.1)))),((cell_far (p:=⟨O,_,none⟩) J.out _).trans (((cell_far (p:=⟨O,_,none⟩) J.out _).trans (hHeld.2.2.2))))⟩ (λhHeld=>?_);clear hK K;refine zb9 (i:=5) (N:=some 6) (v:=?_) (a':=?_) #[true,true,true,true,true,true] rfl rfl (by kernel_rfl) (λ_ _ _ h=>h) (Or.inl ⟨by rfl,?_⟩) ?_ ?_;rotate_left
 (·intro w';go_simp;with_reducible rfl);rotate_left
 (·simp only[Act.put,sA,zbb,zbo];rfl);refine zdO (by kernel_rfl) ?_;(try go_wp2);refine bodyPost_ret (zb6 (rs:=[.cell 4 74,.cell 5 74,.tmp 6]) rfl (by simp) (.cell B 74 #[.string ak,.int .i64 al] (0,0) _ rfl bk Tryz.underlying74 rfl (by kernel_rfl) (.cell O 74 #[.string ac,.int .i64 ad] (0,0) _ rfl bk Tryz.underlying74 rfl (by kernel_rfl) (.tmp .nil)))) rfl ?_;exact⟨ez,bz⟩
def zbh.f(B:ByteArray)(A:Int)(a1:Int):Option (Int):=if(wrap64 ((wrap64 (A-1))-a1))<0 then(some 0) else(if(wrap64 ((wrap64 (A-1))-a1))>=(B.size:Int) then(some 0) else(if 0<=(wrap64 ((wrap64 (A-1))-a1)) then(if(wrap64 ((wrap64 (A-1))-a1))<(B.size:Int) then(some (((bt B (wrap64 ((wrap64 (A-1))-a1)))-48)%256)) else(none)) else(none)))
theorem zbh.calls(B:ByteArray)(A:Int)(a1:Int)(r:Int)(w:World)(h:zbh.f B A a1=some r):
 Calls Tryz.prog 123 #[.agg #[.string B,.int .i64 A],.int .i64 a1] w λe w'=>e= .returned (.int .i64 r)/\Below w.heap.size w w':=by
 have ar:=Tryz.underlying74;have HB:=zaa.mk (Below.refl w.heap.size w);have H:(if(wrap64 ((wrap64 (A-1))-a1))<0 then(some 0) else(if(wrap64 ((wrap64 (A-1))-a1))>=(B.size:Int) then(some 0) else(if 0<=(wrap64 ((wrap64 (A-1))-a1)) then(if(wrap64 ((wrap64 (A-1))-a1))<(B.size:Int) then(some (((bt B (wrap64 ((wrap64 (A-1))-a1)))-48)%256)) else(none)) else(none))))=some r:=h;clear h;by_cases c3:(wrap64 ((wrap64 (A-1))-a1))<0
 (·replace H:=hE H c3;have M:=decide_eq_true c3;clear c3;obtain rfl:=Option.some.inj H;go_enter Tryz.func123,Tryz.ntmps123;go_wp2_with (first|((with_reducible refine zae (N:=2) rfl ?_);(try(refine zco (by rfl) ?_;dsimp only));refine zaf rfl (N:=2) rfl (cs:=#[.string B,.int .i64 A]) (t:=74) gz ?_;intro O hg w4 hbox hb;have U:=gN bz hg;have X:=gN bz hg;have I:=zaa.mk hbox;replace HB:=bN bz hb;clear hb hbox hg;obtain⟨af,ag,ah,ai⟩:=cz2 I));go_ret;exact⟨ez,bz⟩);replace H:=hN H c3;have M:=decide_eq_false c3;clear c3;go_enter Tryz.func123,Tryz.ntmps123;(go_upto_if 19 with(first|((with_reducible refine zae (N:=2) rfl ?_);(try(refine zco (by rfl) ?_;dsimp only));refine zaf rfl (N:=2) rfl (cs:=#[.string B,.int .i64 A]) (t:=74) gz ?_;intro O hg w6 hbox hb;have U:=gN bz hg;have X:=gN bz hg;have I:=zaa.mk hbox;replace HB:=bN bz hb;clear hb hbox hg;obtain⟨aj,ak,al,am⟩:=cz2 I)));(try simp only[Act.put,sA]);by_cases c8:(wrap64 ((wrap64 (A-1))-a1))>=(B.size:Int)
 (·replace H:=hE H c8;have D:decide ((B.size:Int)<=(wrap64 ((wrap64 (A-1))-a1)))=true:=decide_eq_true c8;clear c8;(first|rw[D]|(simp only[zbb,zbo];rw[D])|skip);obtain rfl:=Option.some.inj H;go_wp2;go_ret;exact⟨ez,bz⟩);replace H:=hN H c8;have D:decide ((B.size:Int)<=(wrap64 ((wrap64 (A-1))-a1)))=false:=decide_eq_false c8;clear c8;(first|rw[D]|(simp only[zbb,zbo];rw[D])|skip);obtain⟨J,E⟩:=ex (wrap64 ((wrap64 (A-1))-a1));(first|rw[E] at H|simp only[E] at H);(try rw[E] at M);(try rw[E] at D);have an:(IntKind.i64.wrap ((wrap64 (A-1))-a1))=J:=(zbb _).trans E;by_cases K:0<=(J);case neg=>
  replace H:=hN H K;exact absurd H (by simp)
 replace H:=hE H K;have ao:=decide_eq_true K;clear K;obtain⟨Y,H⟩:=hG H;have ap:=decide_eq_true Y;clear Y;obtain rfl:=Option.some.inj H;obtain⟨Z,aa,ab,ac⟩:=cz2 I;have ad:0<=((J):Int):=od;have ae:(J)<(B.size:Int):=od;have au:=zcn B (J);replace ad:=eq_true ad;replace ae:=eq_true ae;go_wp2;go_ret;exact⟨by first|exact ez|(simp only[<-E];exact ez),bz⟩
def zbk.f(A:ByteArray)(B:Int):Option (Int):=some (wrap64 (B-(A.size:Int)))
theorem zbk.calls(A:ByteArray)(B:Int)(r:Int)(w:World)(h:zbk.f A B=some r):
 Calls Tryz.prog 120 #[.agg #[.string A,.int .i64 B]] w λe w'=>e= .returned (.int .i64 r)/\Below w.heap.size w w':=by
 have U:=Tryz.underlying74;have HB:=zaa.mk (Below.refl w.heap.size w);have H:(some (wrap64 (B-(A.size:Int))))=some r:=h;clear h;obtain rfl:=Option.some.inj H;go_enter Tryz.func120,Tryz.ntmps120;go_wp2_with (first|((with_reducible refine zae (N:=1) rfl ?_);refine zaf rfl (N:=1) rfl (cs:=#[.string A,.int .i64 B]) (t:=74) gz ?_;intro M hg w2 hbox hb;have O:=gN bz hg;have D:=zaa.mk hbox;replace HB:=bN bz hb;clear hb hbox hg;obtain⟨E,I,J,K⟩:=cz2 D));go_ret;exact⟨ez,bz⟩
mutual
def zai.j0:Nat->Bool->ByteArray->Int->ByteArray->Int->Option (Int)
 |0,_,_,_,_,_=>none
 |k+1,J,B,A,E,D=>if J=true then(some 0) else(if B.toList=([]:List UInt8) then(some (-1)) else(if E.toList=([]:List UInt8) then(some 1) else((zbk.f B A).bind λI=>(if D>A then(zai.j1 k D I B A E D) else(zai.j1 k A I B A E D)))))
def zai.j1:Nat->Int->Int->ByteArray->Int->ByteArray->Int->Option (Int)
 |0,_,_,_,_,_,_=>none
 |k+1,x5,x6,D,E,A,B=>(zbk.f A B).bind λI=>(if I<x6 then((zbk.f A B).bind λJ=>(zai.j2 k x5 J D E A B)) else(zai.j2 k x5 x6 D E A B))
def zai.j2:Nat->Int->Int->ByteArray->Int->ByteArray->Int->Option (Int)
 |0,_,_,_,_,_,_=>none
 |k+1,x5,x6,A,B,D,E=>zai.l0 k x6 x5 A B D E
def zai.l0:Nat->Int->Int->ByteArray->Int->ByteArray->Int->Option (Int)
 |0,_,_,_,_,_,_=>none
 |k+1,x6,x7,A,B,D,E=>if x7>=x6 then((zbh.f A B x7).bind λI=>((zbh.f D E x7).bind λJ=>(if I<J then(some (-1)) else(if I>J then(some 1) else(zai.l0 k x6 (wrap64 (x7-1)) A B D E))))) else(some 0)
end
def zai.f(k:Nat)(A:ByteArray)(D:Int)(B:ByteArray)(E:Int):Option (Int):=if A.toList=([]:List UInt8) then(zai.j0 k (B.toList==([]:List UInt8)) A D B E) else(zai.j0 k false A D B E)
def zai.T15:Bool×List (List Nat×List Nat):=(true,[([],[]),([],[]),([0,1],[0,1]),([],[]),([],[]),([3,4,2],[3,4]),([2,5,0,1,2],[2]),([5,6,0,1,2,3,4,5,6],[5])])
def zai.B15:List Nat:=[0,0,3,0,0,31,63,127]
theorem zai.tab15:rtab .any (opsOf Tryz.f122 15)=zai.T15:=by kernel_rfl
theorem zai.bits15:waitsOk zai.T15.2 zai.B15=true:=by kernel_rfl
theorem zai.calls(k:Nat)(B:ByteArray)(I:Int)(E:ByteArray)(J:Int)(r:Int)(w:World)(h:zai.f k B I E J=some r):
  Calls Tryz.prog 122 #[.agg #[.string B,.int .i64 I],.agg #[.string E,.int .i64 J]] w λe w'=>e= .returned (.int .i64 r)/\Below w.heap.size w w':=by
 have cb:=Tryz.underlying74;have HB:=zaa.mk (Below.refl w.heap.size w);have H:(if B.toList=([]:List UInt8) then(zai.j0 k (E.toList==([]:List UInt8)) B I E J) else(zai.j0 k false B I E J))=some r:=h;clear h;have aZ:=zaa.mk H;clear H;go_enter Tryz.func122,Tryz.ntmps122;(go_upto_region 1 with(first|((with_reducible refine zae (N:=2) rfl ?_);refine zaf rfl (N:=2) rfl (cs:=#[.string B,.int .i64 I]) (t:=74) gz ?_;intro U hg w4 hbox hb;have bL:=gN bz hg;have A:=zaa.mk hbox;replace HB:=bN bz hb;clear hb hbox hg)|((with_reducible refine zae (N:=3) rfl ?_);refine zaf rfl (N:=3) rfl (cs:=#[.string E,.int .i64 J]) (t:=74) gz ?_;intro X hg w5 hbox hb;have bM:=gN bz hg;have M:=lN (g:=U) (cs:=#[.string B,.int .i64 I]) hg bk;have O:=rN (g:=U) (cs:=#[.string B,.int .i64 I]) hg bk;replace A:=kN (g:=U) (cs:=#[.string B,.int .i64 I]) hb bk;have D:=zaa.mk hbox;replace HB:=bN bz hb;clear hb hbox hg)));(try simp only[Act.put,sA]);go_cut [17] (λbO wc=> ∃(kq:Nat) (au:Bool),bO= .bool au/\zaa (zai.j0 kq au B I E J=some r)/\zaa (kq<=k)/\zaa (wc.heap[U]? =some (.cells #[.string B,.int .i64 I] 74 (0,0)))/\zaa (wc.heap[X]? =some (.cells #[.string E,.int .i64 J] 74 (0,0)))/\zaa (Below w.heap.size w wc));case first=>
  have H:=aZ.out;clear aZ;by_cases c6:B.toList=([]:List UInt8)
  (·replace H:=hE H c6;have ay:(B.toList==([]:List UInt8))=true:=beq_iff_eq.mpr c6;have aR:(B.toList !=([]:List UInt8))=false:=bne_eq_false_iff_eq.mpr c6;(have aS:B.toList.isEmpty=true:=by simpa using ay);clear c6;(try first|rw[ay]|rw[aR]|rw[aS]);have H':=zaa.mk H;clear H;have cc:=M.out;have cd:=O.out;obtain⟨bC,bD,bE,bG⟩:=cz2 A;obtain⟨bH,bI,bJ,bK⟩:=cz2 D;go_wp2;go_meet;case rel=>exact⟨_,((E.toList==([]:List UInt8))),rz,H',⟨by first|omega|exact Nat.le_refl _⟩,⟨bk⟩,⟨bk⟩,⟨bz⟩⟩);replace H:=hN H c6;have ay:(B.toList==([]:List UInt8))=false:=beq_eq_false_iff_ne.mpr c6;have aR:(B.toList !=([]:List UInt8))=true:=bne_iff_ne.mpr c6;(have aS:B.toList.isEmpty=false:=by simpa using ay);(try first|rw[ay]|rw[aR]|rw[aS]);have H':=zaa.mk H;clear H;have bP:=M.out;have bQ:=O.out;obtain⟨a5,a6,a7,a8⟩:=cz2 A;go_wp2;go_meet;case rel=>exact⟨_,(false),rz,H',⟨by first|omega|exact Nat.le_refl _⟩,⟨bk⟩,⟨bk⟩,⟨bz⟩⟩
 case rest=>
  clear aZ;obtain⟨kq,au,rfl,HA,aL,A,D,HB⟩:=hcut;cases kq with
  |zero=>exact absurd HA.out (by simp[zai.j0])
  |succ bR=>
   have H:=HA.out;clear HA;simp only[zai.j0] at H;by_cases aF:au=true
   (·subst aF;replace H:=hT H;obtain rfl:=Option.some.inj H;go_wp2;go_ret;exact⟨ez,bz⟩);replace aF:=Bool.eq_false_iff.mpr aF;subst aF;replace H:=hF H;by_cases ap:B.toList=([]:List UInt8)
   (·replace H:=hE H ap;have aa:(B.toList==([]:List UInt8))=true:=beq_iff_eq.mpr ap;have av:(B.toList !=([]:List UInt8))=false:=bne_eq_false_iff_eq.mpr ap;(have a1:B.toList.isEmpty=true:=by simpa using aa);clear ap;obtain rfl:=Option.some.inj H;have bS:=M.out;have bU:=O.out;obtain⟨a9,ba,bb,bd⟩:=cz2 A;go_wp2;go_ret;exact⟨ez,bz⟩);replace H:=hN H ap;have aa:(B.toList==([]:List UInt8))=false:=beq_eq_false_iff_ne.mpr ap;have av:(B.toList !=([]:List UInt8))=true:=bne_iff_ne.mpr ap;(have a1:B.toList.isEmpty=false:=by simpa using aa);by_cases ar:E.toList=([]:List UInt8)
   (·replace H:=hE H ar;have ab:(E.toList==([]:List UInt8))=true:=beq_iff_eq.mpr ar;have aw:(E.toList !=([]:List UInt8))=false:=bne_eq_false_iff_eq.mpr ar;(have a2:E.toList.isEmpty=true:=by simpa using ab);clear ar;obtain rfl:=Option.some.inj H;have bV:=M.out;have bW:=O.out;obtain⟨be,bf,bg,bh⟩:=cz2 A;obtain⟨bi,bj,bl,bm⟩:=cz2 D;go_wp2;go_ret;exact⟨ez,bz⟩);replace H:=hN H ar;have ab:(E.toList==([]:List UInt8))=false:=beq_eq_false_iff_ne.mpr ar;have aw:(E.toList !=([]:List UInt8))=true:=bne_iff_ne.mpr ar;(have a2:E.toList.isEmpty=false:=by simpa using ab);replace H:=bs H;obtain⟨aJ,bX,H⟩:=H;have aT:=zaa.mk H;clear H;have bY:=M.out;have bZ:=O.out;obtain⟨ac,ad,ae,af⟩:=cz2 A;obtain⟨ag,ah,ai,aj⟩:=cz2 D;(try go_wp2);replace A:=zaa.mk (zat A.out);replace D:=zaa.mk (zat D.out);replace HB:=zaa.mk (zaT HB.out);refine zbv (n:=6) (S:=λw'=>w'.cell? ⟨U,0,none⟩=some (.string B)/\w'.cell? ⟨U,1,none⟩=some (.int .i64 I)) (ds:=[]) #[false,false,false,false,false,false] (by kernel_rfl) rfl rfl ⟨(zab A.out 0).trans rfl,(zab A.out 1).trans rfl⟩ (λhHeld=>?_);generalize wc.drew=ce at A D HB hHeld ⊢;refine zb9 (i:=0) (N:=some 24) (v:=?_) (a':=?_) #[true,false,false,false,false,false] rfl rfl (by kernel_rfl) (λ_ _ _ h=>h) (Or.inl ⟨by rfl,?_⟩) ?_ ?_;rotate_left
   (·intro w';go_simp;with_reducible rfl);rotate_left
   (·simp only[Act.put,sA,zbb,zbo];rfl);refine zc1 (i:=1) (N:=some 25) (v:=?_) (a':=?_) #[true,true,false,false,false,false] rfl rfl (by kernel_rfl) (λ_ _ _ h=>h) (Or.inl ⟨by rfl,?_⟩) hHeld ?_ ?_;rotate_left
   (·rintro w' ⟨s0,s1⟩;go_simp;with_reducible rfl);rotate_left
   (·simp only[Act.put,sA,zbb,zbo];rfl);refine zc1 (i:=2) (N:=some 26) (v:=?_) (a':=?_) #[true,true,true,false,false,false] rfl rfl (by kernel_rfl) (λ_ _ _ h=>h) (Or.inl ⟨by rfl,?_⟩) hHeld ?_ ?_;rotate_left
   (·rintro w' ⟨s0,s1⟩;go_simp;with_reducible rfl);rotate_left
   (·simp only[Act.put,sA,zbb,zbo];rfl);refine one_ (i:=3) (N:=some 27) #[true,true,true,true,false,false] rfl rfl (by kernel_rfl) (by decide) (λK hK=>?_);refine gG Tryz.func120 (zbk.calls B I aJ _ bX.out) ?_;intro cf hb;replace A:=kN (g:=U) (cs:=#[.string B,.int .i64 I]) hb bk;replace D:=kN (g:=X) (cs:=#[.string E,.int .i64 J]) hb bk;replace HB:=bN bz hb;clear hb;refine hK.out _ _ (d2 A) (λhHeld=>?_);clear hK K;refine nz ?_;refine zb9 (i:=4) (N:=some 5) (v:=?_) (a':=?_) #[true,true,true,true,true,false] rfl rfl (by kernel_rfl) (λ_ _ _ h=>h) (Or.inl ⟨by rfl,?_⟩) ?_ ?_;rotate_left
   (·intro w';go_simp;with_reducible rfl);rotate_left
   (·simp only[Act.put,sA,zbb,zbo];rfl);refine zb9 (i:=5) (N:=some 6) (v:=?_) (a':=?_) #[true,true,true,true,true,true] rfl rfl (by kernel_rfl) (λ_ _ _ h=>h) (Or.inl ⟨by rfl,?_⟩) ?_ ?_;rotate_left
   (·intro w';go_simp;with_reducible rfl);rotate_left
   (·simp only[Act.put,sA,zbb,zbo];rfl);refine zdO (by kernel_rfl) ?_;obtain⟨ak,al,am,an⟩:=cz2 D;(go_upto_if 31 with(fail));go_cut [5] (λv5 wc=> ∃(kq:Nat) (ao:Int),v5= .int .i64 ao/\zaa (zai.j1 kq ao aJ B I E J=some r)/\zaa (kq<=bR)/\zaa (wc.heap[U]? =some (.cells #[.string B,.int .i64 I] 74 (0,0)))/\zaa (wc.heap[X]? =some (.cells #[.string E,.int .i64 J] 74 (0,0)))/\zaa (Below w.heap.size w wc));case first=>
    have H:=aT.out;clear aT;by_cases aM:J>I
    (·replace H:=hE H aM;have aG:decide (I<J)=true:=decide_eq_true aM;clear aM;(try rw[aG]);have H':=zaa.mk H;clear H;have b0:=O.out;have b1:=M.out;obtain⟨bn,bo,bp,bq⟩:=cz2 D;go_wp2;go_meet;case rel=>exact⟨_,(J),rz,H',⟨by have:=aL.out;first|omega|exact Nat.le_refl _⟩,⟨bk⟩,⟨bk⟩,⟨bz⟩⟩);replace H:=hN H aM;have aG:decide (I<J)=false:=decide_eq_false aM;clear aM;(try rw[aG]);have H':=zaa.mk H;clear H;go_wp2;go_meet;case rel=>exact⟨_,(I),rz,H',⟨by have:=aL.out;first|omega|exact Nat.le_refl _⟩,⟨bk⟩,⟨bk⟩,⟨bz⟩⟩
   case rest=>
    clear aT;(try clear aF);(try clear ap);(try clear aa);(try clear av);(try clear ar);(try clear ab);(try clear aw);(try clear ac ad ae af);(try clear ag ah ai aj);(try clear ak al am an);obtain⟨kq,ao,rfl,HA,aK,A,D,HB⟩:=hcut;cases kq with
    |zero=>exact absurd HA.out (by simp[zai.j1])
    |succ br=>
     have H:=HA.out;clear HA;simp only[zai.j1] at H;replace H:=bs H;obtain⟨aV,b2,H⟩:=H;have aU:=zaa.mk H;clear H;have b3:=O.out;have b4:=M.out;obtain⟨az,aA,aB,aC⟩:=cz2 D;(go_upto_if 37 with(first|((with_reducible refine zac (f:=120) rfl ?_);refine gB Tryz.func120 (zbk.calls E J aV _ b2.out) ?_;intro cg hb;replace A:=kN (g:=U) (cs:=#[.string B,.int .i64 I]) hb bk;replace D:=kN (g:=X) (cs:=#[.string E,.int .i64 J]) hb bk;replace HB:=bN bz hb;clear hb)));(try simp only[Act.put,sA]);go_cut [6] (λv6 wc=> ∃(kq:Nat) (Y:Int),v6= .int .i64 Y/\zaa (zai.j2 kq ao Y B I E J=some r)/\zaa (kq<=br)/\zaa (wc.heap[U]? =some (.cells #[.string B,.int .i64 I] 74 (0,0)))/\zaa (wc.heap[X]? =some (.cells #[.string E,.int .i64 J] 74 (0,0)))/\zaa (Below w.heap.size w wc));case first=>
      have H:=aU.out;clear aU;by_cases aN:aV<aJ
      (·replace H:=hE H aN;have aH:=decide_eq_true aN;clear aN;(try rw[aH]);replace H:=bs H;obtain⟨aW,b5,H⟩:=H;have H':=zaa.mk H;clear H;have b6:=O.out;have b7:=M.out;obtain⟨bu,bv,bw,bA⟩:=cz2 D;go_wp2_with (first|((with_reducible refine zac (f:=120) rfl ?_);refine gB Tryz.func120 (zbk.calls E J aW _ b5.out) ?_;intro ci hb;replace A:=kN (g:=U) (cs:=#[.string B,.int .i64 I]) hb bk;replace D:=kN (g:=X) (cs:=#[.string E,.int .i64 J]) hb bk;replace HB:=bN bz hb;clear hb));go_meet;case rel=>exact⟨_,(aW),rz,H',⟨by have:=aL.out;have:=aK.out;first|omega|exact Nat.le_refl _⟩,⟨bk⟩,⟨bk⟩,⟨bz⟩⟩);replace H:=hN H aN;have aH:=decide_eq_false aN;clear aN;(try rw[aH]);have H':=zaa.mk H;clear H;go_wp2;go_meet;case rel=>exact⟨_,(aJ),rz,H',⟨by have:=aL.out;have:=aK.out;first|omega|exact Nat.le_refl _⟩,⟨bk⟩,⟨bk⟩,⟨bz⟩⟩
     case rest=>
      clear aU;(try clear aF);(try clear ap);(try clear aa);(try clear av);(try clear ar);(try clear ab);(try clear aw);(try clear ac ad ae af);(try clear ag ah ai aj);(try clear ak al am an);(try clear az aA aB aC);obtain⟨kq,Y,rfl,HA,aX,A,D,HB⟩:=hcut;cases kq with
      |zero=>exact absurd HA.out (by simp[zai.j2])
      |succ aY=>
       have H:=HA.out;clear HA;simp only[zai.j2] at H;have H':=zaa.mk H;clear H;go_wp2;go_loopg [7] aY (λkq v7 w'=> ∃(Z:Int),v7= .int .i64 Z/\zaa (zai.l0 kq Y Z B I E J=some r)/\zaa (kq<=aY)/\zaa (w'.heap[U]? =some (.cells #[.string B,.int .i64 I] 74 (0,0)))/\zaa (w'.heap[X]? =some (.cells #[.string E,.int .i64 J] 74 (0,0)))/\zaa (Below w.heap.size w w'));(case atStart=>exact⟨(ao),rz,H',⟨Nat.le_refl _⟩,⟨bk⟩,⟨bk⟩,⟨bz⟩⟩);case round=>
        clear H';(try clear aF);(try clear ap);(try clear aa);(try clear av);(try clear ar);(try clear ab);(try clear aw);(try clear ac ad ae af);(try clear ag ah ai aj);(try clear ak al am an);(try clear az aA aB aC);obtain⟨Z,rfl,HA,bB,A,D,HB⟩:=hrel;cases gk with
        |zero=>exact absurd HA.out (by simp[zai.l0])
        |succ k4=>
         have H:=HA.out;clear HA;simp only[zai.l0] at H;by_cases aO:Z>=Y;case neg=>
          replace H:=hN H aO;have a3:decide (Y<=Z)=false:=decide_eq_false aO;clear aO;obtain rfl:=Option.some.inj H;go_wp2;go_ret;exact⟨ez,bz⟩
         replace H:=hE H aO;have a3:decide (Y<=Z)=true:=decide_eq_true aO;clear aO;replace H:=bs H;obtain⟨aD,b8,H⟩:=H;replace H:=bs H;obtain⟨aE,ca,H⟩:=H;(try go_wp2);replace A:=zaa.mk (zat A.out);replace D:=zaa.mk (zat D.out);replace HB:=zaa.mk (zaT HB.out);refine zbv (n:=8) (S:=λw'=>w'.cell? ⟨U,0,none⟩=some (.string B)/\w'.cell? ⟨U,1,none⟩=some (.int .i64 I)/\w'.cell? ⟨X,0,none⟩=some (.string E)/\w'.cell? ⟨X,1,none⟩=some (.int .i64 J)) (ds:=[]) #[false,false,false,false,false,false,false,false] (by kernel_rfl) rfl rfl ⟨(zab A.out 0).trans rfl,(zab A.out 1).trans rfl,(zab D.out 0).trans rfl,(zab D.out 1).trans rfl⟩ (λhHeld=>?_);refine zbj zai.tab15 zai.bits15 (λax HW_=>?_);generalize wr.drew=cj at A D HB hHeld ⊢;refine pz (i:=1) (N:=47) ax ?_;refine pz (i:=4) (N:=50) ax ?_;refine tz (i:=0) (N:=46) rfl ax HW_ hHeld (by(rintro w' ⟨s0,s1,s2,s3⟩;go_simp;with_reducible rfl)) ?_;refine tz (i:=3) (N:=49) rfl ax HW_ hHeld (by(rintro w' ⟨s0,s1,s2,s3⟩;go_simp;with_reducible rfl)) ?_;refine oz (i:=2) (N:=some 48) ax λK hK=>?_;refine gG Tryz.func123 (zbh.calls B I Z aD _ b8.out) ?_;intro ck hb;replace A:=kN (g:=U) (cs:=#[.string B,.int .i64 I]) hb bk;replace D:=kN (g:=X) (cs:=#[.string E,.int .i64 J]) hb bk;replace HB:=bN bz hb;clear hb;refine hK.out _ _ ⟨bc A 0,bc A 1,bc D 0,bc D 1⟩ (λhHeld=>?_);clear hK K;refine nz ?_;refine oz (i:=5) (N:=some 51) ax λK hK=>?_;refine gG Tryz.func123 (zbh.calls E J Z aE _ ca.out) ?_;intro cm hb;replace A:=kN (g:=U) (cs:=#[.string B,.int .i64 I]) hb bk;replace D:=kN (g:=X) (cs:=#[.string E,.int .i64 J]) hb bk;replace HB:=bN bz hb;clear hb;refine hK.out _ _ ⟨bc A 0,bc A 1,bc D 0,bc D 1⟩ (λhHeld=>?_);clear hK K;refine nz ?_;refine pz (i:=6) (N:=8) ax ?_;refine pz (i:=7) (N:=9) ax ?_;refine dz ax ?_;(go_upto_if 54 with(fail));by_cases aP:aD<aE
         (·replace H:=hE H aP;have aI:=decide_eq_true aP;clear aP;(try rw[aI]);obtain rfl:=Option.some.inj H;go_wp2;go_ret;exact⟨ez,bz⟩);replace H:=hN H aP;have aI:=decide_eq_false aP;clear aP;(try rw[aI]);by_cases aQ:aD>aE
         (·replace H:=hE H aQ;have a4:decide (aE<aD)=true:=decide_eq_true aQ;clear aQ;obtain rfl:=Option.some.inj H;go_wp2;go_ret;exact⟨ez,bz⟩);replace H:=hN H aQ;have a4:decide (aE<aD)=false:=decide_eq_false aQ;clear aQ;have H':=zaa.mk H;clear H;go_wp2;go_roundg k4;(case measure=>have:=aL.out;have:=aK.out;have:=aX.out;have:=bB.out;omega);case rel=>exact⟨(wrap64 (Z-1)),rz,H',⟨by have:=aL.out;have:=aK.out;have:=aX.out;have:=bB.out;omega⟩,⟨bk⟩,⟨bk⟩,⟨bz⟩⟩
def zcT.f(k:Nat)(B:ByteArray)(D:Int)(E:ByteArray)(I:Int):Option (Int×Int):=(zcu.f k B D E I).bind λA=>(if A.2.2.2.2=0 then((zbA.f k A.1 A.2.1 A.2.2.1 A.2.2.2.1).bind λJ=>(some (J,0))) else(some (0,A.2.2.2.2)))
theorem zcT.calls(k:Nat)(A:ByteArray)(B:Int)(O:ByteArray)(U:Int)(r1:Int)(r2:Int)(w:World)(h:zcT.f k A B O U=some (r1,r2)):
 Calls Tryz.prog 150 #[.agg #[.string A,.int .i64 B],.agg #[.string O,.int .i64 U]] w λe w'=>e= .returned (.tuple #[.int .i64 r1,.int .i64 r2])/\Below w.heap.size w w':=by
 have aN:=Tryz.underlying74;have HB:=zaa.mk (Below.refl w.heap.size w);have H:((zcu.f k A B O U).bind λD=>(if D.2.2.2.2=0 then((zbA.f k D.1 D.2.1 D.2.2.1 D.2.2.2.1).bind λZ=>(some (Z,0))) else(some (0,D.2.2.2.2))))=some (r1,r2):=h;clear h;replace H:=bs H;obtain⟨⟨aa,ab,ac,ad,ag⟩,A3,H⟩:=H;dsimp only at H;go_enter Tryz.func150,Tryz.ntmps150;(go_upto_if 15 with(first|((with_reducible refine zae (N:=2) rfl ?_);refine zaf rfl (N:=2) rfl (cs:=#[.string A,.int .i64 B]) (t:=74) gz ?_;intro I hg w4 hbox hb;have aI:=gN bz hg;have E:=zaa.mk hbox;replace HB:=bN bz hb;clear hb hbox hg)|((with_reducible refine zae (N:=3) rfl ?_);refine zaf rfl (N:=3) rfl (cs:=#[.string O,.int .i64 U]) (t:=74) gz ?_;intro ae hg w5 hbox hb;have aJ:=gN bz hg;have J:=lN (g:=I) (cs:=#[.string A,.int .i64 B]) hg bk;have K:=rN (g:=I) (cs:=#[.string A,.int .i64 B]) hg bk;replace E:=kN (g:=I) (cs:=#[.string A,.int .i64 B]) hb bk;have M:=zaa.mk hbox;replace HB:=bN bz hb;clear hb hbox hg;have aO:=J.out;have aP:=K.out;obtain⟨aA,aB,aC,aD⟩:=cz2 E;obtain⟨aE,aF,aG,aH⟩:=cz2 M)|((with_reducible refine zac (f:=151) rfl ?_);refine gB Tryz.func151 (zcu.calls k A B O U aa ab ac ad ag _ A3.out) ?_;intro w9 hb;replace E:=kN (g:=I) (cs:=#[.string A,.int .i64 B]) hb bk;replace M:=kN (g:=ae) (cs:=#[.string O,.int .i64 U]) hb bk;replace HB:=bN bz hb;clear hb;obtain⟨ah,ai,aj,ak⟩:=cz2 E;obtain⟨al,am,an,ao⟩:=cz2 M)));(try simp only[Act.put,sA]);by_cases af:ag=0
 (·replace H:=hE H af;obtain⟨X,Y⟩:=eT af;clear af;(try first|rw[X]|rw[Y]);replace H:=bs H;obtain⟨Z,aK,H⟩:=H;obtain⟨rfl,rfl⟩:=o2 H;have aL:=J.out;have aM:=K.out;obtain⟨ap,ar,au,av⟩:=cz2 E;obtain⟨aw,ax,ay,az⟩:=cz2 M;go_wp2_with (first|((with_reducible refine zac (f:=152) rfl ?_);refine gB Tryz.func152 (zbA.calls k aa ab ac ad Z _ aK.out) ?_;intro aQ hb;replace E:=kN (g:=I) (cs:=#[.string aa,.int .i64 ab]) hb bk;replace M:=kN (g:=ae) (cs:=#[.string ac,.int .i64 ad]) hb bk;replace HB:=bN bz hb;clear hb));go_ret2;exact⟨ez,bz⟩);replace H:=hN H af;obtain⟨X,Y⟩:=eF af;(try first|rw[X]|rw[Y]);obtain⟨rfl,rfl⟩:=o2 H;go_wp2;go_ret2;exact⟨ez,bz⟩
end
end Go.Proofs.YtilidabdbhaljaaGreatDoor.Fn
end
section
namespace Go.Proofs.YtilidabdbhaljaaGreatDoor.Pure
open Go.RowKit Go.Proofs.YtilidabdbhaljaaGreatDoorW.PrintWords Go.Proofs.YtilidabdbhaljaaGreatDoor.Fn
def sv(l:List UInt8)(p E:Int):Nat:=val l*10^(p-l.length-E).toNat
def cmpN(a b:Nat):Int:=if a<b then-1 else if b<a then 1 else 0
theorem zhl(a b k:Nat)(hk:0<k):cmpN (a*k) (b*k)=cmpN a b:=by
 unfold cmpN;by_cases h1:a<b
 ·rw[if_pos h1,if_pos (Nat.mul_lt_mul_of_pos_right h1 hk)]
 ·rw[if_neg h1,if_neg (λh=>h1 (Nat.lt_of_mul_lt_mul_right h))];by_cases h2:b<a
  ·rw[if_pos h2,if_pos (Nat.mul_lt_mul_of_pos_right h2 hk)]
  ·rw[if_neg h2,if_neg (λh=>h2 (Nat.lt_of_mul_lt_mul_right h))]
theorem zfD(x a b:Nat):cmpN (x+a) (x+b)=cmpN a b:=by
 (have e1:x+a<x+b↔a<b:=by omega);(have e2:x+b<x+a↔b<a:=by omega);unfold cmpN;simp only[e1,e2]
theorem zdb{a b:Nat}(h:a<b):cmpN a b= -1:=if_pos h
theorem zdl{a b:Nat}(h:b<a):cmpN a b=1:=by unfold cmpN;rw[if_neg (by omega),if_pos h]
theorem ze3(a:Nat):cmpN a a=0:=by unfold cmpN;rw[if_neg (by omega),if_neg (by omega)]
theorem zeH(l:List UInt8)(p E:Int)(h:E<=p-l.length)(k:Nat):sv l p (E-k)=sv l p E*10^k:=by
 unfold sv;(have:(p-l.length-(E-k)).toNat=(p-l.length-E).toNat+k:=by omega);rw[this,Nat.pow_add,Nat.mul_assoc]
theorem zkN{l:List UInt8}{p:Int}(h:InForm l p){E:Int}(hE:E<=p-l.length):decOf (sv l p E) E=(l,p):=by
 have h1:=zdE (val l) (p-l.length-E).toNat (p-l.length);(have h2:(p-(l.length:Int))-((p-l.length-E).toNat:Int)=E:=by omega);rw[h2,zef h] at h1;exact h1
def cmpD(a:List UInt8)(p:Int)(b:List UInt8)(q:Int):Int:=cmpN (sv a p (min (p-a.length) (q-b.length))) (sv b q (min (p-a.length) (q-b.length)))
theorem zih{a b:List UInt8}{p q E:Int}(h1:E<=p-a.length)(h2:E<=q-b.length):cmpD a p b q=cmpN (sv a p E) (sv b q E):=by
 unfold cmpD;obtain⟨k,hk⟩: ∃k:Nat,E=min (p-(a.length:Int)) (q-b.length)-k:=⟨(min (p-(a.length:Int)) (q-b.length)-E).toNat,by omega⟩;rw[hk,zeH a p _ (by omega),zeH b q _ (by omega),zhl _ _ _ (Nat.pow_pos (by omega))]
theorem zdF{l:List UInt8}(h:AllD l){p E:Int}(hE:E<=p-l.length):sv l p E<10^(p-E).toNat:=by
 unfold sv;have h1:=zc2 h;(have h2:(p-E).toNat=l.length+(p-l.length-E).toNat:=by omega);rw[h2,Nat.pow_add];exact Nat.mul_lt_mul_of_pos_right h1 (Nat.pow_pos (by omega))
theorem zm6{l:List UInt8}(h:AllD l)(h0:zdD l)(hn:l≠[]):10^(l.length-1)<=val l:=by
 cases l with
 |nil=>exact absurd rfl hn
 |cons c t=>
  rw[zcw,List.length_cons];have h1:=h.cons.1;have h2:=h0 c t rfl;have:1*10^t.length<=dig c*10^t.length:=Nat.mul_le_mul_right _ (by unfold dig;omega);simp only[Nat.add_sub_cancel];omega
theorem zg3{l:List UInt8}(h:AllD l)(h0:zdD l)(hn:l≠[]){p E:Int}(hE:E<=p-l.length):10^(p-1-E).toNat<=sv l p E:=by
 unfold sv;have h1:=zm6 h h0 hn;have hl:0<l.length:=List.length_pos_iff.2 hn;(have h2:(p-1-E).toNat=(l.length-1)+(p-l.length-E).toNat:=by omega);rw[h2,Nat.pow_add];exact Nat.mul_le_mul_right _ h1
theorem zgj{l:List UInt8}(h:AllD l)(hr:rz l=l)(hn:l≠[]):val l≠0:=by
 rcases List.eq_nil_or_concat l with rfl|⟨t,c,rfl⟩
 ·exact absurd rfl hn
 ·rw[List.concat_eq_append] at*
  have hc:c.toNat≠48:=by
   intro e;rw[zcH e] at hr;have:=zdi t;rw[hr] at this;simp at this;omega
  rw[zcB];have:=h.last;unfold dig;omega
theorem zfl{c:UInt8}{t:List UInt8}(h:rz (c::t)=c::t):rz t=t:=by
 rcases List.eq_nil_or_concat t with rfl|⟨u,d,rfl⟩
 ·rfl
 ·rw[List.concat_eq_append] at*
  by_cases e:d.toNat=48
  ·rw[<-List.cons_append,zcH e] at h;have:=zdi (c::u);rw[h] at this;simp at this;omega
  ·exact zc8 e
theorem zii: ∀(a b:List UInt8) (K:Nat),AllD a->AllD b->rz a=a->rz b=b->a.length<=K->b.length<=K->Lib.compareBytes a b=cmpN (val a*10^(K-a.length)) (val b*10^(K-b.length))
  |[],[],K,_,_,_,_,_,_=>by simp[Lib.compareBytes,zbP,cmpN]
  |[],d::u,K,_,hb,_,hrb,_,_=>by
    rw[zbP,Nat.zero_mul,zdb (Nat.mul_pos (Nat.pos_of_ne_zero (zgj hb hrb (by simp))) (Nat.pow_pos (by omega)))]
    rfl
  |c::t,[],K,ha,_,hra,_,_,_=>by
    rw[zbP,Nat.zero_mul,zdl (Nat.mul_pos (Nat.pos_of_ne_zero (zgj ha hra (by simp))) (Nat.pow_pos (by omega)))]
    rfl
  |c::t,d::u,K,ha,hb,hra,hrb,hka,hkb=>by
    simp only[List.length_cons] at hka hkb
    have hc:=ha.cons.1
    have hd:=hb.cons.1
    have h1:=zc2 ha.cons.2
    have h2:=zc2 hb.cons.2
    have ea:val (c::t)*10^(K-(t.length+1))=dig c*10^(K-1)+val t*10^(K-1-t.length):=by
      rw[zcw,Nat.add_mul,Nat.mul_assoc,<-Nat.pow_add];(have e1:t.length+(K-(t.length+1))=K-1:=by omega);(have e2:K-(t.length+1)=K-1-t.length:=by omega);rw[e1,e2]
    have eb:val (d::u)*10^(K-(u.length+1))=dig d*10^(K-1)+val u*10^(K-1-u.length):=by
      rw[zcw,Nat.add_mul,Nat.mul_assoc,<-Nat.pow_add]
      have e1:u.length+(K-(u.length+1))=K-1:=by omega
      have e2:K-(u.length+1)=K-1-u.length:=by omega
      rw[e1,e2]
    have la:val t*10^(K-1-t.length)<10^(K-1):=by
      have:10^t.length*10^(K-1-t.length)=10^(K-1):=by rw[<-Nat.pow_add];congr 1;omega
      rw[<-this]
      exact Nat.mul_lt_mul_of_pos_right h1 (Nat.pow_pos (by omega))
    have lb:val u*10^(K-1-u.length)<10^(K-1):=by
      have:10^u.length*10^(K-1-u.length)=10^(K-1):=by rw[<-Nat.pow_add];congr 1;omega
      rw[<-this]
      exact Nat.mul_lt_mul_of_pos_right h2 (Nat.pow_pos (by omega))
    have less: ∀x y r s M:Nat,x<y->r<M->x*M+r<y*M+s:=by
      intro x y r s M hxy hr
      have:(x+1)*M<=y*M:=Nat.mul_le_mul_right _ hxy
      rw[Nat.add_mul] at this
      omega
    rw[List.length_cons,List.length_cons,ea,eb]
    unfold Lib.compareBytes
    have hlt: ∀x y:UInt8,(48<=x.toNat/\x.toNat<=57)->(48<=y.toNat/\y.toNat<=57)->(x<y↔dig x<dig y):=by
      intro x y hx hy
      rw[UInt8.lt_iff_toNat_lt]
      unfold dig
      omega
    by_cases e1:c<d
    ·rw[if_pos e1,zdb (less _ _ _ _ _ ((hlt c d hc hd).1 e1) la)]
    ·rw[if_neg e1]
     by_cases e2:d<c
     ·rw[if_pos e2,zdl (less _ _ _ _ _ ((hlt d c hd hc).1 e2) lb)]
     ·rw[if_neg e2]
      have e3:dig c=dig d:=by
        have h3:=mt (hlt c d hc hd).2 e1
        have h4:=mt (hlt d c hd hc).2 e2
        omega
      rw[zii t u (K-1) ha.cons.2 hb.cons.2 (zfl hra) (zfl hrb) (by omega) (by omega),e3,zfD]
theorem cmp_eq{a b:List UInt8}{p q:Int}(ha:InForm a p)(hb:InForm b q):Ev (λk=>zbA.f k (S a) p (S b) q) (cmpD a p b q):=by
 obtain⟨A,D,M,U⟩:=ha;obtain⟨B,I,O,X⟩:=hb;(have J:min (p-(a.length:Int)) (q-b.length)<=p-a.length:=by omega);(have K:min (p-(a.length:Int)) (q-b.length)<=q-b.length:=by omega);have empt: ∀(z:Int),(a=[]\/b=[])->Lib.compareBytes a b=cmpD a p b q:=by
  intro _ h;unfold cmpD;by_cases h1:a=[]
  ·by_cases h2:b=[]
   ·subst h1;subst h2;rw[cmpN];simp[sv,zbP,Lib.compareBytes]
   ·subst h1;rw[zdb]
    ·cases b with
     |nil=>exact absurd rfl h2
     |cons d u=>rfl
    ·have h3:0<sv b q (min (p-(([]:List UInt8).length:Int)) (q-b.length)):=Nat.mul_pos (Nat.pos_of_ne_zero (zdW B I h2)) (Nat.pow_pos (by omega));simpa [sv,zbP] using h3
  ·(have h2:b=[]:=by rcases h with h|h;exact absurd h h1;exact h);subst h2;rw[zdl]
   ·cases a with
    |nil=>exact absurd rfl h1
    |cons d u=>rfl
   ·have h3:0<sv a p (min (p-(a.length:Int)) (q-(([]:List UInt8).length:Int))):=Nat.mul_pos (Nat.pos_of_ne_zero (zdW A D h1)) (Nat.pow_pos (by omega));simpa [sv,zbP] using h3
 have hcmp:strings_Compare.f (S a) (S b)=some (Lib.compareBytes a b):=rfl;unfold zbA.f;rw[zbn,L_S,zbn,L_S];by_cases h1:a=[]
 ·refine Ev.congr (f:=λk=>zbA.j0 k true (S a) p (S b) q) (λk=>by rw[if_pos h1]) (Ev.step (f:=λ_=>some (cmpD a p b q)) (λk=>?_) (Ev.now _));simp only[zbA.j0];rw[if_pos trivial,hcmp,Option.bind_some,empt 0 (.inl h1)]
 ·by_cases h2:b=[]
  ·refine Ev.congr (f:=λk=>zbA.j0 k true (S a) p (S b) q) (λk=>by rw[if_neg h1,h2];rfl) (Ev.step (f:=λ_=>some (cmpD a p b q)) (λk=>?_) (Ev.now _));simp only[zbA.j0];rw[if_pos trivial,hcmp,Option.bind_some,empt 0 (.inr h2)]
  ·refine Ev.congr (f:=λk=>zbA.j0 k false (S a) p (S b) q) (λk=>by rw[if_neg h1];congr 1;simpa using h2) (Ev.step (f:=λ_=>some (cmpD a p b q)) (λk=>?_) (Ev.now _));simp only[zbA.j0];rw[if_neg (by simp)];have hal:0<a.length:=List.length_pos_iff.2 h1;have hbl:0<b.length:=List.length_pos_iff.2 h2;have la:=zdF A J;have lb:=zdF B K;have ga:=zg3 A D h1 J;have gb:=zg3 B I h2 K;generalize hE:min (p-(a.length:Int)) (q-b.length)=E at*
   by_cases h3:p<q
   ·rw[if_pos h3];unfold cmpD;rw[hE,zdb];have:10^(p-E).toNat<=10^(q-1-E).toNat:=Nat.pow_le_pow_right (by omega) (by omega);omega
   ·rw[if_neg h3];by_cases h4:p>q
    ·rw[if_pos h4];unfold cmpD;rw[hE,zdl];have:10^(q-E).toNat<=10^(p-1-E).toNat:=Nat.pow_le_pow_right (by omega) (by omega);omega
    ·rw[if_neg h4,hcmp,Option.bind_some];(have e:p=q:=by omega);subst e;rw[zii a b (p-E).toNat A B M O (by omega) (by omega)];unfold cmpD sv;rw[hE];(have e1:(p-E).toNat-a.length=(p-(a.length:Int)-E).toNat:=by omega);(have e2:(p-E).toNat-b.length=(p-(b.length:Int)-E).toNat:=by omega);rw[e1,e2]
theorem zcv(s:ByteArray)(p:Int):(∃e:Int,normS s p=(⟨#[]⟩,0,e)/\e≠0/\(e=2\/e=4))\/ ∃l q,normS s p=(S l,q,0)/\InForm l q/\l.length<=2000/\ -7000<=q/\q<=5000/\AllD (L s)/\(l,q)=decOf (val (L s)) (p-(L s).length):=by
 unfold normS;by_cases h:s.size>2000
 ·rw[if_pos h];exact .inl ⟨2,rfl,by omega,.inl rfl⟩
 ·rw[if_neg h];unfold normTail;by_cases h1:(L s).all isD=true
  ·rw[if_pos h1];by_cases h2:p< -5000
   ·rw[if_pos h2];exact .inl ⟨2,rfl,by omega,.inl rfl⟩
   ·rw[if_neg h2];by_cases h3:p>5000
    ·rw[if_pos h3];exact .inl ⟨2,rfl,by omega,.inl rfl⟩
    ·rw[if_neg h3];have hall:AllD (L s):=λc hc=>(zdX c).1 (List.all_eq_true.1 h1 c hc);have hf:=zcC hall p;have hin:=zbx (val (L s)) (p-(L s).length);rw[<-hf] at hin;have hl:=zgz (L s);have A:=zdi (dz (L s));rw[<-zb4] at hl;refine .inr ⟨(formL (L s) p).1,(formL (L s) p).2,rfl,hin,?_,?_,?_,hall,by rw[<-hf]⟩
     ·unfold formL;split
      ·simp
      ·show(rz (dz (L s))).length<=2000;omega
     ·unfold formL;split
      ·show(-7000:Int)<=0;omega
      ·show(-7000:Int)<=p-_;rw[<-zb4];omega
     ·unfold formL;split
      ·show(0:Int)<=5000;omega
      ·show p-_<=(5000:Int);rw[<-zb4];omega
  ·rw[if_neg h1];exact .inl ⟨4,rfl,by omega,.inr rfl⟩
def cmpS(s:ByteArray)(p:Int)(t:ByteArray)(q:Int):Int×Int:=
  if(normS s p).2.2=0 then(if(normS t q).2.2=0 then(cmpD (L (normS s p).1) (normS s p).2.1 (L (normS t q).1) (normS t q).2.1,0) else(0,(normS t q).2.2)) else(0,(normS s p).2.2)
theorem zjq(s:ByteArray)(p:Int)(t:ByteArray)(q:Int):Ev (λk=>zcu.f k s p t q) (if(normS s p).2.2=0 then((normS s p).1,(normS s p).2.1,(normS t q).1,(normS t q).2.1,(normS t q).2.2) else((normS s p).1,(normS s p).2.1,t,q,(normS s p).2.2)):=by
 unfold zcu.f;refine Ev.bind (zeu s p) ?_;by_cases h:(normS s p).2.2=0
 ·rw[if_pos h];exact Ev.congr (λk=>by rw[if_pos h]) (Ev.bind (f:=λ_ bt=>some ((normS s p).1,(normS s p).2.1,bt.1,bt.2.1,bt.2.2)) (zeu t q) (Ev.now _))
 ·rw[if_neg h];exact Ev.congr (λk=>by rw[if_neg h]) (Ev.now _)
theorem zl4(s:ByteArray)(p:Int)(t:ByteArray)(q:Int):Ev (λk=>zcT.f k s p t q) (cmpS s p t q):=by
 unfold zcT.f cmpS;refine Ev.bind (zjq s p t q) ?_;rcases zcv s p with⟨e,h1,h2,_⟩|⟨l,u,h1,A,_⟩
 ·rw[h1,if_neg h2,if_neg h2];exact Ev.congr (λk=>by rw[if_neg h2]) (Ev.now _)
 ·rw[h1,if_pos rfl,if_pos rfl];rcases zcv t q with⟨e,h3,h4,_⟩|⟨m,v,h3,B,_⟩
  ·rw[h3,if_neg h4];exact Ev.congr (λk=>by rw[if_neg h4]) (Ev.now _)
  ·rw[h3,if_pos rfl];refine Ev.congr (λk=>by rw[if_pos rfl]) (Ev.bind (f:=λ_ x=>some (x,(0:Int))) (cmp_eq A B) (Ev.now _))
theorem zgB{l:List UInt8}(h:AllD l)(i:Nat)(hi:i<l.length):val l / 10^(l.length-1-i)%10=dig l[i]:=by
 have e:l=l.take (i+1)++l.drop (i+1):=(List.take_append_drop _ _).symm;have e2:l.take (i+1)=l.take i++[l[i]]:=List.take_succ_eq_append_getElem hi;have hv:val l=(10*val (l.take i)+dig l[i])*10^(l.length-1-i)+val (l.drop (i+1)):=by
  (have hl:(l.drop (i+1)).length=l.length-1-i:=by rw[List.length_drop];omega);rw[<-hl,<-zcB,<-e2,<-val_append,<-e]
 have hlt:val (l.drop (i+1))<10^(l.length-1-i):=by
  have:=zc2 (h.drop (i+1));rw[List.length_drop] at this;(have e3:l.length-(i+1)=l.length-1-i:=by omega);rw[e3] at this;exact this
 (have hd:dig l[i]<10:=by have:=h l[i] (List.getElem_mem hi);unfold dig;omega);rw[hv,Nat.mul_comm,Nat.mul_add_div (Nat.pow_pos (by omega)),Nat.div_eq_of_lt hlt];omega
theorem digit_eq{l:List UInt8}{p E x:Int}(h:AllD l)(hE:E<=p-l.length)(hx:E<=x)(hb:l.length<=100000/\ -100000<=p/\p<=100000/\ -100000<=x/\x<=100000):
 zbh.f (S l) p x=some ((sv l p E / 10^(x-E).toNat%10:Nat):Int):=by
 unfold zbh.f;(have hw:wrap64 (wrap64 (p-1)-x)=p-1-x:=by rw[zaF (x:=p-1) (by omega) (by omega),zaF (by omega) (by omega)]);rw[hw,zas];by_cases h1:p-1-x<0
 ·rw[if_pos h1];have hlt:=zdF h hE;have:10^(p-E).toNat<=10^(x-E).toNat:=Nat.pow_le_pow_right (by omega) (by omega);rw[Nat.div_eq_of_lt (by omega)];rfl
 ·rw[if_neg h1];by_cases h2:p-1-x>=(l.length:Int)
  ·rw[if_pos h2];unfold sv;(have e:(p-l.length-E).toNat=(p-l.length-x).toNat+(x-E).toNat:=by omega);rw[e,Nat.pow_add,<-Nat.mul_assoc,Nat.mul_div_cancel _ (Nat.pow_pos (by omega))];obtain⟨j,hj⟩: ∃j,(p-l.length-x).toNat=j+1:=⟨(p-l.length-x).toNat-1,by omega⟩;rw[hj,Nat.pow_succ,<-Nat.mul_assoc,Nat.mul_mod_left];rfl
  ·obtain⟨i,hi⟩: ∃i:Nat,p-1-x=(i:Int):=⟨(p-1-x).toNat,by omega⟩;(have hil:i<l.length:=by omega);rw[if_neg h2,hi,if_pos (by omega),if_pos (by omega),bt_L (S l) i (by rw[zas];exact hil)];simp only[L_S];have hd:=h l[i] (List.getElem_mem hil);have hv:=zgB h i hil;have e:sv l p E / 10^(x-E).toNat=val l / 10^(l.length-1-i):=by
    unfold sv;(have e1:(x-E).toNat=(l.length-1-i)+(p-l.length-E).toNat:=by omega);rw[e1,Nat.pow_add,Nat.mul_comm (10^(l.length-1-i)),<-Nat.div_div_eq_div_mul,Nat.mul_div_cancel _ (Nat.pow_pos (by omega))]
   rw[e,hv];unfold dig at*
   congr 1;omega
theorem zjr{A B n:Nat}(hA:A<10^(n+1))(hB:B<10^(n+1)):cmpN A B=(if A / 10^n%10<B / 10^n%10 then-1 else if B / 10^n%10<A / 10^n%10 then 1 else cmpN (A%10^n) (B%10^n)):=by
 have hp:0<10^n:=Nat.pow_pos (by omega);rw[Nat.pow_succ] at hA hB;have a1:A / 10^n<10:=Nat.div_lt_of_lt_mul hA;have b1:B / 10^n<10:=Nat.div_lt_of_lt_mul hB;rw[Nat.mod_eq_of_lt a1,Nat.mod_eq_of_lt b1];have ea:=Nat.div_add_mod A (10^n);have eb:=Nat.div_add_mod B (10^n);have ma:=Nat.mod_lt A hp;have mb:=Nat.mod_lt B hp;have less: ∀x y r s M:Nat,x<y->r<M->M*x+r<M*y+s:=by
  intro x y r s M hxy hr;have:M*(x+1)<=M*y:=Nat.mul_le_mul_left _ hxy;rw[Nat.mul_add] at this;omega
 by_cases h1:A / 10^n<B / 10^n
 ·rw[if_pos h1,zdb];rw[<-ea,<-eb];exact less _ _ _ _ _ h1 ma
 ·rw[if_neg h1];by_cases h2:B / 10^n<A / 10^n
  ·rw[if_pos h2,zdl];rw[<-ea,<-eb];exact less _ _ _ _ _ h2 mb
  ·rw[if_neg h2];(have e:A / 10^n=B / 10^n:=by omega);rw[e] at ea;rw[<-zfD (10^n*(B / 10^n)) (A%10^n),ea,eb]
theorem zgC(A n j:Nat)(h:j<n):A%10^n / 10^j%10=A / 10^j%10:=by
 obtain⟨d,rfl⟩: ∃d,n=j+1+d:=⟨n-(j+1),by omega⟩;(have e:10^(j+1+d)=10^j*(10*10^d):=by rw[Nat.pow_add,Nat.pow_succ,Nat.mul_assoc]);rw[e,Nat.mod_mul_right_div_self,Nat.mod_mul_right_mod]
theorem zl5{a b:List UInt8}{p q E:Int}(ha:AllD a)(hb:AllD b)(h1:E<=p-a.length)(h2:E<=q-b.length)
 (hba:a.length<=100000/\ -50000<=p/\p<=50000) (hbb:b.length<=100000/\ -50000<=q/\q<=50000) (hE: -50000<=E):
 ∀(n:Nat),E+n<=50000->Ev (λk=>zai.l0 k E (E+n-1) (S a) p (S b) q) (cmpN (sv a p E%10^n) (sv b q E%10^n)):=by
 intro n;induction n with
 |zero=>
  intro _;refine Ev.step (f:=λ_=>some (0:Int)) (λk=>?_) ?_
  ·simp only[zai.l0];rw[if_neg (by omega)]
  ·rw[Nat.pow_zero,Nat.mod_one,Nat.mod_one];exact Ev.now _
 |succ n ih=>
  intro hn;have d1:=digit_eq (x:=E+n) ha h1 (by omega) (by omega);have d2:=digit_eq (x:=E+n) hb h2 (by omega) (by omega);(have en:(E+n-E).toNat=n:=by omega);rw[en] at d1 d2;have ht:=zjr (Nat.mod_lt (sv a p E) (Nat.pow_pos (n:=n+1) (show 0<10 by omega))) (Nat.mod_lt (sv b q E) (Nat.pow_pos (n:=n+1) (show 0<10 by omega)));rw[zgC _ _ _ (by omega),zgC _ _ _ (by omega),Nat.pow_succ,Nat.mod_mul_right_mod,Nat.mod_mul_right_mod,<-Nat.pow_succ] at ht;rw[ht];(have ex:E+((n+1:Nat):Int)-1=E+n:=by omega);rw[ex];have hbody: ∀k,zai.l0 (k+1) E (E+n) (S a) p (S b) q=(if sv a p E / 10^n%10<sv b q E / 10^n%10 then some (-1) else if sv b q E / 10^n%10<sv a p E / 10^n%10 then some 1 else zai.l0 k E (E+n-1) (S a) p (S b) q):=by
   intro k;simp only[zai.l0];rw[if_pos (by omega),d1,Option.bind_some,d2,Option.bind_some,zaF (by omega) (by omega)];by_cases c1:sv a p E / 10^n%10<sv b q E / 10^n%10
   ·rw[if_pos c1,if_pos (by omega)]
   ·rw[if_neg c1,if_neg (by omega)];by_cases c2:sv b q E / 10^n%10<sv a p E / 10^n%10
    ·rw[if_pos c2,if_pos (by omega)]
    ·rw[if_neg c2,if_neg (by omega)]
  refine Ev.step hbody ?_;by_cases c1:sv a p E / 10^n%10<sv b q E / 10^n%10
  ·rw[if_pos c1];exact Ev.congr (λk=>by rw[if_pos c1]) (Ev.now _)
  ·rw[if_neg c1];by_cases c2:sv b q E / 10^n%10<sv a p E / 10^n%10
   ·rw[if_pos c2];exact Ev.congr (λk=>by rw[if_neg c1,if_pos c2]) (Ev.now _)
   ·rw[if_neg c2];exact Ev.congr (λk=>by rw[if_neg c1,if_neg c2]) (ih (by omega))
theorem zdq(l:List UInt8)(p:Int)(hb:l.length<=100000/\ -100000<=p/\p<=100000):zbk.f (S l) p=some (p-l.length):=by
 unfold zbk.f;rw[zas,zaF (by omega) (by omega)]
theorem zjs{l:List UInt8}(h:AllD l){p E:Int}(hE:E<=p-l.length)(n:Nat)(hn:p-E<=n):sv l p E%10^n=sv l p E:=by
 have h1:=zdF h hE;have:10^(p-E).toNat<=10^n:=Nat.pow_le_pow_right (by omega) (by omega);exact Nat.mod_eq_of_lt (by omega)
theorem zeW{b:List UInt8}{q:Int}(hb:InForm b q)(hn:b≠[])(p:Int):cmpD [] p b q= -1:=by
 unfold cmpD;have h3:0<sv b q (min (p-(([]:List UInt8).length:Int)) (q-b.length)):=Nat.mul_pos (Nat.pos_of_ne_zero (zdW hb.1 hb.2.1 hn)) (Nat.pow_pos (by omega));rw[zdb];simpa [sv,zbP] using h3
theorem zev{a:List UInt8}{p:Int}(ha:InForm a p)(hn:a≠[])(q:Int):cmpD a p [] q=1:=by
 unfold cmpD;have h3:0<sv a p (min (p-(a.length:Int)) (q-(([]:List UInt8).length:Int))):=Nat.mul_pos (Nat.pos_of_ne_zero (zdW ha.1 ha.2.1 hn)) (Nat.pow_pos (by omega));rw[zdl];simpa [sv,zbP] using h3
theorem zl6{a b:List UInt8}{p q:Int}(ha:InForm a p)(hb:InForm b q)(hba:a.length<=10000/\ -20000<=p/\p<=20000)(hbb:b.length<=10000/\ -20000<=q/\q<=20000):
 Ev (λk=>zai.f k (S a) p (S b) q) (cmpD a p b q):=by
 unfold zai.f;rw[zbn,L_S,zbn,L_S];by_cases h1:a=[]
 ·refine Ev.congr (f:=λk=>zai.j0 k (b==[]) (S a) p (S b) q) (λk=>by rw[if_pos h1]) ?_;by_cases h2:b=[]
  ·refine Ev.step (f:=λ_=>some (cmpD a p b q)) (λk=>?_) (Ev.now _);simp only[zai.j0];rw[if_pos (by rw[h2];rfl),h1,h2];unfold cmpD;simp[sv,zbP,cmpN]
  ·refine Ev.step (f:=λ_=>some (cmpD a p b q)) (λk=>?_) (Ev.now _);simp only[zai.j0];rw[if_neg (by simpa using h2),zbn,L_S,if_pos h1,h1,zeW hb h2]
 ·refine Ev.congr (f:=λk=>zai.j0 k false (S a) p (S b) q) (λk=>by rw[if_neg h1]) ?_;by_cases h2:b=[]
  ·refine Ev.step (f:=λ_=>some (cmpD a p b q)) (λk=>?_) (Ev.now _);simp only[zai.j0];rw[if_neg (by simp),zbn,L_S,if_neg h1,zbn,L_S,if_pos h2,h2,zev ha h1]
  ·have key: ∀(E:Int),E=min (p-(a.length:Int)) (q-b.length)-> ∀top:Int,top=max p q->Ev (λk=>zai.l0 k E top (S a) p (S b) q) (cmpD a p b q):=by
    intro E hE top ht;have h3:=zl5 (E:=E) (p:=p) (q:=q) ha.1 hb.1 (by omega) (by omega) (by omega) (by omega) (by omega) (top-E+1).toNat (by omega);(have e:E+((top-E+1).toNat:Int)-1=top:=by omega);rw[e,zjs (E:=E) (p:=p) ha.1 (by omega) _ (by omega),zjs (E:=E) (p:=q) hb.1 (by omega) _ (by omega),<-zih (E:=E) (by omega) (by omega)] at h3;exact h3
   have A: ∀top:Int,top=max p q->Ev (λk=>zai.j1 k top (p-a.length) (S a) p (S b) q) (cmpD a p b q):=by
    intro top ht;by_cases h4:q-(b.length:Int)<p-a.length
    ·refine Ev.step (f:=λk=>zai.j2 k top (q-b.length) (S a) p (S b) q) (λk=>?_) (Ev.step (λk=>rfl) (key _ (by omega) top ht));simp only[zai.j1];rw[zdq b q (by omega),Option.bind_some,if_pos h4,Option.bind_some]
    ·refine Ev.step (f:=λk=>zai.j2 k top (p-a.length) (S a) p (S b) q) (λk=>?_) (Ev.step (λk=>rfl) (key _ (by omega) top ht));simp only[zai.j1];rw[zdq b q (by omega),Option.bind_some,if_neg h4]
   by_cases h5:q>p
   ·refine Ev.step (f:=λk=>zai.j1 k q (p-a.length) (S a) p (S b) q) (λk=>?_) (A q (by omega));simp only[zai.j0];rw[if_neg (by simp),zbn,L_S,if_neg h1,zbn,L_S,if_neg h2,zdq a p (by omega),Option.bind_some,if_pos h5]
   ·refine Ev.step (f:=λk=>zai.j1 k p (p-a.length) (S a) p (S b) q) (λk=>?_) (A p (by omega));simp only[zai.j0];rw[if_neg (by simp),zbn,L_S,if_neg h1,zbn,L_S,if_neg h2,zdq a p (by omega),Option.bind_some,if_neg h5]
end Go.Proofs.YtilidabdbhaljaaGreatDoor.Pure
end
section
namespace Go.Proofs.YtilidabdbhaljaaGreatDoor.Fn
open Go.RowKit Go.Proofs.YtilidabdbhaljaaGreatDoorW.PrintWords Go.Proofs.YtilidabdbhaljaaGreatDoorW.PrintLast Go.Proofs.YtilidabdbhaljaaGreatDoorW.PrintMore
set_option maxHeartbeats 8000000
set_option maxRecDepth 100000
section
attribute [local go_sem] fnW_0 fnW_1 fnW_2 fnW_3 fnW_4 fnW_5 fnW_guard fnW_eql zaC zaD zaI zaJ
def zbf.l0:Nat->List Int->List Int->List Int->Int->Int->Option (ByteArray)
 |0,_,_,_,_,_=>none
 |k+1,x0,x8,x9,B,A=>if A<B then(if 0<=A then(if A<(x9.length:Int) then(if 0<=(wrap64 ((wrap64 ((x0.length:Int)-1))-A)) then(if(wrap64 ((wrap64 ((x0.length:Int)-1))-A))<(x8.length:Int) then(zbf.l0 k x0 (x8.set ((wrap64 ((wrap64 ((x0.length:Int)-1))-A)):Int).toNat ((48+(rd x9 A))%256)) x9 B (wrap64 (A+1))) else(none)) else(none)) else(none)) else(none)) else(some (strOfNums x8))
def zbf.f(k:Nat)(l0:List Int):Option (ByteArray):=if 0<=(l0.length:Int) then(if((l0.length:Int):Int).toNat<=281474976710656 then(zbf.l0 k l0 (List.replicate ((l0.length:Int):Int).toNat 0) l0 (l0.length:Int) 0) else(none)) else(none)
theorem zbf.calls(k:Nat)(A0:Option Addr)(c0:Nat)(l0:List Int)(r:ByteArray)(w:World)(ao:Kd.C (Kd.int .u8) w A0 l0.length l0)(ap:l0.length<=c0)(h:zbf.f k l0=some r):
  Calls Tryz.prog 92 #[.slice A0 l0.length c0] w λe w'=>e= .returned (.string r)/\Below w.heap.size w w':=by
 have aI:=zaa.mk ao;have aT:=zaa.mk ap;clear ao ap;have HB:=zaa.mk (Below.refl w.heap.size w);have H:(if 0<=(l0.length:Int) then(if((l0.length:Int):Int).toNat<=281474976710656 then(zbf.l0 k l0 (List.replicate ((l0.length:Int):Int).toNat 0) l0 (l0.length:Int) 0) else(none)) else(none))=some r:=h;clear h;by_cases c2:0<=(l0.length:Int);case neg=>
  replace H:=hN H c2;exact absurd H (by simp)
 obtain⟨ar,au,H⟩:=hE3 H c2;clear c2;obtain⟨av,aw,H⟩:=hG3 H;obtain⟨af,B⟩: ∃y_:List Int,y_=(List.replicate ((l0.length:Int):Int).toNat 0):=⟨_,rfl⟩;(replace H:(zbf.l0 k l0 af l0 (l0.length:Int) 0)=some r:=by first|(rw[B];with_reducible exact H)|(have K:=(Option.bind_some _ _).symm.trans H;rw[B];with_reducible exact K)|(have K:=(Option.bind_some _ _).symm.trans H;with_reducible exact K)|with_reducible exact H|(rw[B];exact H)|exact H);have O:=zaa.mk B;clear B;have H':=zaa.mk H;clear H;go_enter Tryz.func92,Tryz.ntmps92;go_wp2_with (first|((with_reducible refine zae (N:=8) rfl ?_);refine Kd.R_make (Kd.int .u8) _ 5 rfl (N:=8) rfl 67 _ _ rfl (l0.length:Int) rfl rfl Tryz.underlying67 (.int .u8 0) 1 zdo rfl (by decide) (by omega) 0 (ok:=λ_=>True) (okp:=λ_=>True) rfl (λ_ hk=>hk) trivial (od) (Nat.le_trans (Nat.mul_le_mul_right _ (od:(l0.length:Int).toNat<=281474976710656)) (by omega)) (Below.refl _ _) (Nat.le_refl _) ?_;intro ax w4 U hb hg_ hnew_;clear hg_ hnew_;(first|rw[<-O.out] at U|(simp only[Int.reduceToNat] at U;rw[<-O.out] at U));have X:=zaa.mk (Kd.R_lower U (zay bz));have Y:=bN bz hb;clear HB;have aj:=X;have HB:=Y;clear X Y;clear hb U));go_loopg [11] k (λkq aJ w'=> ∃(J:List Int) (A:Int),aJ= .int .i64 A/\zaa (zbf.l0 kq l0 J l0 (l0.length:Int) A=some r)/\zaa (kq<=k)/\zaa (Kd.R (Kd.int .u8) 5 w' w.heap.size (λ_=>True) ax J)/\zaa (Below w.heap.size w w'));(case atStart=>exact⟨(af),(0),rz,H',⟨Nat.le_refl _⟩,⟨kr aj.out⟩,⟨bz⟩⟩);case round=>
  clear H';(try clear c2);(try clear ar);(try clear au);(try clear av);(try clear aw);obtain⟨J,A,rfl,HA,ay,D,HB⟩:=hrel;cases gk with
  |zero=>exact absurd HA.out (by simp[zbf.l0])
  |succ k1=>
   have H:=HA.out;clear HA;simp only[zbf.l0] at H;by_cases c6:A<(l0.length:Int);case neg=>
    replace H:=hN H c6;have az:=decide_eq_false c6;clear c6;obtain rfl:=Option.some.inj H;have aO:=zcd (P:=Tryz.prog) Tryz.underlying67 Tryz.underlying5 Tryz.underlying9 (Kd.own_of_R D.out);go_wp2;go_ret;exact⟨ez,bz⟩
   replace H:=hE H c6;have az:=decide_eq_true c6;clear c6;obtain⟨c7,H⟩:=hG H;have aP:=decide_eq_true c7;clear c7;obtain⟨c8,H⟩:=hG H;have aQ:=decide_eq_true c8;clear c8;obtain⟨M,Z⟩:=ex (wrap64 ((wrap64 ((l0.length:Int)-1))-A));(first|rw[Z] at H|simp only[Z] at H);have aK:(IntKind.i64.wrap ((wrap64 ((l0.length:Int)-1))-A))=M:=(zbb _).trans Z;obtain⟨aA,H⟩:=hG H;have aL:=decide_eq_true aA;clear aA;obtain⟨aB,H⟩:=hG H;have aM:=decide_eq_true aB;clear aB;obtain⟨aa,E⟩: ∃y_:List Int,y_=(J.set ((M):Int).toNat ((48+(rd l0 A))%256)):=⟨_,rfl⟩;(replace H:(zbf.l0 k1 l0 aa l0 (l0.length:Int) (wrap64 (A+1)))=some r:=by first|(rw[E];with_reducible exact H)|(have K:=(Option.bind_some _ _).symm.trans H;rw[E];with_reducible exact K)|(have K:=(Option.bind_some _ _).symm.trans H;with_reducible exact K)|with_reducible exact H|(rw[E];exact H)|exact H);have ak:=zaa.mk E;clear E;have H':=zaa.mk H;clear H;have ab:0<=(A:Int):=od;have ac:A<(l0.length:Int):=od;obtain⟨aN,aC,I⟩:=Kd.at_int aI.out A ab ac;cases aC;replace I:=(HB.out.cell (World.block_lt_of_cell? w _ I)).trans I;replace ab:=eq_true ab;replace ac:=eq_true ac;have al:0<=((M):Int):=od;have am:((M):Int)<((J.length:Int):Int):=od;obtain⟨ad,aD,ag,ah,aE,aR,ai⟩:=Kd.R_form D.out (by omega);(first|cases ag|(injection ag with ea_ en_ ec_;(first|subst ea_|(injection ea_ with ea_;subst ea_));subst ec_;clear en_));have aF:=zaa.mk ah;have aS:=zaa.mk ai;clear ah aE ai;obtain⟨aG,aH⟩:=Kd.R_celln 0 D.out ((M):Int) al am;replace al:=eq_true al;replace am:=eq_true am;have ae:=Kd.R_putg D.out ((M):Int) ((48+(rd l0 A))%256);go_wp2_with (first|((with_reducible refine zct (t:=5) (p:=24) rfl ?_);refine zck (t:=5) (p:=24) (v:=?vo_w14) (w1:=(wr.setCell ⟨ad,((M):Int).toNat,none⟩ (.int .u8 ((48+(rd l0 A))%256)))) ?hg ?ho ?hn ?hr ?_;(case ho=>rfl);(case hg=>rfl);(case hn=>rfl);(case hr=>first|(go_simp;done)|(go_simp;rfl));intro an hw;have hg:wr.grownBy an (some ad):=(by rw[hw];exact ae.2);have hp_:Kd.R (Kd.int .u8) 5 an w.heap.size (λ_=>True) (.slice (some ⟨ad,0,none⟩) J.length aD) aa:=(by rw[hw,ak.out];exact ae.1);clear ae;have X:=zaa.mk (hp_);have Y:=zaa.mk ((by rw[hw];exact zb5 (HB.out) aF.out:Below w.heap.size w an));clear D HB;have D:=X;have HB:=Y;clear X Y;clear hg hw hp_));go_roundg k1;(case measure=>have:=ay.out;omega);case rel=>exact⟨(aa),(wrap64 (A+1)),rz,H',⟨by have:=ay.out;omega⟩,⟨kr D.out⟩,⟨bz⟩⟩
mutual
def zao.j0:Nat->Int->Int->ByteArray->Int->ByteArray->Int->Option (ByteArray×Int)
 |0,_,_,_,_,_,_=>none
 |k+1,x5,x6,D,E,A,B=>(zbk.f A B).bind λI=>(if I<x6 then((zbk.f A B).bind λJ=>(zao.j1 k x5 J D E A B)) else(zao.j1 k x5 x6 D E A B))
def zao.j1:Nat->Int->Int->ByteArray->Int->ByteArray->Int->Option (ByteArray×Int)
 |0,_,_,_,_,_,_=>none
 |k+1,x5,x6,A,B,D,E=>zao.l0 k x5 ([]:List Int) 0 x6 A B D E
def zao.l0:Nat->Int->List Int->Int->Int->ByteArray->Int->ByteArray->Int->Option (ByteArray×Int)
 |0,_,_,_,_,_,_,_,_=>none
 |k+1,x5,x7,x8,x9,A,B,D,E=>if x9<=x5 then((zbh.f A B x9).bind λJ=>((zbh.f D E x9).bind λK=>(if x7.length<140737488355328 then(zao.l0 k x5 (x7++[(Int.tmod (wrap64 (x8+(wrap64 (J+K)))) 10)%256]) (wrap64 (Int.tdiv (wrap64 (x8+(wrap64 (J+K)))) 10)) (wrap64 (x9+1)) A B D E) else(none)))) else((zbf.f k x7).bind λM=>((zaB.f k M (wrap64 (x5+1))).bind λI=>(some (I.1,I.2))))
end
def zao.f(k:Nat)(B:ByteArray)(A:Int)(E:ByteArray)(D:Int):Option (ByteArray×Int):=if B.toList=([]:List UInt8) then(some (E,D)) else(if E.toList=([]:List UInt8) then(some (B,A)) else((zbk.f B A).bind λI=>(if D>A then(zao.j0 k D I B A E D) else(zao.j0 k A I B A E D))))
def zao.T15:Bool×List (List Nat×List Nat):=(true,[([],[]),([],[]),([],[]),([1,2],[1,2]),([],[]),([],[]),([4,5,3],[4,5]),([3,6],[3,6]),([0,7],[0,7]),([8,6,0,1,2,3,4,5,6,7,8],[0,8])])
def zao.B15:List Nat:=[0,0,0,6,0,0,62,126,255,511]
theorem zao.tab15:rtab .any (opsOf Tryz.f121 15)=zao.T15:=by kernel_rfl
theorem zao.bits15:waitsOk zao.T15.2 zao.B15=true:=by kernel_rfl
theorem zao.calls(k:Nat)(D:ByteArray)(E:Int)(I:ByteArray)(J:Int)(r1:ByteArray)(r2:Int)(w:World)(h:zao.f k D E I J=some (r1,r2)):
  Calls Tryz.prog 121 #[.agg #[.string D,.int .i64 E],.agg #[.string I,.int .i64 J]] w λe w'=>e= .returned (.agg #[.string r1,.int .i64 r2])/\Below w.heap.size w w':=by
 have cT:=Tryz.underlying74;have HB:=zaa.mk (Below.refl w.heap.size w);have H:(if D.toList=([]:List UInt8) then(some (I,J)) else(if I.toList=([]:List UInt8) then(some (D,E)) else((zbk.f D E).bind λak=>(if J>E then(zao.j0 k J ak D E I J) else(zao.j0 k E ak D E I J)))))=some (r1,r2):=h;clear h;go_enter Tryz.func121,Tryz.ntmps121;(go_upto_if 12 with(first|((with_reducible refine zae (N:=2) rfl ?_);refine zaf rfl (N:=2) rfl (cs:=#[.string D,.int .i64 E]) (t:=74) gz ?_;intro O hg w3 hbox hb;have b8:=gN bz hg;have B:=zaa.mk hbox;replace HB:=bN bz hb;clear hb hbox hg)|((with_reducible refine zae (N:=3) rfl ?_);refine zaf rfl (N:=3) rfl (cs:=#[.string I,.int .i64 J]) (t:=74) gz ?_;intro U hg w4 hbox hb;have ca:=gN bz hg;have Y:=lN (g:=O) (cs:=#[.string D,.int .i64 E]) hg bk;have Z:=rN (g:=O) (cs:=#[.string D,.int .i64 E]) hg bk;replace B:=kN (g:=O) (cs:=#[.string D,.int .i64 E]) hb bk;have A:=zaa.mk hbox;replace HB:=bN bz hb;clear hb hbox hg)|((with_reducible refine zae (N:=4) rfl ?_);refine zaf rfl (N:=4) rfl (cs:=#[.string (⟨#[]⟩:ByteArray),.int .i64 0]) (t:=74) gz ?_;intro ac hg w5 hbox hb;have cb:=gN bz hg;have ad:=lN (g:=O) (cs:=#[.string D,.int .i64 E]) hg bk;have ae:=rN (g:=O) (cs:=#[.string D,.int .i64 E]) hg bk;have aa:=lN (g:=U) (cs:=#[.string I,.int .i64 J]) hg bk;have ab:=rN (g:=U) (cs:=#[.string I,.int .i64 J]) hg bk;replace B:=kN (g:=O) (cs:=#[.string D,.int .i64 E]) hb bk;replace A:=kN (g:=U) (cs:=#[.string I,.int .i64 J]) hb bk;have M:=zaa.mk hbox;replace HB:=bN bz hb;clear hb hbox hg;have cV:=Y.out;have cW:=Z.out;have cX:=ad.out;have cY:=ae.out;obtain⟨aE,aG,aH,aI⟩:=cz2 B)));(try simp only[Act.put,sA]);by_cases c9:D.toList=([]:List UInt8)
 (·replace H:=hE H c9;have ah:(D.toList==([]:List UInt8))=true:=beq_iff_eq.mpr c9;have aA:(D.toList !=([]:List UInt8))=false:=bne_eq_false_iff_eq.mpr c9;(have a5:D.toList.isEmpty=true:=by simpa using ah);clear c9;(try first|rw[ah]|rw[aA]|rw[a5]);obtain⟨rfl,rfl⟩:=o2 H;have cc:=Z.out;have cd:=Y.out;have ce:=aa.out;have cf:=ab.out;obtain⟨bo,bp,bq,br⟩:=cz2 A;have cg:=ae.out;have ci:=ad.out;obtain⟨bu,bv,bw,bA⟩:=cz2 M;go_wp2;refine bodyPost_ret (results_cell_row rfl _ _ ac 74 #[.string I,.int .i64 J] (0,0) _ rfl bk Tryz.underlying74 rfl (by kernel_rfl)) rfl ?_;exact⟨ez,bz⟩);replace H:=hN H c9;have ah:(D.toList==([]:List UInt8))=false:=beq_eq_false_iff_ne.mpr c9;have aA:(D.toList !=([]:List UInt8))=true:=bne_iff_ne.mpr c9;(have a5:D.toList.isEmpty=false:=by simpa using ah);(try first|rw[ah]|rw[aA]|rw[a5]);by_cases az:I.toList=([]:List UInt8)
 (·replace H:=hE H az;have ag:(I.toList==([]:List UInt8))=true:=beq_iff_eq.mpr az;have aJ:(I.toList !=([]:List UInt8))=false:=bne_eq_false_iff_eq.mpr az;(have bh:I.toList.isEmpty=true:=by simpa using ag);clear az;obtain⟨rfl,rfl⟩:=o2 H;have cj:=Z.out;have ck:=Y.out;have cm:=aa.out;have cn:=ab.out;obtain⟨bB,bC,bD,bE⟩:=cz2 A;have co:=ad.out;have cp:=ae.out;obtain⟨bG,bH,bI,bJ⟩:=cz2 B;obtain⟨bK,bL,bM,bO⟩:=cz2 M;go_wp2;refine bodyPost_ret (results_cell_row rfl _ _ ac 74 #[.string D,.int .i64 E] (0,0) _ rfl bk Tryz.underlying74 rfl (by kernel_rfl)) rfl ?_;exact⟨ez,bz⟩);replace H:=hN H az;have ag:(I.toList==([]:List UInt8))=false:=beq_eq_false_iff_ne.mpr az;have aJ:(I.toList !=([]:List UInt8))=true:=bne_iff_ne.mpr az;(have bh:I.toList.isEmpty=false:=by simpa using ag);replace H:=bs H;obtain⟨ak,cq,H⟩:=H;have a6:=zaa.mk H;clear H;have cr:=Z.out;have ct:=Y.out;have cu:=aa.out;have cv:=ab.out;obtain⟨al,am,an,ao⟩:=cz2 A;(try go_wp2);replace B:=zaa.mk (zat B.out);replace A:=zaa.mk (zat A.out);replace M:=zaa.mk (zat M.out);replace HB:=zaa.mk (zaT HB.out);refine zbv (n:=6) (S:=λw'=>w'.cell? ⟨O,0,none⟩=some (.string D)/\w'.cell? ⟨O,1,none⟩=some (.int .i64 E)) (ds:=[]) #[false,false,false,false,false,false] (by kernel_rfl) rfl rfl ⟨(zab B.out 0).trans rfl,(zab B.out 1).trans rfl⟩ (λhHeld=>?_);generalize w5.drew=c5 at B A M HB hHeld ⊢;refine zb9 (i:=0) (N:=some 18) (v:=?_) (a':=?_) #[true,false,false,false,false,false] rfl rfl (by kernel_rfl) (λ_ _ _ h=>h) (Or.inl ⟨by rfl,?_⟩) ?_ ?_;rotate_left
 (·intro w';go_simp;with_reducible rfl);rotate_left
 (·simp only[Act.put,sA,zbb,zbo];rfl);refine zc1 (i:=1) (N:=some 19) (v:=?_) (a':=?_) #[true,true,false,false,false,false] rfl rfl (by kernel_rfl) (λ_ _ _ h=>h) (Or.inl ⟨by rfl,?_⟩) hHeld ?_ ?_;rotate_left
 (·rintro w' ⟨s0,s1⟩;go_simp;with_reducible rfl);rotate_left
 (·simp only[Act.put,sA,zbb,zbo];rfl);refine zc1 (i:=2) (N:=some 20) (v:=?_) (a':=?_) #[true,true,true,false,false,false] rfl rfl (by kernel_rfl) (λ_ _ _ h=>h) (Or.inl ⟨by rfl,?_⟩) hHeld ?_ ?_;rotate_left
 (·rintro w' ⟨s0,s1⟩;go_simp;with_reducible rfl);rotate_left
 (·simp only[Act.put,sA,zbb,zbo];rfl);refine one_ (i:=3) (N:=some 21) #[true,true,true,true,false,false] rfl rfl (by kernel_rfl) (by decide) (λK hK=>?_);refine gG Tryz.func120 (zbk.calls D E ak _ cq.out) ?_;intro c6 hb;replace B:=kN (g:=O) (cs:=#[.string D,.int .i64 E]) hb bk;replace A:=kN (g:=U) (cs:=#[.string I,.int .i64 J]) hb bk;replace M:=kN (g:=ac) (cs:=#[.string (⟨#[]⟩:ByteArray),.int .i64 0]) hb bk;replace HB:=bN bz hb;clear hb;refine hK.out _ _ (d2 B) (λhHeld=>?_);clear hK K;refine nz ?_;refine zb9 (i:=4) (N:=some 5) (v:=?_) (a':=?_) #[true,true,true,true,true,false] rfl rfl (by kernel_rfl) (λ_ _ _ h=>h) (Or.inl ⟨by rfl,?_⟩) ?_ ?_;rotate_left
 (·intro w';go_simp;with_reducible rfl);rotate_left
 (·simp only[Act.put,sA,zbb,zbo];rfl);refine zb9 (i:=5) (N:=some 6) (v:=?_) (a':=?_) #[true,true,true,true,true,true] rfl rfl (by kernel_rfl) (λ_ _ _ h=>h) (Or.inl ⟨by rfl,?_⟩) ?_ ?_;rotate_left
 (·intro w';go_simp;with_reducible rfl);rotate_left
 (·simp only[Act.put,sA,zbb,zbo];rfl);refine zdO (by kernel_rfl) ?_;obtain⟨ap,ar,au,av⟩:=cz2 A;(go_upto_if 25 with(fail));go_cut [5] (λv5 wc=> ∃(kq:Nat) (af:Int),v5= .int .i64 af/\zaa (zao.j0 kq af ak D E I J=some (r1,r2))/\zaa (kq<=k)/\zaa (wc.heap[O]? =some (.cells #[.string D,.int .i64 E] 74 (0,0)))/\zaa (wc.heap[U]? =some (.cells #[.string I,.int .i64 J] 74 (0,0)))/\zaa (wc.heap[ac]? =some (.cells #[.string (⟨#[]⟩:ByteArray),.int .i64 0] 74 (0,0)))/\zaa (Below w.heap.size w wc));case first=>
  have H:=a6.out;clear a6;by_cases a2:J>E
  (·replace H:=hE H a2;have aY:decide (E<J)=true:=decide_eq_true a2;clear a2;(try rw[aY]);have H':=zaa.mk H;clear H;have cw:=Z.out;have cx:=Y.out;have cy:=aa.out;have cz:=ab.out;obtain⟨bP,bQ,bR,bS⟩:=cz2 A;go_wp2;go_meet;case rel=>exact⟨_,(J),rz,H',⟨by first|omega|exact Nat.le_refl _⟩,⟨bk⟩,⟨bk⟩,⟨bk⟩,⟨bz⟩⟩);replace H:=hN H a2;have aY:decide (E<J)=false:=decide_eq_false a2;clear a2;(try rw[aY]);have H':=zaa.mk H;clear H;go_wp2;go_meet;case rel=>exact⟨_,(E),rz,H',⟨by first|omega|exact Nat.le_refl _⟩,⟨bk⟩,⟨bk⟩,⟨bk⟩,⟨bz⟩⟩
 case rest=>
  clear a6;(try clear c9);(try clear ah);(try clear aA);(try clear az);(try clear ag);(try clear aJ);(try clear al am an ao);(try clear ap ar au av);(try clear aE aG aH aI);obtain⟨kq,af,rfl,HA,a1,B,A,M,HB⟩:=hcut;cases kq with
  |zero=>exact absurd HA.out (by simp[zao.j0])
  |succ bU=>
   have H:=HA.out;clear HA;simp only[zao.j0] at H;replace H:=bs H;obtain⟨a8,cA,H⟩:=H;have a7:=zaa.mk H;clear H;have cB:=Z.out;have cC:=Y.out;have cD:=aa.out;have cF:=ab.out;obtain⟨aM,aN,aQ,aR⟩:=cz2 A;(go_upto_if 31 with(first|((with_reducible refine zac (f:=120) rfl ?_);refine gB Tryz.func120 (zbk.calls I J a8 _ cA.out) ?_;intro c7 hb;replace B:=kN (g:=O) (cs:=#[.string D,.int .i64 E]) hb bk;replace A:=kN (g:=U) (cs:=#[.string I,.int .i64 J]) hb bk;replace M:=kN (g:=ac) (cs:=#[.string (⟨#[]⟩:ByteArray),.int .i64 0]) hb bk;replace HB:=bN bz hb;clear hb)));(try simp only[Act.put,sA]);go_cut [6] (λv6 wc=> ∃(kq:Nat) (aK:Int),v6= .int .i64 aK/\zaa (zao.j1 kq af aK D E I J=some (r1,r2))/\zaa (kq<=bU)/\zaa (wc.heap[O]? =some (.cells #[.string D,.int .i64 E] 74 (0,0)))/\zaa (wc.heap[U]? =some (.cells #[.string I,.int .i64 J] 74 (0,0)))/\zaa (wc.heap[ac]? =some (.cells #[.string (⟨#[]⟩:ByteArray),.int .i64 0] 74 (0,0)))/\zaa (Below w.heap.size w wc));case first=>
    have H:=a7.out;clear a7;by_cases a3:a8<ak
    (·replace H:=hE H a3;have aZ:=decide_eq_true a3;clear a3;(try rw[aZ]);replace H:=bs H;obtain⟨a9,cG,H⟩:=H;have H':=zaa.mk H;clear H;have cH:=Z.out;have cI:=Y.out;have cJ:=aa.out;have cK:=ab.out;obtain⟨bV,bW,bX,bY⟩:=cz2 A;go_wp2_with (first|((with_reducible refine zac (f:=120) rfl ?_);refine gB Tryz.func120 (zbk.calls I J a9 _ cG.out) ?_;intro c8 hb;replace B:=kN (g:=O) (cs:=#[.string D,.int .i64 E]) hb bk;replace A:=kN (g:=U) (cs:=#[.string I,.int .i64 J]) hb bk;replace M:=kN (g:=ac) (cs:=#[.string (⟨#[]⟩:ByteArray),.int .i64 0]) hb bk;replace HB:=bN bz hb;clear hb));go_meet;case rel=>exact⟨_,(a9),rz,H',⟨by have:=a1.out;first|omega|exact Nat.le_refl _⟩,⟨bk⟩,⟨bk⟩,⟨bk⟩,⟨bz⟩⟩);replace H:=hN H a3;have aZ:=decide_eq_false a3;clear a3;(try rw[aZ]);have H':=zaa.mk H;clear H;go_wp2;go_meet;case rel=>exact⟨_,(ak),rz,H',⟨by have:=a1.out;first|omega|exact Nat.le_refl _⟩,⟨bk⟩,⟨bk⟩,⟨bk⟩,⟨bz⟩⟩
   case rest=>
    clear a7;(try clear c9);(try clear ah);(try clear aA);(try clear az);(try clear ag);(try clear aJ);(try clear al am an ao);(try clear ap ar au av);(try clear aM aN aQ aR);(try clear aE aG aH aI);obtain⟨kq,aK,rfl,HA,ba,B,A,M,HB⟩:=hcut;cases kq with
    |zero=>exact absurd HA.out (by simp[zao.j1])
    |succ bb=>
     have H:=HA.out;clear HA;simp only[zao.j1] at H;have H':=zaa.mk H;clear H;go_wp2;go_loopg [7,8,9] bb (λkq v7 v8 v9 w'=> ∃(aw:List Int) (ai:Int) (aj:Int),v8= .int .i64 ai/\v9= .int .i64 aj/\zaa (zao.l0 kq af aw ai aj D E I J=some (r1,r2))/\zaa (kq<=bb)/\zaa (Kd.R (Kd.int .u8) 5 w' w.heap.size (λ_=>True) v7 aw)/\zaa (w'.heap[O]? =some (.cells #[.string D,.int .i64 E] 74 (0,0)))/\zaa (w'.heap[U]? =some (.cells #[.string I,.int .i64 J] 74 (0,0)))/\zaa (w'.heap[ac]? =some (.cells #[.string (⟨#[]⟩:ByteArray),.int .i64 0] 74 (0,0)))/\zaa (Below w.heap.size w w'));(case atStart=>exact⟨(([]:List Int)),(0),(aK),rz,rz,H',⟨Nat.le_refl _⟩,⟨by first|exact Kd.R_nil _ _ _ _ _|exact Kd.N_nil _ _ _ _ _|exact Kd.V_nil _ _ _ _ _|exact Kd.Q_nil _ _ _ _ _|exact Kd.S_nil _ _ _ _ _⟩,⟨bk⟩,⟨bk⟩,⟨bk⟩,⟨bz⟩⟩);case round=>
      clear H';(try clear c9);(try clear ah);(try clear aA);(try clear az);(try clear ag);(try clear aJ);(try clear al am an ao);(try clear ap ar au av);(try clear aM aN aQ aR);(try clear aE aG aH aI);obtain⟨aw,ai,aj,rfl,rfl,HA,bZ,X,B,A,M,HB⟩:=hrel;cases gk with
      |zero=>exact absurd HA.out (by simp[zao.l0])
      |succ k3=>
       have H:=HA.out;clear HA;simp only[zao.l0] at H;by_cases a4:aj<=af;case neg=>
        replace H:=hN H a4;have bi:=decide_eq_false a4;clear a4;replace H:=bs H;obtain⟨be,cN,H⟩:=H;replace H:=bs H;obtain⟨⟨bf,bg⟩,cO,H⟩:=H;dsimp only at H;obtain⟨rfl,rfl⟩:=o2 H;obtain⟨b1,b2,b3⟩:=Kd.R_slice X.out;subst b3;go_wp2_with (first|((with_reducible refine zac (f:=92) rfl ?_);refine zbm (some 58) rfl rfl Tryz.func92 (by kernel_rfl) rfl #[.slice b1 aw.length b2] rfl lz ?_;(with_reducible refine(zbf.calls k3 _ _ aw be _ ?side1 ?side2 cN.out).mono ?_);(case side1=>exact kc (Kd.R_reads' X.out).2.2);(case side2=>exact(Kd.R_reads' X.out).2.1);rintro e de ⟨rfl,hb⟩;refine⟨_,rfl,?_⟩;have aT:=zaa.mk (Kd.R_below (kr X.out) hb);have aU:=kN (g:=O) (cs:=#[.string D,.int .i64 E]) hb bk;have aV:=kN (g:=U) (cs:=#[.string I,.int .i64 J]) hb bk;have aW:=kN (g:=ac) (cs:=#[.string (⟨#[]⟩:ByteArray),.int .i64 0]) hb bk;have aX:=bN bz hb;clear X B A M HB;have X:=aT;have B:=aU;have A:=aV;have M:=aW;have HB:=aX;clear aT aU aV aW aX;(try clear hb);(try clear df);(try clear hk);(try clear hi))|((with_reducible refine zac (f:=91) rfl ?_);refine gB Tryz.func91 (zaB.calls k3 be (wrap64 (af+1)) bf bg _ cO.out) ?_;intro dh hb;have aT:=zaa.mk (Kd.R_below (kr X.out) hb);have aU:=kN (g:=O) (cs:=#[.string D,.int .i64 E]) hb bk;have aV:=kN (g:=U) (cs:=#[.string I,.int .i64 J]) hb bk;have aW:=kN (g:=ac) (cs:=#[.string (⟨#[]⟩:ByteArray),.int .i64 0]) hb bk;have aX:=bN bz hb;clear X B A M HB;have X:=aT;have B:=aU;have A:=aV;have M:=aW;have HB:=aX;clear aT aU aV aW aX;clear hb;have cP:=ae.out;have cQ:=ad.out;have cR:=ab.out;have cS:=aa.out;obtain⟨b4,b5,b6,b7⟩:=cz2 M));refine bodyPost_ret (results_cell_row rfl _ _ ac 74 #[.string bf,.int .i64 bg] (0,0) _ rfl bk Tryz.underlying74 rfl (by kernel_rfl)) rfl ?_;exact⟨ez,bz⟩
       replace H:=hE H a4;have bi:=decide_eq_true a4;clear a4;replace H:=bs H;obtain⟨aC,cL,H⟩:=H;replace H:=bs H;obtain⟨aD,cM,H⟩:=H;obtain⟨b0,H⟩:=hG H;have bj:=zaa.mk b0;clear b0;obtain⟨bd,ax⟩: ∃y_:List Int,y_=(aw++[(Int.tmod (wrap64 (ai+(wrap64 (aC+aD)))) 10)%256]):=⟨_,rfl⟩;(replace H:(zao.l0 k3 af bd (wrap64 (Int.tdiv (wrap64 (ai+(wrap64 (aC+aD)))) 10)) (wrap64 (aj+1)) D E I J)=some (r1,r2):=by first|(rw[ax];with_reducible exact H)|(have bl:=(Option.bind_some _ _).symm.trans H;rw[ax];with_reducible exact bl)|(have bl:=(Option.bind_some _ _).symm.trans H;with_reducible exact bl)|with_reducible exact H|(rw[ax];exact H)|exact H);have bm:=zaa.mk ax;clear ax;have H':=zaa.mk H;clear H;(try go_wp2);replace X:=zaa.mk (Kd.R_drew X.out);replace B:=zaa.mk (zat B.out);replace A:=zaa.mk (zat A.out);replace M:=zaa.mk (zat M.out);replace HB:=zaa.mk (zaT HB.out);refine zbv (n:=10) (S:=λw'=>w'.cell? ⟨O,0,none⟩=some (.string D)/\w'.cell? ⟨O,1,none⟩=some (.int .i64 E)/\w'.cell? ⟨U,0,none⟩=some (.string I)/\w'.cell? ⟨U,1,none⟩=some (.int .i64 J)) (ds:=[]) #[false,false,false,false,false,false,false,false,false,false] (by kernel_rfl) rfl rfl ⟨(zab B.out 0).trans rfl,(zab B.out 1).trans rfl,(zab A.out 0).trans rfl,(zab A.out 1).trans rfl⟩ (λhHeld=>?_);refine zbj zao.tab15 zao.bits15 (λay HW_=>?_);generalize wr.drew=da at X B A M HB hHeld ⊢;refine pz (i:=0) (N:=40) ay ?_;refine pz (i:=2) (N:=42) ay ?_;refine pz (i:=5) (N:=45) ay ?_;refine tz (i:=1) (N:=41) rfl ay HW_ hHeld (by(rintro w' ⟨s0,s1,s2,s3⟩;go_simp;with_reducible rfl)) ?_;refine tz (i:=4) (N:=44) rfl ay HW_ hHeld (by(rintro w' ⟨s0,s1,s2,s3⟩;go_simp;with_reducible rfl)) ?_;refine oz (i:=3) (N:=some 43) ay λK hK=>?_;refine gG Tryz.func123 (zbh.calls D E aj aC _ cL.out) ?_;intro db hb;replace X:=zaa.mk (Kd.R_below (kr X.out) hb);replace B:=kN (g:=O) (cs:=#[.string D,.int .i64 E]) hb bk;replace A:=kN (g:=U) (cs:=#[.string I,.int .i64 J]) hb bk;replace M:=kN (g:=ac) (cs:=#[.string (⟨#[]⟩:ByteArray),.int .i64 0]) hb bk;replace HB:=bN bz hb;clear hb;refine hK.out _ _ ⟨bc B 0,bc B 1,bc A 0,bc A 1⟩ (λhHeld=>?_);clear hK K;refine nz ?_;refine oz (i:=6) (N:=some 46) ay λK hK=>?_;refine gG Tryz.func123 (zbh.calls I J aj aD _ cM.out) ?_;intro dc hb;replace X:=zaa.mk (Kd.R_below (kr X.out) hb);replace B:=kN (g:=O) (cs:=#[.string D,.int .i64 E]) hb bk;replace A:=kN (g:=U) (cs:=#[.string I,.int .i64 J]) hb bk;replace M:=kN (g:=ac) (cs:=#[.string (⟨#[]⟩:ByteArray),.int .i64 0]) hb bk;replace HB:=bN bz hb;clear hb;refine hK.out _ _ ⟨bc B 0,bc B 1,bc A 0,bc A 1⟩ (λhHeld=>?_);clear hK K;refine nz ?_;refine pz (i:=7) (N:=47) ay ?_;refine pz (i:=8) (N:=48) ay ?_;refine pz (i:=9) (N:=8) ay ?_;refine dz ay ?_;(try go_wp2_with (first|((with_reducible refine zcb (b:=.append) (xs:=#[.tmp 49,.tmp 53]) rfl ?_);at_builtin;refine Kd.R_append (Kd.int .u8) (w0:=w) w.heap.size rfl (.tmp 49) (.tmp 53) 109 5 (.int .u8 0) 1 rfl Tryz.underlying109 zdo rfl (by decide) (by omega) u7 aw ((Int.tmod (wrap64 (ai+(wrap64 (aC+aD)))) 10)%256) [.int .u8 ((Int.tmod (wrap64 (ai+(wrap64 (aC+aD)))) 10)%256)] (λ_=>True) (λ_=>False) rfl rfl ?aP (λ_ hk=>hk.elim) ?aF ?aO ?aB ?aS ?aL ?_;(case aP=>exact rfl);(case aB=>exact bz);(case aF=>exact(λ_ _=>trivial));(case aO=>exact(kr X.out));(case aS=>exact(zay bz));(case aL=>have:=bj.out;omega);intro cZ dd ho hb hg hat;rw[<-bm.out] at ho;have aT:=zaa.mk (zbR (g:=O) (o:=.cells #[.string D,.int .i64 E] 74 (0,0)) bk hg (Kd.R_ne X.out B.out (by decide)));have aU:=zaa.mk (zbR (g:=U) (o:=.cells #[.string I,.int .i64 J] 74 (0,0)) bk hg (Kd.R_ne X.out A.out (by decide)));have aV:=zaa.mk (zbR (g:=ac) (o:=.cells #[.string (⟨#[]⟩:ByteArray),.int .i64 0] 74 (0,0)) bk hg (Kd.R_ne X.out M.out (by decide)));have aW:=zaa.mk (hb);have aX:=zaa.mk (ho);clear B A M HB X;have B:=aT;have A:=aU;have M:=aV;have HB:=aW;have bn:=aX;clear aT aU aV aW aX;clear ho hb hg hat)));go_roundg k3;(case measure=>have:=a1.out;have:=ba.out;have:=bZ.out;omega);case rel=>exact⟨(bd),(wrap64 (Int.tdiv (wrap64 (ai+(wrap64 (aC+aD)))) 10)),(wrap64 (aj+1)),rz,rz,H',⟨by have:=a1.out;have:=ba.out;have:=bZ.out;omega⟩,⟨kr bn.out⟩,⟨bk⟩,⟨bk⟩,⟨bk⟩,⟨bz⟩⟩
mutual
def za7.l0:Nat->List Int->Int->Int->Int->Int->Option (List Int)
 |0,_,_,_,_,_=>none
 |k+1,x0,x1,x5,x9,A=>if A<x9 then(if 0<=A then(if A<(x0.length:Int) then(za7.l0 k (x0.set (A:Int).toNat (Int.tmod (IntKind.u64.wrap ((IntKind.u64.wrap ((rd x0 A)*x1))+x5)) 1000000000)) x1 (IntKind.u64.wrap (Int.tdiv (IntKind.u64.wrap ((IntKind.u64.wrap ((rd x0 A)*x1))+x5)) 1000000000)) x9 (wrap64 (A+1))) else(none)) else(none)) else(za7.l1 k x0 x5)
def za7.l1:Nat->List Int->Int->Option (List Int)
 |0,_,_=>none
 |k+1,x0,x5=>if x5>0 then(if x0.length<17592186044416 then(za7.l1 k (x0++[Int.tmod x5 1000000000]) (IntKind.u64.wrap (Int.tdiv x5 1000000000))) else(none)) else(some x0)
end
def za7.f(k:Nat)(l0:List Int)(a1:Int):Option (List Int):=za7.l0 k l0 a1 0 (l0.length:Int) 0
theorem za7.calls(k:Nat)(J:Nat->Prop)(U:Value)(l0:List Int)(a1:Int)(r:List Int)(w0 w:World)(hB:Below w0.heap.size w0 w)(aI:Kd.R (Kd.int .u64) 22 w w0.heap.size J U l0)(h:za7.f k l0 a1=some r):
  Calls Tryz.prog 129 #[U,.int .u64 a1] w λe w'=> ∃av:Value,e= .returned (av)/\Kd.R (Kd.int .u64) 22 w' w0.heap.size (λk_=>(J k_\/w.heap.size<=k_)) av r/\Below w0.heap.size w0 w'/\Kept w w' (λk_=>J k_):=by
 have aw:=zaa.mk (show Kd.R (Kd.int .u64) 22 w w0.heap.size (λk_=>(J k_\/w.heap.size<=k_)) U l0 from Kd.R_mono aI (λk_ hk=>(.inl hk)));have HK:=zaa.mk (Kept.refl w (λk_=>J k_));have aY:=zaa.mk hB.size;have HB:=zaa.mk hB;clear hB;have H:(za7.l0 k l0 a1 0 (l0.length:Int) 0)=some r:=h;clear h;have H':=zaa.mk H;clear H;obtain⟨aJ,ax,aK⟩:=Kd.R_slice aw.out;subst aK;go_enter Tryz.func129,Tryz.ntmps129;go_wp2;go_loopg [5,10] k (λkq v5 aM w'=> ∃(D:List Int) (K:Int) (A:Int),v5= .int .u64 K/\aM= .int .i64 A/\zaa (za7.l0 kq D a1 K (l0.length:Int) A=some r)/\zaa (kq<=k)/\zaa (Kd.R (Kd.int .u64) 22 w' w0.heap.size (λk_=>(J k_\/w.heap.size<=k_)) (.slice aJ l0.length ax) D)/\zaa (Kept w w' (λk_=>J k_))/\zaa (Below w0.heap.size w0 w'));(case atStart=>exact⟨(l0),(0),(0),rz,rz,H',⟨Nat.le_refl _⟩,⟨kr aw.out⟩,⟨by repeat(first|(with_reducible first|exact HK.out|apply Kept.alloc|apply Kept.drewN|apply Kept.drew)|exact HK.out)⟩,⟨bz⟩⟩);case round=>
  clear H';obtain⟨D,K,A,rfl,rfl,HA,ak,B,HK,HB⟩:=hrel;have E:=(Kd.R_reads' B.out).1;rw[E] at B;(try simp only[E]);cases gk with
  |zero=>exact absurd HA.out (by simp[za7.l0])
  |succ k1=>
   have H:=HA.out;clear HA;simp only[za7.l0] at H;by_cases c4:A<(l0.length:Int)
   (·replace H:=hE H c4;have Z:=decide_eq_true c4;(try(have ab:=Z;(first|rw[E] at ab);skip));clear c4;obtain⟨c5,H⟩:=hG H;have aW:=decide_eq_true c5;clear c5;obtain⟨c6,H⟩:=hG H;have ay:=decide_eq_true c6;(try(have az:=ay;(first|rw[E] at az);skip));clear c6;obtain⟨ac,M⟩: ∃y_:List Int,y_=(D.set (A:Int).toNat (Int.tmod (IntKind.u64.wrap ((IntKind.u64.wrap ((rd D A)*a1))+K)) 1000000000)):=⟨_,rfl⟩;(replace H:(za7.l0 k1 ac a1 (IntKind.u64.wrap (Int.tdiv (IntKind.u64.wrap ((IntKind.u64.wrap ((rd D A)*a1))+K)) 1000000000)) (l0.length:Int) (wrap64 (A+1)))=some r:=by first|(rw[M];with_reducible exact H)|(have Y:=(Option.bind_some _ _).symm.trans H;rw[M];with_reducible exact Y)|(have Y:=(Option.bind_some _ _).symm.trans H;with_reducible exact Y)|with_reducible exact H|(rw[M];exact H)|exact H);have am:=zaa.mk M;clear M;have H':=zaa.mk H;clear H;have ad:0<=(A:Int):=od;have ae:A<(D.length:Int):=od;obtain⟨aN,aA,af⟩:=Kd.at_int (Kd.R_reads' B.out).2.2 A ad ae;cases aA;replace ad:=eq_true ad;replace ae:=eq_true ae;have p7:0<=(A:Int):=od;have q7:(A:Int)<((D.length:Int):Int):=od;obtain⟨ag,aZ,aC,aD,aQ,a2,aE⟩:=Kd.R_form B.out (by omega);(first|cases aC|(injection aC with ea_ en_ ec_;(first|subst ea_|(injection ea_ with ea_;subst ea_));subst ec_;clear en_));have aR:=zaa.mk aD;have a3:=zaa.mk aE;clear aD aQ aE;have aT:=zaa.mk (show(J ag\/w.heap.size<=ag) from(B.out.1 _ rfl));(first|simp only[add_plain] at af|skip);obtain⟨aU,aV⟩:=Kd.R_celln 0 B.out (A:Int) p7 q7;replace p7:=eq_true p7;replace q7:=eq_true q7;have an:=Kd.R_putg B.out (A:Int) (Int.tmod (IntKind.u64.wrap ((IntKind.u64.wrap ((rd D A)*a1))+K)) 1000000000);go_wp2_with (first|((with_reducible refine zct (t:=22) (p:=26) rfl ?_);refine zck (t:=22) (p:=26) (v:=?vo_w9) (w1:=(wr.setCell ⟨ag,(A:Int).toNat,none⟩ (.int .u64 (Int.tmod (IntKind.u64.wrap ((IntKind.u64.wrap ((rd D A)*a1))+K)) 1000000000)))) ?hg ?ho ?hn ?hr ?_;(case ho=>rfl);(case hg=>rfl);(case hn=>rfl);(case hr=>first|(go_simp;done)|(go_simp;rfl));intro w9 hw;have hg:wr.grownBy w9 (some ag):=(by rw[hw];exact an.2);have hp_:Kd.R (Kd.int .u64) 22 w9 w0.heap.size (λk_=>(J k_\/w.heap.size<=k_)) (.slice (some ⟨ag,0,none⟩) D.length ax) ac:=(by rw[hw,am.out];exact an.1);clear an;have ah:=zaa.mk (hp_);have ai:=zaa.mk ((by rw[hw];exact zb5 (HB.out) aR.out:Below w0.heap.size w0 w9));have aj:=zaa.mk (Kept.of_grown (S:=(λk_=>J k_)) hg (by repeat(first|(with_reducible first|exact HK.out|apply Kept.alloc|apply Kept.drewN|apply Kept.drew)|exact HK.out)) (λk_ e_=>(B.out.1 k_ e_)));clear B HB HK;have B:=ah;have HB:=ai;have HK:=aj;clear ah ai aj;clear hg hw hp_));(try simp only[<-E]);go_roundg k1;(case measure=>have:=ak.out;omega);case rel=>exact⟨(ac),(IntKind.u64.wrap (Int.tdiv (IntKind.u64.wrap ((IntKind.u64.wrap ((rd D A)*a1))+K)) 1000000000)),(wrap64 (A+1)),rz,rz,H',⟨by have:=ak.out;omega⟩,⟨by(try simp only[E]);(with_reducible repeat(first|apply Kd.R_alloc|apply Kd.R_drewN|apply Kd.R_drew));exact B.out⟩,⟨by repeat(first|(with_reducible first|exact HK.out|apply Kept.alloc|apply Kept.drewN|apply Kept.drew)|exact HK.out)⟩,⟨bz⟩⟩);replace H:=hN H c4;have Z:=decide_eq_false c4;(try(have ab:=Z;(first|rw[E] at ab);skip));clear c4;have H':=zaa.mk H;clear H;go_wp2;go_loopg [0,5] k1 (λkq v0 v5 w'=> ∃(X:List Int) (I:Int),v5= .int .u64 I/\zaa (za7.l1 kq X I=some r)/\zaa (kq<=k1)/\zaa (Kd.R (Kd.int .u64) 22 w' w0.heap.size (λk_=>(J k_\/w.heap.size<=k_)) v0 X)/\zaa (Kept w w' (λk_=>J k_))/\zaa (Below w0.heap.size w0 w'));(case atStart=>exact⟨(D),(K),rz,H',⟨Nat.le_refl _⟩,⟨by(try simp only[E]);(with_reducible repeat(first|apply Kd.R_alloc|apply Kd.R_drewN|apply Kd.R_drew));exact B.out⟩,⟨by repeat(first|(with_reducible first|exact HK.out|apply Kept.alloc|apply Kept.drewN|apply Kept.drew)|exact HK.out)⟩,⟨bz⟩⟩);case round=>
    clear H';(try clear c4);(try clear Z);obtain⟨X,I,rfl,HA,aG,B,HK,HB⟩:=hrel;cases gk with
    |zero=>exact absurd HA.out (by simp[za7.l1])
    |succ k2=>
     have H:=HA.out;clear HA;simp only[za7.l1] at H;by_cases aa:I>0
     (·replace H:=hE H aa;have ao:decide (0<I)=true:=decide_eq_true aa;clear aa;obtain⟨aH,H⟩:=hG H;have ap:=zaa.mk aH;clear aH;obtain⟨al,O⟩: ∃y_:List Int,y_=(X++[Int.tmod I 1000000000]):=⟨_,rfl⟩;(replace H:(za7.l1 k2 al (IntKind.u64.wrap (Int.tdiv I 1000000000)))=some r:=by first|(rw[O];with_reducible exact H)|(have Y:=(Option.bind_some _ _).symm.trans H;rw[O];with_reducible exact Y)|(have Y:=(Option.bind_some _ _).symm.trans H;with_reducible exact Y)|with_reducible exact H|(rw[O];exact H)|exact H);have ar:=zaa.mk O;clear O;have H':=zaa.mk H;clear H;go_wp2_with (first|((with_reducible refine zcb (b:=.append) (xs:=#[.tmp 30,.tmp 33]) rfl ?_);at_builtin;refine Kd.R_append (Kd.int .u64) (w0:=w0) w0.heap.size rfl (.tmp 30) (.tmp 33) 152 22 (.int .u64 0) 8 rfl Tryz.underlying152 zjm rfl (by decide) (by omega) u0 X (Int.tmod I 1000000000) [.int .u64 (Int.tmod I 1000000000)] (λk_=>(J k_\/w.heap.size<=k_)) (λ_=>False) rfl rfl ?aP (λ_ hk=>hk.elim) ?aF ?aO ?aB ?aS ?aL ?_;(case aP=>exact rfl);(case aB=>exact bz);(case aF=>exact(λk_ hk=>(.inr (Nat.le_trans (by first|exact HK.out.1|exact(show Kept w _ (λk_=>J k_) from by repeat(first|(with_reducible first|exact HK.out|apply Kept.alloc|apply Kept.drewN|apply Kept.drew)|exact HK.out)).1) hk))));(case aO=>exact(kr B.out));(case aS=>exact(zay bz));(case aL=>have:=ap.out;omega);intro aX a4 ho hb hg hat;rw[<-ar.out] at ho;have ah:=zaa.mk (hb);have ai:=zaa.mk (Kept.of_grown (S:=(λk_=>J k_)) hg (by repeat(first|(with_reducible first|exact HK.out|apply Kept.alloc|apply Kept.drewN|apply Kept.drew)|exact HK.out)) (λk_ e_=>(B.out.1 k_ e_)));have aj:=zaa.mk (ho);clear HB HK B;have HB:=ah;have HK:=ai;have au:=aj;clear ah ai aj;clear ho hb hg hat));go_roundg k2;(case measure=>have:=ak.out;have:=aG.out;omega);case rel=>exact⟨(al),(IntKind.u64.wrap (Int.tdiv I 1000000000)),rz,H',⟨by have:=ak.out;have:=aG.out;omega⟩,⟨by(try simp only[E]);(with_reducible repeat(first|apply Kd.R_alloc|apply Kd.R_drewN|apply Kd.R_drew));exact au.out⟩,⟨by repeat(first|(with_reducible first|exact HK.out|apply Kept.alloc|apply Kept.drewN|apply Kept.drew)|exact HK.out)⟩,⟨bz⟩⟩);replace H:=hN H aa;have ao:decide (0<I)=false:=decide_eq_false aa;clear aa;obtain rfl:=Option.some.inj H;go_wp2;go_ret;exact⟨_,by first|rfl|(simp[zb1,zb2]<;>rfl)|(simp[*,zb1,zb2]<;>rfl),by(with_reducible repeat(first|apply Kd.R_alloc|apply Kd.R_drewN|apply Kd.R_drew));exact B.out,bz,by repeat(first|(with_reducible first|exact HK.out|apply Kept.alloc|apply Kept.drewN|apply Kept.drew)|exact HK.out)⟩
def za0.l0:Nat->List Int->Int->Option (List Int)
 |0,_,_=>none
 |k+1,x0,x3=>if(x0.length:Int)>0 then(if 0<=(wrap64 ((x0.length:Int)-1)) then(if(wrap64 ((x0.length:Int)-1))<(x0.length:Int) then(if(rd x0 (wrap64 ((x0.length:Int)-1)))=x3 then(if(wrap64 ((x0.length:Int)-1))<=(x0.length:Int) then(za0.l0 k (x0.take ((wrap64 ((x0.length:Int)-1)):Int).toNat) x3) else(none)) else(some x0)) else(none)) else(none)) else(some x0)
def za0.f(k:Nat)(l0:List Int):Option (List Int):=za0.l0 k l0 0
theorem za0.calls(k:Nat)(ad:Nat->Prop)(A0:Option Addr)(c0:Nat)(l0:List Int)(r:List Int)(w:World)(aw:Kd.V (Kd.int .u64) 22 w w.heap.size (λk_=>ad k_) (.slice A0 l0.length c0) l0)(h:za0.f k l0=some r):
  Calls Tryz.prog 149 #[.slice A0 l0.length c0] w λe w'=> ∃al:Value,e= .returned (al)/\Kd.V (Kd.int .u64) 22 w' w.heap.size (λk_=>(ad k_\/w.heap.size<=k_)) al r/\Below w.heap.size w w':=by
 have ax:=zaa.mk (show Kd.V (Kd.int .u64) 22 w w.heap.size (λk_=>(ad k_\/w.heap.size<=k_)) (.slice A0 l0.length c0) l0 from Kd.V_mono aw (λk_ hk=>.inl hk));have HB:=zaa.mk (Below.refl w.heap.size w);have H:(za0.l0 k l0 0)=some r:=h;clear h;have H':=zaa.mk H;clear H;go_enter Tryz.func149,Tryz.ntmps149;go_wp2;go_loopg [0] k (λkq v0 w'=> ∃(A:List Int),zaa (za0.l0 kq A 0=some r)/\zaa (kq<=k)/\zaa (Kd.V (Kd.int .u64) 22 w' w.heap.size (λk_=>(ad k_\/w.heap.size<=k_)) v0 A)/\zaa (Below w.heap.size w w'));(case atStart=>exact⟨(l0),H',⟨Nat.le_refl _⟩,⟨kv ax.out⟩,⟨bz⟩⟩);case round=>
  clear H';obtain⟨A,HA,am,B,HB⟩:=hrel;cases gk with
  |zero=>exact absurd HA.out (by simp[za0.l0])
  |succ k1=>
   have H:=HA.out;clear HA;simp only[za0.l0] at H;by_cases c2:(A.length:Int)>0;case neg=>
    replace H:=hN H c2;have an:decide (0<(A.length:Int))=false:=decide_eq_false c2;have ao:decide (0<A.length)=false:=decide_eq_false (by omega);clear c2;obtain rfl:=Option.some.inj H;obtain⟨aK,aL,av⟩:=Kd.V_slice B.out;subst av;go_wp2;go_ret;exact⟨_,by first|rfl|(simp[zb1,zb2]<;>rfl)|(simp[*,zb1,zb2]<;>rfl),by(with_reducible repeat(first|apply Kd.V_alloc|apply Kd.V_drewN|apply Kd.V_drew));exact B.out,bz⟩
   replace H:=hE H c2;have an:decide (0<(A.length:Int))=true:=decide_eq_true c2;have ao:decide (0<A.length)=true:=decide_eq_true (by omega);clear c2;obtain⟨D,U⟩:=ex (wrap64 ((A.length:Int)-1));(first|rw[U] at H|simp only[U] at H);have ay:(IntKind.i64.wrap ((A.length:Int)-1))=D:=(zbb _).trans U;obtain⟨c4,H⟩:=hG H;have aB:=decide_eq_true c4;clear c4;obtain⟨c5,H⟩:=hG H;have aC:=decide_eq_true c5;clear c5;by_cases c6:(rd A (D))=0;case neg=>
    replace H:=hN H c6;obtain⟨ap,ar⟩:=eF c6;obtain rfl:=Option.some.inj H;obtain⟨aI,aJ,au⟩:=Kd.V_slice B.out;subst au;have I:0<=((D):Int):=od;have J:(D)<(A.length:Int):=od;obtain⟨M,Y,Z⟩:=Kd.at_int (Kd.V_reads' B.out).2.2 (D) I J;cases Y;replace I:=eq_true I;replace J:=eq_true J;go_wp2;go_ret;exact⟨_,by first|exact ez|(simp only[<-U];exact ez),by(with_reducible repeat(first|apply Kd.V_alloc|apply Kd.V_drewN|apply Kd.V_drew));exact B.out,bz⟩
   replace H:=hE H c6;obtain⟨ap,ar⟩:=eT c6;clear c6;have aD:=eq_true (od:0<=(D));obtain⟨aE,aF,H⟩:=hG3 H;obtain⟨K,E⟩: ∃y_:List Int,y_=(A.take ((D):Int).toNat):=⟨_,rfl⟩;(replace H:(za0.l0 k1 K 0)=some r:=by first|(rw[E];with_reducible exact H)|(have ah:=(Option.bind_some _ _).symm.trans H;rw[E];with_reducible exact ah)|(have ah:=(Option.bind_some _ _).symm.trans H;with_reducible exact ah)|with_reducible exact H|(rw[E];exact H)|exact H);have X:=zaa.mk E;clear E;have H':=zaa.mk H;clear H;obtain⟨aM,ae,az⟩:=Kd.V_slice B.out;subst az;have I:0<=((D):Int):=od;have J:(D)<(A.length:Int):=od;obtain⟨M,Y,Z⟩:=Kd.at_int (Kd.V_reads' B.out).2.2 (D) I J;cases Y;replace I:=eq_true I;replace J:=eq_true J;have ai:((D):Int)<=((A.length:Int):Int):=od;obtain⟨aG,aa,_,aj,_⟩:=info_parts zjm;have O:A.length<=ae:=(Kd.V_reads' B.out).2.1;have ag:Kd.F (Kd.int .u64) _ _ (some M) A.length A:=(Kd.V_at (base:=w.heap.size) B.out).2.2;have af:=zmO (P:=Tryz.prog) 152 22 .i64 Tryz.underlying152 aa (some M) A.length ae (D) (od) ai O;have ab:=Kd.F_take (m:=((D):Int).toNat) ag (by omega);have ac:K.length=((D):Int).toNat:=(by rw[X.out,List.length_take];omega);rw[<-X.out] at ab;rw[<-ac] at af;have ak:=zaa.mk (show Kd.V (Kd.int .u64) 22 _ w.heap.size _ (.slice (some M) K.length ae) K from Kd.V_mk (by omega) ab);have aA:=zaa.mk (show K.length<=ae from by omega);clear ab ag O aa aj;have aH:=zaa.mk ac;clear ac;replace ai:=eq_true ai;go_wp2;go_roundg k1;(case measure=>have:=am.out;omega);case rel=>exact⟨(K),H',⟨by have:=am.out;omega⟩,⟨kv ak.out⟩,⟨bz⟩⟩
def zbs.l0:Nat->Int->List Int->Option (List Int)
 |0,_,_=>none
 |k+1,x0,x3=>if x0>0 then(if x3.length<140737488355328 then(zbs.l0 k (IntKind.u64.wrap (Int.tdiv x0 10)) (x3++[(Int.tmod x0 10)%256])) else(none)) else(some x3)
def zbs.f(k:Nat)(a0:Int):Option (List Int):=zbs.l0 k a0 ([]:List Int)
theorem zbs.calls(k:Nat)(a0:Int)(r:List Int)(w:World)(h:zbs.f k a0=some r):
  Calls Tryz.prog 89 #[.int .u64 a0] w λe w'=> ∃O:Value,e= .returned (O)/\Kd.R (Kd.int .u8) 5 w' w.heap.size (λ_=>True) O r/\Below w.heap.size w w':=by
 have HB:=zaa.mk (Below.refl w.heap.size w);have H:(zbs.l0 k a0 ([]:List Int))=some r:=h;clear h;have H':=zaa.mk H;clear H;go_enter Tryz.func89,Tryz.ntmps89;go_wp2;go_loopg [0,3] k (λkq v0 v3 w'=> ∃(A:Int) (D:List Int),v0= .int .u64 A/\zaa (zbs.l0 kq A D=some r)/\zaa (kq<=k)/\zaa (Kd.R (Kd.int .u8) 5 w' w.heap.size (λ_=>True) v3 D)/\zaa (Below w.heap.size w w'));(case atStart=>exact⟨(a0),(([]:List Int)),rz,H',⟨Nat.le_refl _⟩,⟨by first|exact Kd.R_nil _ _ _ _ _|exact Kd.N_nil _ _ _ _ _|exact Kd.V_nil _ _ _ _ _|exact Kd.Q_nil _ _ _ _ _|exact Kd.S_nil _ _ _ _ _⟩,⟨bz⟩⟩);case round=>
  clear H';obtain⟨A,D,rfl,HA,U,E,HB⟩:=hrel;cases gk with
  |zero=>exact absurd HA.out (by simp[zbs.l0])
  |succ k1=>
   have H:=HA.out;clear HA;simp only[zbs.l0] at H;by_cases c2:A>0
   (·replace H:=hE H c2;have X:decide (0<A)=true:=decide_eq_true c2;clear c2;obtain⟨c3,H⟩:=hG H;have Y:=zaa.mk c3;clear c3;obtain⟨I,B⟩: ∃y_:List Int,y_=(D++[(Int.tmod A 10)%256]):=⟨_,rfl⟩;(replace H:(zbs.l0 k1 (IntKind.u64.wrap (Int.tdiv A 10)) I)=some r:=by first|(rw[B];with_reducible exact H)|(have J:=(Option.bind_some _ _).symm.trans H;rw[B];with_reducible exact J)|(have J:=(Option.bind_some _ _).symm.trans H;with_reducible exact J)|with_reducible exact H|(rw[B];exact H)|exact H);have K:=zaa.mk B;clear B;have H':=zaa.mk H;clear H;go_wp2_with (first|((with_reducible refine zcb (b:=.append) (xs:=#[.tmp 6,.tmp 10]) rfl ?_);at_builtin;refine Kd.R_append (Kd.int .u8) (w0:=w) w.heap.size rfl (.tmp 6) (.tmp 10) 109 5 (.int .u8 0) 1 rfl Tryz.underlying109 zdo rfl (by decide) (by omega) u3 D ((Int.tmod A 10)%256) [.int .u8 ((Int.tmod A 10)%256)] (λ_=>True) (λ_=>False) rfl rfl ?aP (λ_ hk=>hk.elim) ?aF ?aO ?aB ?aS ?aL ?_;(case aP=>exact rfl);(case aB=>exact bz);(case aF=>exact(λ_ _=>trivial));(case aO=>exact(kr E.out));(case aS=>exact(zay bz));(case aL=>have:=Y.out;omega);intro ab w4 ho hb hg hat;rw[<-K.out] at ho;have Z:=zaa.mk (hb);have aa:=zaa.mk (ho);clear HB E;have HB:=Z;have M:=aa;clear Z aa;clear ho hb hg hat));go_roundg k1;(case measure=>have:=U.out;omega);case rel=>exact⟨(IntKind.u64.wrap (Int.tdiv A 10)),(I),rz,H',⟨by have:=U.out;omega⟩,⟨kr M.out⟩,⟨bz⟩⟩);replace H:=hN H c2;have X:decide (0<A)=false:=decide_eq_false c2;clear c2;obtain rfl:=Option.some.inj H;go_wp2;go_ret;exact⟨_,by first|rfl|(simp[zb1,zb2]<;>rfl)|(simp[*,zb1,zb2]<;>rfl),by(with_reducible repeat(first|apply Kd.R_alloc|apply Kd.R_drewN|apply Kd.R_drew));exact E.out,bz⟩
mutual
def zaz.l0:Nat->Int->List Int->Int->List Int->Int->Int->Option (List Int)
 |0,_,_,_,_,_,_=>none
 |k+1,x1,x5,x6,x9,B,A=>if A<B then(if 0<=A then(if A<(x9.length:Int) then(if x5.length<140737488355328 then(zaz.l0 k x1 (x5++[(Int.tmod (wrap64 (x6+(wrap64 ((wrap64 (rd x9 A))*x1)))) 10)%256]) (wrap64 (Int.tdiv (wrap64 (x6+(wrap64 ((wrap64 (rd x9 A))*x1)))) 10)) x9 B (wrap64 (A+1))) else(none)) else(none)) else(none)) else(zaz.l1 k x5 x6)
def zaz.l1:Nat->List Int->Int->Option (List Int)
 |0,_,_=>none
 |k+1,x5,x6=>if x6>0 then(if x5.length<140737488355328 then(zaz.l1 k (x5++[(Int.tmod x6 10)%256]) (wrap64 (Int.tdiv x6 10))) else(none)) else(some x5)
end
def zaz.f(k:Nat)(l0:List Int)(a1:Int):Option (List Int):=zaz.l0 k a1 ([]:List Int) 0 l0 (l0.length:Int) 0
theorem zaz.calls(k:Nat)(A0:Option Addr)(c0:Nat)(l0:List Int)(a1:Int)(r:List Int)(w:World)(aj:Kd.C (Kd.int .u8) w A0 l0.length l0)(ak:l0.length<=c0)(h:zaz.f k l0 a1=some r):
  Calls Tryz.prog 90 #[.slice A0 l0.length c0,.int .i64 a1] w λe w'=> ∃al:Value,e= .returned (al)/\Kd.R (Kd.int .u8) 5 w' w.heap.size (λ_=>True) al r/\Below w.heap.size w w':=by
 have au:=zaa.mk aj;have aC:=zaa.mk ak;clear aj ak;have HB:=zaa.mk (Below.refl w.heap.size w);have H:(zaz.l0 k a1 ([]:List Int) 0 l0 (l0.length:Int) 0)=some r:=h;clear h;have H':=zaa.mk H;clear H;go_enter Tryz.func90,Tryz.ntmps90;go_wp2;go_loopg [5,6,11] k (λkq v5 v6 av w'=> ∃(M:List Int) (D:Int) (A:Int),v6= .int .i64 D/\av= .int .i64 A/\zaa (zaz.l0 kq a1 M D l0 (l0.length:Int) A=some r)/\zaa (kq<=k)/\zaa (Kd.R (Kd.int .u8) 5 w' w.heap.size (λ_=>True) v5 M)/\zaa (Below w.heap.size w w'));(case atStart=>exact⟨(([]:List Int)),(0),(0),rz,rz,H',⟨Nat.le_refl _⟩,⟨by first|exact Kd.R_nil _ _ _ _ _|exact Kd.N_nil _ _ _ _ _|exact Kd.V_nil _ _ _ _ _|exact Kd.Q_nil _ _ _ _ _|exact Kd.S_nil _ _ _ _ _⟩,⟨bz⟩⟩);case round=>
  clear H';obtain⟨M,D,A,rfl,rfl,HA,ab,E,HB⟩:=hrel;cases gk with
  |zero=>exact absurd HA.out (by simp[zaz.l0])
  |succ k1=>
   have H:=HA.out;clear HA;simp only[zaz.l0] at H;by_cases c3:A<(l0.length:Int)
   (·replace H:=hE H c3;have ac:=decide_eq_true c3;clear c3;obtain⟨c4,H⟩:=hG H;have ax:=decide_eq_true c4;clear c4;obtain⟨c5,H⟩:=hG H;have ay:=decide_eq_true c5;clear c5;obtain⟨c6,H⟩:=hG H;have am:=zaa.mk c6;clear c6;obtain⟨ad,I⟩: ∃y_:List Int,y_=(M++[(Int.tmod (wrap64 (D+(wrap64 ((wrap64 (rd l0 A))*a1)))) 10)%256]):=⟨_,rfl⟩;(replace H:(zaz.l0 k1 a1 ad (wrap64 (Int.tdiv (wrap64 (D+(wrap64 ((wrap64 (rd l0 A))*a1)))) 10)) l0 (l0.length:Int) (wrap64 (A+1)))=some r:=by first|(rw[I];with_reducible exact H)|(have U:=(Option.bind_some _ _).symm.trans H;rw[I];with_reducible exact U)|(have U:=(Option.bind_some _ _).symm.trans H;with_reducible exact U)|with_reducible exact H|(rw[I];exact H)|exact H);have af:=zaa.mk I;clear I;have H':=zaa.mk H;clear H;have X:0<=(A:Int):=od;have Y:A<(l0.length:Int):=od;obtain⟨aw,an,J⟩:=Kd.at_int au.out A X Y;cases an;replace J:=(HB.out.cell (World.block_lt_of_cell? w _ J)).trans J;replace X:=eq_true X;replace Y:=eq_true Y;go_wp2_with (first|((with_reducible refine zcb (b:=.append) (xs:=#[.tmp 21,.tmp 25]) rfl ?_);at_builtin;refine Kd.R_append (Kd.int .u8) (w0:=w) w.heap.size rfl (.tmp 21) (.tmp 25) 109 5 (.int .u8 0) 1 rfl Tryz.underlying109 zdo rfl (by decide) (by omega) u5 M ((Int.tmod (wrap64 (D+(wrap64 ((wrap64 (rd l0 A))*a1)))) 10)%256) [.int .u8 ((Int.tmod (wrap64 (D+(wrap64 ((wrap64 (rd l0 A))*a1)))) 10)%256)] (λ_=>True) (λ_=>False) rfl rfl ?aP (λ_ hk=>hk.elim) ?aF ?aO ?aB ?aS ?aL ?_;(case aP=>exact rfl);(case aB=>exact bz);(case aF=>exact(λ_ _=>trivial));(case aO=>exact(kr E.out));(case aS=>exact(zay bz));(case aL=>have:=am.out;omega);intro az w7 ho hb hg hat;rw[<-af.out] at ho;have Z:=zaa.mk (hb);have aa:=zaa.mk (ho);clear HB E;have HB:=Z;have ag:=aa;clear Z aa;clear ho hb hg hat));go_roundg k1;(case measure=>have:=ab.out;omega);case rel=>exact⟨(ad),(wrap64 (Int.tdiv (wrap64 (D+(wrap64 ((wrap64 (rd l0 A))*a1)))) 10)),(wrap64 (A+1)),rz,rz,H',⟨by have:=ab.out;omega⟩,⟨kr ag.out⟩,⟨bz⟩⟩);replace H:=hN H c3;have ac:=decide_eq_false c3;clear c3;have H':=zaa.mk H;clear H;go_wp2;go_loopg [5,6] k1 (λkq v5 v6 w'=> ∃(O:List Int) (B:Int),v6= .int .i64 B/\zaa (zaz.l1 kq O B=some r)/\zaa (kq<=k1)/\zaa (Kd.R (Kd.int .u8) 5 w' w.heap.size (λ_=>True) v5 O)/\zaa (Below w.heap.size w w'));(case atStart=>exact⟨(M),(D),rz,H',⟨Nat.le_refl _⟩,⟨kr E.out⟩,⟨bz⟩⟩);case round=>
    clear H';(try clear c3);(try clear ac);obtain⟨O,B,rfl,HA,ao,E,HB⟩:=hrel;cases gk with
    |zero=>exact absurd HA.out (by simp[zaz.l1])
    |succ k2=>
     have H:=HA.out;clear HA;simp only[zaz.l1] at H;by_cases c8:B>0
     (·replace H:=hE H c8;have ap:decide (0<B)=true:=decide_eq_true c8;clear c8;obtain⟨c9,H⟩:=hG H;have ar:=zaa.mk c9;clear c9;obtain⟨ae,K⟩: ∃y_:List Int,y_=(O++[(Int.tmod B 10)%256]):=⟨_,rfl⟩;(replace H:(zaz.l1 k2 ae (wrap64 (Int.tdiv B 10)))=some r:=by first|(rw[K];with_reducible exact H)|(have U:=(Option.bind_some _ _).symm.trans H;rw[K];with_reducible exact U)|(have U:=(Option.bind_some _ _).symm.trans H;with_reducible exact U)|with_reducible exact H|(rw[K];exact H)|exact H);have ah:=zaa.mk K;clear K;have H':=zaa.mk H;clear H;go_wp2_with (first|((with_reducible refine zcb (b:=.append) (xs:=#[.tmp 32,.tmp 36]) rfl ?_);at_builtin;refine Kd.R_append (Kd.int .u8) (w0:=w) w.heap.size rfl (.tmp 32) (.tmp 36) 109 5 (.int .u8 0) 1 rfl Tryz.underlying109 zdo rfl (by decide) (by omega) u5 O ((Int.tmod B 10)%256) [.int .u8 ((Int.tmod B 10)%256)] (λ_=>True) (λ_=>False) rfl rfl ?aP (λ_ hk=>hk.elim) ?aF ?aO ?aB ?aS ?aL ?_;(case aP=>exact rfl);(case aB=>exact bz);(case aF=>exact(λ_ _=>trivial));(case aO=>exact(kr E.out));(case aS=>exact(zay bz));(case aL=>have:=ar.out;omega);intro aA aD ho hb hg hat;rw[<-ah.out] at ho;have Z:=zaa.mk (hb);have aa:=zaa.mk (ho);clear HB E;have HB:=Z;have ai:=aa;clear Z aa;clear ho hb hg hat));go_roundg k2;(case measure=>have:=ab.out;have:=ao.out;omega);case rel=>exact⟨(ae),(wrap64 (Int.tdiv B 10)),rz,H',⟨by have:=ab.out;have:=ao.out;omega⟩,⟨kr ai.out⟩,⟨bz⟩⟩);replace H:=hN H c8;have ap:decide (0<B)=false:=decide_eq_false c8;clear c8;obtain rfl:=Option.some.inj H;go_wp2;go_ret;exact⟨_,by first|rfl|(simp[zb1,zb2]<;>rfl)|(simp[*,zb1,zb2]<;>rfl),by(with_reducible repeat(first|apply Kd.R_alloc|apply Kd.R_drewN|apply Kd.R_drew));exact E.out,bz⟩
mutual
def zaA.j0:Nat->Int->Int->Bool->Option (ByteArray×Int×Int)
 |0,_,_,_=>none
 |k+1,x0,x1,B=>if B=true then(some ((⟨#[]⟩:ByteArray),0,1)) else((zbs.f k x0).bind λA=>(zaA.l0 k x1 A 0 0))
def zaA.l0:Nat->Int->List Int->Int->Int->Option (ByteArray×Int×Int)
 |0,_,_,_,_=>none
 |k+1,x1,x6,x7,x8=>if x8<x1 then((zaz.f k x6 2).bind λA=>(zaA.l0 k x1 A x7 (wrap64 (x8+1)))) else(zaA.l1 k x1 x6 x7 0)
def zaA.l1:Nat->Int->List Int->Int->Int->Option (ByteArray×Int×Int)
 |0,_,_,_,_=>none
 |k+1,x1,x6,x7,x9=>if x9>x1 then((zaz.f k x6 5).bind λB=>(zaA.l1 k x1 B (wrap64 (x7+1)) (wrap64 (x9-1)))) else((zbf.f k x6).bind λD=>((zaB.f k D (wrap64 ((x6.length:Int)-x7))).bind λA=>(some (A.1,A.2,0))))
end
def zaA.f(k:Nat)(a0:Int)(a1:Int):Option (ByteArray×Int×Int):=if a1<(-1200) then(zaA.j0 k a0 a1 true) else(zaA.j0 k a0 a1 (decide (a1>1200)))
theorem zaA.calls(k:Nat)(a0:Int)(a1:Int)(r1:ByteArray)(r2:Int)(r3:Int)(w:World)(h:zaA.f k a0 a1=some (r1,r2,r3)):
  Calls Tryz.prog 50 #[.int .u64 a0,.int .i64 a1] w λe w'=>e= .returned (.tuple #[.agg #[.string r1,.int .i64 r2],.int .i64 r3])/\Below w.heap.size w w':=by
 have aV:=Tryz.underlying74;have HB:=zaa.mk (Below.refl w.heap.size w);have H:(if a1<(-1200) then(zaA.j0 k a0 a1 true) else(zaA.j0 k a0 a1 (decide (a1>1200))))=some (r1,r2,r3):=h;clear h;have an:=zaa.mk H;clear H;go_enter Tryz.func50,Tryz.ntmps50;(go_upto_region 1 with(first|((with_reducible refine zae (N:=4) rfl ?_);refine zaf rfl (N:=4) rfl (cs:=#[.string (⟨#[]⟩:ByteArray),.int .i64 0]) (t:=74) gz ?_;intro D hg w4 hbox hb;have aP:=gN bz hg;have B:=zaa.mk hbox;replace HB:=bN bz hb;clear hb hbox hg)));(try simp only[Act.put,sA]);go_cut [15] (λaQ wc=> ∃(kq:Nat) (X:Bool),aQ= .bool X/\zaa (zaA.j0 kq a0 a1 X=some (r1,r2,r3))/\zaa (kq<=k)/\zaa (wc.heap[D]? =some (.cells #[.string (⟨#[]⟩:ByteArray),.int .i64 0] 74 (0,0)))/\zaa (Below w.heap.size w wc));case first=>
  have H:=an.out;clear an;by_cases c5:a1<(-1200)
  (·replace H:=hE H c5;have ac:=decide_eq_true c5;clear c5;(try rw[ac]);have H':=zaa.mk H;clear H;go_wp2;go_meet;case rel=>exact⟨_,(true),rz,H',⟨by first|omega|exact Nat.le_refl _⟩,⟨bk⟩,⟨bz⟩⟩);replace H:=hN H c5;have ac:=decide_eq_false c5;clear c5;(try rw[ac]);have H':=zaa.mk H;clear H;go_wp2;go_meet;case rel=>exact⟨_,(decide (a1>1200)),rz,H',⟨by first|omega|exact Nat.le_refl _⟩,⟨bk⟩,⟨bz⟩⟩
 case rest=>
  clear an;obtain⟨kq,X,rfl,HA,af,B,HB⟩:=hcut;cases kq with
  |zero=>exact absurd HA.out (by simp[zaA.j0])
  |succ ao=>
   have H:=HA.out;clear HA;simp only[zaA.j0] at H;by_cases c6:X=true
   (·subst c6;replace H:=hT H;obtain⟨rfl,rfl,rfl⟩:=o3 H;obtain⟨aL,aM,aN,aO⟩:=cz2 B;go_wp2;refine bodyPost_ret (zaS rfl _ _ D 74 #[.string (⟨#[]⟩:ByteArray),.int .i64 0] (0,0) _ rfl bk Tryz.underlying74 rfl (by kernel_rfl)) rfl ?_;exact⟨ez,bz⟩);replace c6:=Bool.eq_false_iff.mpr c6;subst c6;replace H:=hF H;replace H:=bs H;obtain⟨ah,A8,H⟩:=H;have H':=zaa.mk H;clear H;go_wp2_with (first|((with_reducible refine zac (f:=89) rfl ?_);refine zbm (some 18) rfl rfl Tryz.func89 (by kernel_rfl) rfl #[.int .u64 a0] rfl lz ?_;(with_reducible refine(zbs.calls ao a0 ah _ A8.out).mono ?_);rintro e w9 ⟨aW,rfl,O,hb⟩;refine⟨_,rfl,?_⟩;have E:=zaa.mk (Kd.R_lower O (zay bz));have I:=kN (g:=D) (cs:=#[.string (⟨#[]⟩:ByteArray),.int .i64 0]) hb bk;have J:=bN bz hb;clear B HB;have ap:=E;have B:=I;have HB:=J;clear E I J;(try clear hb);(try clear ar);(try clear hk);(try clear hi);(try clear O)));go_loopg [6,8] ao (λkq v6 v8 w'=> ∃(U:List Int) (Y:Int),v8= .int .i64 Y/\zaa (zaA.l0 kq a1 U 0 Y=some (r1,r2,r3))/\zaa (kq<=ao)/\zaa (Kd.R (Kd.int .u8) 5 w' w.heap.size (λ_=>True) v6 U)/\zaa (w'.heap[D]? =some (.cells #[.string (⟨#[]⟩:ByteArray),.int .i64 0] 74 (0,0)))/\zaa (Below w.heap.size w w'));(case atStart=>exact⟨(ah),(0),rz,H',⟨Nat.le_refl _⟩,⟨kr ap.out⟩,⟨bk⟩,⟨bz⟩⟩);case round=>
    clear H';(try clear c6);obtain⟨U,Y,rfl,HA,ag,A,B,HB⟩:=hrel;cases gk with
    |zero=>exact absurd HA.out (by simp[zaA.l0])
    |succ k2=>
     have H:=HA.out;clear HA;simp only[zaA.l0] at H;by_cases aa:Y<a1
     (·replace H:=hE H aa;have ad:=decide_eq_true aa;clear aa;replace H:=bs H;obtain⟨ai,aR,H⟩:=H;have H':=zaa.mk H;clear H;obtain⟨ax,ay,az⟩:=Kd.R_slice A.out;subst az;go_wp2_with (first|((with_reducible refine zac (f:=90) rfl ?_);refine zbm (some 25) rfl rfl Tryz.func90 (by kernel_rfl) rfl #[.slice ax U.length ay,.int .i64 2] rfl lz ?_;(with_reducible refine(zaz.calls k2 _ _ U 2 ai _ ?side1 ?side2 aR.out).mono ?_);(case side1=>exact kc (Kd.R_reads' A.out).2.2);(case side2=>exact(Kd.R_reads' A.out).2.1);rintro e aZ ⟨aX,rfl,O,hb⟩;refine⟨_,rfl,?_⟩;have E:=zaa.mk (Kd.R_elder' (kr A.out) (Kd.R_base O) hb);have I:=zaa.mk (Kd.R_lower (Kd.R_new' O (Kd.R_lt (kr A.out))) (zay bz));have J:=kN (g:=D) (cs:=#[.string (⟨#[]⟩:ByteArray),.int .i64 0]) hb bk;have ae:=bN bz hb;clear A B HB;have A:=E;have au:=I;have B:=J;have HB:=ae;clear E I J ae;(try clear hb);(try clear ar);(try clear hk);(try clear hi);(try clear O)));go_roundg k2;(case measure=>have:=af.out;have:=ag.out;omega);case rel=>exact⟨(ai),(wrap64 (Y+1)),rz,H',⟨by have:=af.out;have:=ag.out;omega⟩,⟨by(with_reducible repeat(first|apply Kd.R_alloc|apply Kd.R_drewN|apply Kd.R_drew));exact Kd.R_mono au.out (λ_ hk=>trivial)⟩,⟨bk⟩,⟨bz⟩⟩);replace H:=hN H aa;have ad:=decide_eq_false aa;clear aa;have H':=zaa.mk H;clear H;go_wp2;go_loopg [6,7,9] k2 (λkq v6 v7 v9 w'=> ∃(K:List Int) (Z:Int) (M:Int),v7= .int .i64 Z/\v9= .int .i64 M/\zaa (zaA.l1 kq a1 K Z M=some (r1,r2,r3))/\zaa (kq<=k2)/\zaa (Kd.R (Kd.int .u8) 5 w' w.heap.size (λ_=>True) v6 K)/\zaa (w'.heap[D]? =some (.cells #[.string (⟨#[]⟩:ByteArray),.int .i64 0] 74 (0,0)))/\zaa (Below w.heap.size w w'));(case atStart=>exact⟨(U),(0),(0),rz,rz,H',⟨Nat.le_refl _⟩,⟨kr A.out⟩,⟨bk⟩,⟨bz⟩⟩);case round=>
      clear H';(try clear c6);(try clear aa);(try clear ad);obtain⟨K,Z,M,rfl,rfl,HA,aA,A,B,HB⟩:=hrel;cases gk with
      |zero=>exact absurd HA.out (by simp[zaA.l1])
      |succ k3=>
       have H:=HA.out;clear HA;simp only[zaA.l1] at H;by_cases ab:M>a1
       (·replace H:=hE H ab;have av:decide (a1<M)=true:=decide_eq_true ab;clear ab;replace H:=bs H;obtain⟨aj,aS,H⟩:=H;have H':=zaa.mk H;clear H;obtain⟨aB,aC,aD⟩:=Kd.R_slice A.out;subst aD;go_wp2_with (first|((with_reducible refine zac (f:=90) rfl ?_);refine zbm (some 32) rfl rfl Tryz.func90 (by kernel_rfl) rfl #[.slice aB K.length aC,.int .i64 5] rfl lz ?_;(with_reducible refine(zaz.calls k3 _ _ K 5 aj _ ?side1 ?side2 aS.out).mono ?_);(case side1=>exact kc (Kd.R_reads' A.out).2.2);(case side2=>exact(Kd.R_reads' A.out).2.1);rintro e a2 ⟨aY,rfl,O,hb⟩;refine⟨_,rfl,?_⟩;have E:=zaa.mk (Kd.R_elder' (kr A.out) (Kd.R_base O) hb);have I:=zaa.mk (Kd.R_lower (Kd.R_new' O (Kd.R_lt (kr A.out))) (zay bz));have J:=kN (g:=D) (cs:=#[.string (⟨#[]⟩:ByteArray),.int .i64 0]) hb bk;have ae:=bN bz hb;clear A B HB;have A:=E;have aw:=I;have B:=J;have HB:=ae;clear E I J ae;(try clear hb);(try clear ar);(try clear hk);(try clear hi);(try clear O)));go_roundg k3;(case measure=>have:=af.out;have:=ag.out;have:=aA.out;omega);case rel=>exact⟨(aj),(wrap64 (Z+1)),(wrap64 (M-1)),rz,rz,H',⟨by have:=af.out;have:=ag.out;have:=aA.out;omega⟩,⟨by(with_reducible repeat(first|apply Kd.R_alloc|apply Kd.R_drewN|apply Kd.R_drew));exact Kd.R_mono aw.out (λ_ hk=>trivial)⟩,⟨bk⟩,⟨bz⟩⟩);replace H:=hN H ab;have av:decide (a1<M)=false:=decide_eq_false ab;clear ab;replace H:=bs H;obtain⟨ak,aT,H⟩:=H;replace H:=bs H;obtain⟨⟨al,am⟩,aU,H⟩:=H;dsimp only at H;obtain⟨rfl,rfl,rfl⟩:=o3 H;obtain⟨aE,aF,aG⟩:=Kd.R_slice A.out;subst aG;go_wp2_with (first|((with_reducible refine zac (f:=92) rfl ?_);refine zbm (some 36) rfl rfl Tryz.func92 (by kernel_rfl) rfl #[.slice aE K.length aF] rfl lz ?_;(with_reducible refine(zbf.calls k3 _ _ K ak _ ?side1 ?side2 aT.out).mono ?_);(case side1=>exact kc (Kd.R_reads' A.out).2.2);(case side2=>exact(Kd.R_reads' A.out).2.1);rintro e a3 ⟨rfl,hb⟩;refine⟨_,rfl,?_⟩;have E:=zaa.mk (Kd.R_below (kr A.out) hb);have I:=kN (g:=D) (cs:=#[.string (⟨#[]⟩:ByteArray),.int .i64 0]) hb bk;have J:=bN bz hb;clear A B HB;have A:=E;have B:=I;have HB:=J;clear E I J;(try clear hb);(try clear ar);(try clear hk);(try clear hi))|((with_reducible refine zac (f:=91) rfl ?_);refine gB Tryz.func91 (zaB.calls k3 ak (wrap64 ((K.length:Int)-Z)) al am _ aU.out) ?_;intro a4 hb;have E:=zaa.mk (Kd.R_below (kr A.out) hb);have I:=kN (g:=D) (cs:=#[.string (⟨#[]⟩:ByteArray),.int .i64 0]) hb bk;have J:=bN bz hb;clear A B HB;have A:=E;have B:=I;have HB:=J;clear E I J;clear hb;obtain⟨aH,aI,aJ,aK⟩:=cz2 B));refine bodyPost_ret (zaS rfl _ _ D 74 #[.string al,.int .i64 am] (0,0) _ rfl bk Tryz.underlying74 rfl (by kernel_rfl)) rfl ?_;exact⟨ez,bz⟩
end
end Go.Proofs.YtilidabdbhaljaaGreatDoor.Fn
end
