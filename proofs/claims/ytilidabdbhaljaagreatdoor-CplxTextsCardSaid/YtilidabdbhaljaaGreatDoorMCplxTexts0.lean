/- The law CplxTexts: the walks through its functions and its plain law (part 0). Own texts and the kit's printed words for this seat, without what the law does not use: put together by merge.py (of this work). -/
import Derived.Below
import Derived.Deep.Draws
import Derived.Deep.AppendLies
import Derived.Maps.AppendAt
import Derived.OwnWalk
import Derived.Laws.BytesArg
import Derived.Laws.MakeOwn
import Derived.Laws.OwnMore
import Derived.Deep.OwnRows
import Derived.Tactics
import Derived.Lib.ConvBytes
import Derived.Laws.Slices
import Derived.WalkKit
import Derived.KernelRfl
import Derived.RowKit3
import Derived.Deep.LoopGhost
import Derived.Deep.QuietTactic
import Derived.BigQuiet
import Derived.WideLaws
import Derived.Deep.DeepCutAuto
import Derived.Deep.CutBlock
import Derived.Deep.RegionHeld3
import Derived.Laws.Rows
import Derived.Lib.AppendStr
import Derived.ArgAppend
import Derived.Laws.IdiomCopy
import Derived.RowKit
import Derived.OrdersHeld
import Derived.Laws.BitsLemmas
import Derived.Laws.StructEq
import Derived.Test.YtilidabdbhaljaaGreatDoorProg
import Derived.Lib.BufferWrite
import Derived.Laws.CopyOwn
import Derived.Deep.RegionLaw
import Derived.Shelf.Strings.Builder1
import Derived.Shelf.Strings.Builder2
import Derived.Shelf.Strings.OnBuilder
import Derived.Shelf.Strings.Trim
import Derived.Shelf.Small.Utf8
import Derived.Shelf.Small.Strs
import Derived.Shelf.Small.Wraps
import Derived.Shelf.Strings.BuilderF
import Derived.Shelf.Strconv.Itoa0
import Derived.Shelf.Strings.Search1
import Derived.Shelf.Strings.Prefix
import Derived.Shelf.Unicode.Latin
import Derived.Shelf.Strings.Runes
import Derived.Shelf.Strings.AsciiSet
import Derived.Shelf.Bits.Mul64
import Derived.Shelf.Strings.Repeat
import Derived.Shelf.Unicode.DecodeSlow
import Derived.Shelf.Unicode.CaseLookup
import Derived.Shelf.Unicode.CaseConvert
import Derived.Shelf.Unicode.CaseTo
import Derived.Shelf.Unicode.CaseLaid
import Derived.Laws.RangeString
import Init
import Derived.Laws.BitsAllLaws
import Derived.WalkMore
set_option linter.unusedVariables false
set_option linter.unusedSimpArgs false
namespace Go.Proofs.YtilidabdbhaljaaGreatDoorW.PrintWords
end Go.Proofs.YtilidabdbhaljaaGreatDoorW.PrintWords
namespace Go.Proofs.YtilidabdbhaljaaGreatDoorW.PrintWords.Kd
end Go.Proofs.YtilidabdbhaljaaGreatDoorW.PrintWords.Kd
namespace Go.Proofs.YtilidabdbhaljaaGreatDoorW.PrintLast
end Go.Proofs.YtilidabdbhaljaaGreatDoorW.PrintLast
namespace Go.Proofs.YtilidabdbhaljaaGreatDoorW.PrintWords.Foot
end Go.Proofs.YtilidabdbhaljaaGreatDoorW.PrintWords.Foot
namespace Go.Proofs.YtilidabdbhaljaaGreatDoorW.PrintMore
end Go.Proofs.YtilidabdbhaljaaGreatDoorW.PrintMore
namespace Go.Proofs.YtilidabdbhaljaaGreatDoorW.PrintMore.Kd
end Go.Proofs.YtilidabdbhaljaaGreatDoorW.PrintMore.Kd
namespace Go.Proofs.YtilidabdbhaljaaGreatDoor.Fn
end Go.Proofs.YtilidabdbhaljaaGreatDoor.Fn
namespace Go.Proofs.YtilidabdbhaljaaGreatDoor.Pure
end Go.Proofs.YtilidabdbhaljaaGreatDoor.Pure
namespace Go.Proofs
end Go.Proofs
section
namespace Go.Proofs.YtilidabdbhaljaaGreatDoorW.PrintWords
open Go.RowKit
structure zaa (p : Prop) : Prop where mk :: (out : p)
structure zbi (w w' : World) : Prop where mk :: (out : ∃ n, w' = w.drewN n)
theorem zbi.refl(w:World):zbi w w:=⟨⟨0,rfl⟩⟩
theorem zbi.step{w w':World}(h:zbi w w')(n:Nat):zbi w (w'.drewN n):=by
 obtain⟨m,rfl⟩:=h;exact⟨⟨m+n,World.drewN_drewN ..⟩⟩
theorem zbi.below{w w':World}(h:zbi w w'):Below w.heap.size w w':=by
 obtain⟨n,rfl⟩:=h;induction n with
 |zero=>exact Below.refl _ _
 |succ n ih=>rw[<-World.drew_drewN];exact ih.drew
def rd(xs:List Int)(i:Int):Int:=xs.getD i.toNat 0
def bt(s:ByteArray)(i:Int):Int:=if h:i.toNat<s.size then((s[i.toNat]'h).toNat:Int) else 0
theorem zcn(s:ByteArray)(i:Int): ∀h:i.toNat<s.size,((s[i.toNat]'h).toNat:Int)=bt s i:=λh=>by simp[bt,h]
def nums(k:IntKind)(xs:List Int):List Value:=xs.map λx=>.int k x
theorem nums_length(k:IntKind)(xs:List Int):(nums k xs).length=xs.length:=by simp[nums]
theorem zb0{w W:World}(h:Below w.heap.size w W)(o:Obj):Below w.heap.size w (W.alloc o):=h.alloc h.size o
theorem zdN{B:Nat}{w W:World}(h:Below B w W):Below B w W.drew:=⟨h.os,h.tape,h.output,h.size,h.block⟩
theorem zch{B:Nat}{w W:World}(h:Below B w W)(n:Nat):Below B w (W.drewN n):=⟨h.os,h.tape,h.output,h.size,h.block⟩
theorem zeA{B:Nat}{w w1 w2:World}(h:Below B w w1)(hB:B<=w1.heap.size)(k:Below w1.heap.size w1 w2):Below B w w2:=
 h.trans ⟨k.os,k.tape,k.output,k.size,λi hi=>k.block i (Nat.lt_of_lt_of_le hi hB)⟩
theorem zer{w w1:World}(h:Below w.heap.size w w1)(row:Option Nat):w.grownBy w1 row:=⟨h.os,h.tape,h.output,h.size,λi hi _=>h.block i hi⟩
theorem zcX{w w1:World}(h:Below w.heap.size w w1){a:Addr}{v:Value}(hc:w.cell? a=some v):w1.cell? a=some v:=(h.cell (World.block_lt_of_cell? w a hc)).trans hc
theorem add_plain(g j:Nat):(⟨g,0,none⟩:Addr).add j=⟨g,j,none⟩:=by unfold Addr.add;split<;>simp_all
def ReadsInt(w:World)(k:IntKind)(A:Option Addr)(n:Nat)(xs:List Int):Prop:=
  xs.length=n/\n<=9223372036854775807/\(0<n-> ∃ad,A=some ad/\ ∀j,j<n->w.cell? (ad.add j)=some (.int k (xs.getD j 0)))
theorem ReadsInt.at_{w:World}{k:IntKind}{A:Option Addr}{n:Nat}{xs:List Int}(h:ReadsInt w k A n xs)(i:Int)(h0:0<=i)(h1:i<n): ∃ad,A=some ad/\w.cell? (ad.add i.toNat)=some (.int k (rd xs i)):=by
 obtain⟨ad,e,hc⟩:=h.2.2 (by omega);exact⟨ad,e,hc _ (by omega)⟩
theorem ReadsInt.below{w w1:World}{k:IntKind}{A:Option Addr}{n:Nat}{xs:List Int}(h:ReadsInt w k A n xs)(hb:Below w.heap.size w w1):ReadsInt w1 k A n xs:=
 ⟨h.1,h.2.1,λhn=>by
  obtain⟨ad,e,hc⟩:=h.2.2 hn
  exact⟨ad,e,λj hj=>zcX hb (hc j hj)⟩⟩
theorem zlL(W:World)(base:Nat)(e:TypeId)(size:Nat):W.ownsRow base e size (.slice none 0 0) 0 []:=⟨by simp,.inl ⟨rfl,rfl⟩⟩
theorem zdt{w:World}{base:Nat}{e:TypeId}{size n:Nat}{v:Value}{xs:List Value}(h:w.ownsRow base e size v n xs)(k:Nat)(hk:v.ownBlock=some k):base<=k:=by
 rcases h.2 with⟨rfl,_⟩|⟨g,cap,cur,rfl,hb,_⟩
 ·simp[Value.ownBlock] at hk
 ·(have:g=k:=by simpa [Value.ownBlock] using hk);omega
theorem zha{w:World}{base:Nat}{e:TypeId}{size n:Nat}{v:Value}{xs:List Value}(h:w.ownsRow base e size v n xs)(k:Nat)(hk:v.ownBlock=some k):k<w.heap.size:=by
 rcases h.2 with⟨rfl,_⟩|⟨g,cap,cur,rfl,hb,hh,_⟩
 ·simp[Value.ownBlock] at hk
 ·(have:g=k:=by simpa [Value.ownBlock] using hk);subst this;exact(Array.getElem?_eq_some_iff.1 hh).1
theorem zhb{w w1:World}{base:Nat}{e:TypeId}{size n:Nat}{v:Value}{xs:List Value}(h:w.ownsRow base e size v n xs)(hb:Below w.heap.size w w1):w1.ownsRow base e size v n xs:=
 h.kept (zer hb none) (by cases v.ownBlock<;>simp)
theorem zja{w:World}{base n:Nat}{e:TypeId}{size:Nat}{v:Value}{xs:List Value}(h:w.ownsRow base e size v n xs): ∃A c,v= .slice A n c:=by
 rcases h.2 with⟨rfl,rfl⟩|⟨g,cap,cur,rfl,_⟩
 ·exact⟨none,0,rfl⟩
 ·exact⟨_,cap,rfl⟩
theorem zcd{P:Program}{w:World}{base n:Nat}{e' src dst e:TypeId}{v:Value}{xs:List Int}(hs:P.underlying src=some (.slice e))(he:P.underlying e=some (.int .u8))(hd:P.underlying dst=some .string)
 (h:w.ownsRow base e' 1 v n (nums .u8 xs)):(convert src dst v).run P w= .ok (.string (strOfNums xs)) w:=by
 (have hl:xs.length=n:=by have:=h.1;simp[nums] at this;exact this);rcases h.2 with⟨rfl,rfl⟩|⟨g,cap,cur,rfl,_⟩
 ·obtain rfl:xs=[]:=List.eq_nil_of_length_eq_zero hl;exact run_convert_bytes_nil w src e hs he 0 0 dst hd
 ·refine run_convert_bytes_arg w src e hs he g 0 n cap xs hl (λi hi=>?_) dst hd;have hc:=h.cells (g:=g) rfl i (.int .u8 (xs.getD i 0)) (by simp[nums,List.getElem?_eq_getElem (show i<xs.length by omega),List.getD_eq_getElem?_getD]);(have ha:(⟨g,0,none⟩:Addr).add i=⟨g,0+i,none⟩:=by unfold Addr.add;split<;>simp_all);rwa [ha] at hc
def bytesOf(s:ByteArray):List Int:=s.data.toList.map λb=>(b.toNat:Int)
theorem zdB(s:ByteArray):s.data.toList.length=s.size:=by rw[Array.length_toList];rfl
theorem bytesOf_length(s:ByteArray):(bytesOf s).length=s.size:=by rw[bytesOf,List.length_map,zdB]
theorem ziL(s:ByteArray)(i:Int):rd (bytesOf s) i=bt s i:=by
 unfold rd bt bytesOf;split
 ·rename_i h;(have h':i.toNat<s.data.toList.length:=by rw[zdB];exact h);simp[List.getD_eq_getElem?_getD,List.getElem?_eq_getElem h'];rfl
 ·rename_i h;(have h':s.data.toList.length<=i.toNat:=by rw[zdB];omega);simp[List.getD_eq_getElem?_getD,List.getElem?_eq_none h']
theorem zfs{P:Program}(src dst e:TypeId){u:TypeDesc}(hs:P.underlying src=some u)(hd:P.underlying dst=some (.slice e))(he:P.underlying e=some (.int .u8))(s:ByteArray)(W:World):
 (convert src dst (.string s)).run P W= .ok (.slice (some ⟨W.heap.size,0,none⟩) s.size (grownCap W s.size 0 e)) (Lib.bytesWorld W e s):=Lib.run_convert_string_bytes W src dst e s hs hd he
theorem zhW(W:World)(e:TypeId)(s:ByteArray)(hs:s.size<=9223372036854775807):ReadsInt (Lib.bytesWorld W e s) .u8 (some ⟨W.heap.size,0,none⟩) s.size (bytesOf s):=by
 refine⟨bytesOf_length s,hs,λ_=>⟨_,rfl,λj hj=>?_⟩⟩;rw[add_plain,Lib.bytesWorld_cell W e s j hj];(have h':j<s.data.toList.length:=by rw[zdB];exact hj);simp[bytesOf,List.getD_eq_getElem?_getD,List.getElem?_eq_getElem h']
theorem zen{B:Nat}{w W:World}(h:Below B w W)(hB:B<=W.heap.size)(e:TypeId)(s:ByteArray):Below B w (Lib.bytesWorld W e s):=
 h.trans ⟨rfl,rfl,rfl,by rw[Lib.bytesWorld_size];omega,λi hi=>Lib.bytesWorld_at_old W e s i (by omega)⟩
def LeO{α:Type}(a b:Option α):Prop:= ∀r,a=some r->b=some r
theorem LeO.trans{α:Type}{a b c:Option α}(h:LeO a b)(k:LeO b c):LeO a c:=λr hr=>k r (h r hr)
theorem LeO.bind{α β:Type}{a a':Option α}{f f':α->Option β}(h:LeO a a')(k: ∀x,LeO (f x) (f' x)):LeO (a.bind f) (a'.bind f'):=by
 intro r hr;obtain⟨x,hx,hf⟩:=Option.bind_eq_some_iff.1 hr;exact Option.bind_eq_some_iff.2 ⟨x,h x hx,k x r hf⟩
theorem LeO.map{α β:Type}{a a':Option α}(f:α->β)(h:LeO a a'):LeO (a.map f) (a'.map f):=by
 intro r hr;obtain⟨x,hx,hf⟩:=Option.map_eq_some_iff.1 hr;exact Option.map_eq_some_iff.2 ⟨x,h x hx,hf⟩
def Reps{α:Type}(R:α->List Value->Prop)(size:Nat)(ps:List α)(cs:List Value):Prop:=
  cs.length=ps.length*size/\ ∀j p,ps[j]? =some p->R p ((cs.drop (j*size)).take size)
theorem Reps.none{α:Type}(R:α->List Value->Prop)(size:Nat):Reps R size [] []:=⟨by simp,λj p h=>by simp at h⟩
theorem Reps.snoc{α:Type}{R:α->List Value->Prop}{size:Nat}{ps:List α}{cs c:List Value}{p:α}(h:Reps R size ps cs)(hp:R p c)(hc:c.length=size):Reps R size (ps++[p]) (cs++c):=by
 refine⟨by rw[List.length_append,h.1,hc,List.length_append,List.length_singleton,Nat.add_mul,Nat.one_mul],λj q hq=>?_⟩;rcases Nat.lt_or_ge j ps.length with hj|hj
 ·rw[List.getElem?_append_left hj] at hq;(have h1:j*size+size<=cs.length:=by rw[h.1,<-Nat.succ_mul];exact Nat.mul_le_mul_right _ hj);have h2:=h.2 j q hq;rw[List.drop_append_of_le_length (by omega),List.take_append_of_le_length (by rw[List.length_drop];omega)];exact h2
 ·have hj':j=ps.length:=by
   have:=(List.getElem?_eq_some_iff.1 hq).1;rw[List.length_append,List.length_singleton] at this;omega
  subst hj';(have hq':p=q:=by simpa using hq);subst hq';rw[<-h.1,List.drop_left,<-hc,List.take_length];exact hp
theorem Reps.imp_{α:Type}{R R':α->List Value->Prop}{size:Nat}{ps:List α}{cs:List Value}(h:Reps R size ps cs)(hR: ∀p c,R p c->R' p c):Reps R' size ps cs:=⟨h.1,λj p hj=>hR _ _ (h.2 j p hj)⟩
def ReadsRow{α:Type}(R:α->List Value->Prop)(size:Nat)(w:World)(A:Option Addr)(n:Nat)(ps:List α):Prop:=
  ps.length=n/\n<=9223372036854775807/\(0<n-> ∃ad,A=some ad/\ ∀j p,ps[j]? =some p-> ∃c,c.length=size/\R p c/\ ∀i u,c[i]? =some u->w.cell? (ad.add (j*size+i))=some u)
theorem ReadsRow.get_{α:Type}{R:α->List Value->Prop}{size:Nat}{w:World}{A:Option Addr}{n:Nat}{ps:List α}(h:ReadsRow R size w A n ps)(d:α)(i:Int)(h0:0<=i)(h1:i<n):
 ∃ad c,A=some ad/\c.length=size/\R (ps.getD i.toNat d) c/\ ∀j u,c[j]? =some u->w.cell? (ad.add (i.toNat*size+j))=some u:=by
 obtain⟨ad,e,hc⟩:=h.2.2 (by omega);(have hl:i.toNat<ps.length:=by have:=h.1;omega);obtain⟨c,hs,hr,hcell⟩:=hc i.toNat _ (List.getElem?_eq_getElem hl);refine⟨ad,c,e,hs,?_,hcell⟩;rw[List.getD_eq_getElem?_getD,List.getElem?_eq_getElem hl];exact hr
theorem ReadsRow.imp_{α:Type}{R R':α->List Value->Prop}{size:Nat}{w w1:World}{A:Option Addr}{n:Nat}{ps:List α}(h:ReadsRow R size w A n ps)(hb:Below w.heap.size w w1)(hR: ∀p c,R p c->R' p c):ReadsRow R' size w1 A n ps:=
 ⟨h.1,h.2.1,λhn=>by
  obtain⟨ad,e,hc⟩:=h.2.2 hn
  refine⟨ad,e,λj p hj=>?_⟩
  obtain⟨c,hs,hr,hcell⟩:=hc j p hj
  exact⟨c,hs,hR _ _ hr,λi u hu=>zcX hb (hcell i u hu)⟩⟩
theorem zgY{α:Type}{R:α->List Value->Prop}{w:World}{base n size:Nat}{e:TypeId}{v:Value}{ps:List α}{cs:List Value}(h:w.ownsRow base e size v n cs)(hR:Reps R size ps cs)(hn:ps.length=n):
 ∃A c,v= .slice A n c/\ReadsRow R size w A n ps:=by
 rcases Nat.eq_zero_or_pos n with h0|h0
 ·rcases h.2 with⟨rfl,rfl⟩|⟨g,cap,cur,rfl,_⟩
  ·exact⟨none,0,rfl,hn,by omega,λhp=>absurd hp (by omega)⟩
  ·exact⟨_,cap,rfl,hn,by omega,λhp=>absurd hp (by omega)⟩
 ·obtain⟨g,cap,rfl,_,_⟩:=h.form h0;have hm:n<=9223372036854775807:=by
   rcases h.2 with⟨_,h1⟩|⟨g',cap',cur,he,_,_,h1,h2,_⟩
   ·omega
   ·simp only[maxLen] at h2;omega
  refine⟨_,cap,rfl,hn,hm,λ_=>⟨_,rfl,λj p hj=>⟨(cs.drop (j*size)).take size,?_,hR.2 j p hj,λi u hu=>?_⟩⟩⟩
  ·have hjl:=(List.getElem?_eq_some_iff.1 hj).1;(have h1:j*size+size<=cs.length:=by rw[hR.1,<-Nat.succ_mul];exact Nat.mul_le_mul_right _ hjl);rw[List.length_take,List.length_drop];omega
  ·refine h.cells (g:=g) rfl _ u ?_;rw[List.getElem?_take] at hu;split at hu
   ·rw[List.getElem?_drop] at hu;exact hu
   ·cases hu
section
variable {P : Program} {ops : Array Oper} {rest : List Oper} {o : Oper} {a : Act} {Q : Exit -> Act -> World -> Prop}
theorem zdG{w0 W:World}(base:Nat)(hgd:o.guard=none)(s x:Operand)(t e:TypeId)(z:Value)(size bytes:Nat)
 (ho:o.op= .call {callee:=.builtin .append,args:=#[s,x],argTypes:=#[t,t]})
 (ht:P.underlying t=some (.slice e)) (hinfo:(P.info? e).map (λi=>(i.zero,i.size,i.bytes))=some (some z,size,bytes)) (hz:z.cells.size=size) (A:0<size) (B:0<bytes)
 (v:Value) (n:Nat) (xs ys:List Value) (hs:a.eval s=v) (hx:a.eval x= .slice (some ⟨W.heap.size,0,none⟩) 1 1) (hys:ys.length=size) (h1: ∀u∈ys,u.oneCell'=true)
 (HO:W.ownsRow base e size v n xs) (HB:Below base w0 W) (hbase:base<=W.heap.size) (hl:(n+1)*bytes<=140737488355328)
 (h: ∀v1 w1,w1.ownsRow base e size v1 (n+1) (xs++ys)->Below base w0 w1->W.grownBy w1 v.ownBlock->(v1.ownBlock=v.ownBlock\/ ∃b,v1.ownBlock=some b/\W.heap.size<=b)->wpList P ops Q rest (a.put o.dst v1) w1):
 wpList P ops Q (o::rest) a (W.alloc (.cells ys.toArray e)):=by
 obtain⟨i0,hi,hzz⟩:=Option.map_eq_some_iff.1 hinfo;simp only[Prod.mk.injEq] at hzz;obtain⟨D,E,I⟩:=hzz;have hlen:n+1<=140737488355328:=Nat.le_trans (Nat.le_mul_of_pos_right _ B) hl
 refine wpList_append_own_at (W.alloc (.cells ys.toArray e)) hgd s x t ho base e i0 z size bytes ht hi D E I hz A v n xs hs (HO.alloc _) ⟨W.heap.size,0,none⟩ 1 1 ys hx (by rw[hys];simp)
  (by simpa using World.news_of_block (cs:=ys.toArray) (t:=e) (fr:=(0,0)) (heap_alloc_new W (.cells ys.toArray e))) h1 (by simp only[maxLen];omega) hl (by simp;omega) ?_
 intro v1 w1 hown hg _ hat;refine h v1 w1 hown ((HB.alloc hbase _).grown hg (by simp;omega) (zdt HO)) (World.grownBy.trans (World.grownBy_alloc W _ _) hg) ?_;rcases hat with hat|hat
 ·exact .inl hat
 ·exact .inr ⟨_,hat,by simp⟩
end
theorem zmL{w:World}{base:Nat}{e t:TypeId}{size n g:Nat}{v:Value}{xs:List Value}{cs:Array Value}(h:w.ownsRow base e size v n xs)(hg:w.heap[g]? =some (.cells cs t (0,0)))(hne:e≠t):some g≠v.ownBlock:=by
 rcases h.2 with⟨rfl,_⟩|⟨g',cap,cur,rfl,_,hh,_⟩
 ·simp[Value.ownBlock]
 ·intro he;(have:g=g':=by simpa [Value.ownBlock] using he);subst this;rw[hg] at hh;(injection hh with hh);(injection hh with _ ht);exact hne ht.symm
theorem zlM{w:World}{g:Nat}{t:TypeId}{cs:Array Value}(h:w.heap[g]? =some (.cells cs t (0,0)))(i:Nat)(u:Value):(w.setCell ⟨g,i,none⟩ u).heap[g]? =some (.cells (cs.setIfInBounds i u) t (0,0)):=by
 simp[World.setCell,Array.getElem?_modify,h]
theorem zlN{w:World}{g:Nat}{t:TypeId}{cs:Array Value}(h:w.heap[g]? =some (.cells cs t (0,0))){p:Addr}(hp:g≠p.block)(u:Value):(w.setCell p u).heap[g]? =some (.cells cs t (0,0)):=(Below.heap_setCell w p u g hp).trans h
theorem zba{w:World}{g:Nat}{o:Obj}(h:w.heap[g]? =some o):g<w.heap.size:=(Array.getElem?_eq_some_iff.1 h).1
theorem zab{w:World}{g:Nat}{t:TypeId}{cs:Array Value}(h:w.heap[g]? =some (.cells cs t (0,0)))(i:Nat):w.cell? ⟨g,i,none⟩=cs[i]? :=cell_of_row w g i cs t (0,0) h
theorem za1{w:World}{g:Nat}{t:TypeId}{cs:Array Value}(h:w.heap[g]? =some (.cells cs t (0,0)))(i:Nat):w.frozen? ⟨g,i,none⟩=false:=by simp[World.frozen?,h]
theorem zbR{w w1:World}{g:Nat}{o:Obj}{row:Option Nat}(h:w.heap[g]? =some o)(hg:w.grownBy w1 row)(hne:some g≠row):w1.heap[g]? =some o:=(hg.block g (zba h) hne).trans h
def KeepBut(w w':World)(g:Nat)(row:Option Nat):Prop:=w.heap.size<=w'.heap.size/\ ∀i,i<w.heap.size->i≠g->some i≠row->w'.heap[i]? =w.heap[i]?
theorem KeepBut.trans{w w1 w2:World}{g:Nat}{row A:Option Nat}(h:KeepBut w w1 g row)(k:KeepBut w1 w2 g A)(hr:A=row\/ ∃b,A=some b/\w.heap.size<=b):KeepBut w w2 g row:=
 ⟨Nat.le_trans h.1 k.1,λi hi hg hn=>by
  refine(k.2 i (Nat.lt_of_lt_of_le hi h.1) hg ?_).trans (h.2 i hi hg hn)
  rcases hr with rfl|⟨b,rfl,hb⟩
  ·exact hn
  ·intro e
   injection e with e
   omega⟩
def Ev{α:Type}(g:Nat->Option α)(r:α):Prop:= ∃K,∀k,K<=k->g k=some r
theorem Ev.now{α:Type}(r:α):Ev (λ_=>some r) r:=⟨0,λ_ _=>rfl⟩
theorem Ev.rounds{α:Type}{g:Nat->Option α}{r:α}(h:Ev g r): ∃k,g k=some r:=by
 obtain⟨K,h⟩:=h;exact⟨K,h K (Nat.le_refl _)⟩
theorem Ev.bind{α β:Type}{g:Nat->Option α}{f:Nat->α->Option β}{a:α}{r:β}(h:Ev g a)(k:Ev (λn=>f n a) r):Ev (λn=>(g n).bind (f n)) r:=by
 obtain⟨K,h⟩:=h;obtain⟨K',k⟩:=k;refine⟨max K K',λn hn=>?_⟩;have h1:=h n (by omega);have h2:=k n (by omega);simp only[h1,Option.bind_some];exact h2
theorem Ev.step{α:Type}{g f:Nat->Option α}{r:α}(h: ∀k,g (k+1)=f k)(k:Ev f r):Ev g r:=by
 obtain⟨K,k⟩:=k;refine⟨K+1,λn hn=>?_⟩;obtain⟨m,rfl⟩: ∃m,n=m+1:=⟨n-1,by omega⟩;rw[h];exact k m (by omega)
theorem Ev.congr{α:Type}{g f:Nat->Option α}{r:α}(h: ∀k,g k=f k)(k:Ev f r):Ev g r:=by
 obtain⟨K,k⟩:=k;exact⟨K,λn hn=>(h n).trans (k n hn)⟩
theorem ziM{w:World}{base base':Nat}{e:TypeId}{size n:Nat}{v:Value}{xs:List Value}(h:w.ownsRow base e size v n xs)(hb:base'<=base):w.ownsRow base' e size v n xs:=by
 obtain⟨h1,h2⟩:=h;refine⟨h1,?_⟩;rcases h2 with h2|⟨g,cap,cur,rfl,hg,r⟩
 ·exact .inl h2
 ·exact .inr ⟨g,cap,cur,rfl,Nat.le_trans hb hg,r⟩
section
variable {α : Type} {enc : α -> Value} {d : α}
def encs(enc:α->Value)(xs:List α):List Value:=xs.map enc
def rdOf(d:α)(xs:List α)(i:Int):α:=xs.getD i.toNat d
theorem zft(xs:List α):(encs enc xs).length=xs.length:=by simp[encs]
theorem zkz(xs:List α)(j:Nat)(h:j<xs.length):(encs enc xs)[j]? =some (enc (xs.getD j d)):=by
 simp[encs,List.getElem?_eq_getElem h,List.getD_eq_getElem?_getD]
def ReadsOf(enc:α->Value)(d:α)(w:World)(A:Option Addr)(n:Nat)(xs:List α):Prop:=
  xs.length=n/\n<=9223372036854775807/\(0<n-> ∃ad,A=some ad/\ ∀j,j<n->w.cell? (ad.add j)=some (enc (xs.getD j d)))
theorem ReadsOf.at_{w:World}{A:Option Addr}{n:Nat}{xs:List α}(h:ReadsOf enc d w A n xs)(i:Int)(h0:0<=i)(h1:i<n): ∃ad,A=some ad/\w.cell? (ad.add i.toNat)=some (enc (rdOf d xs i)):=by
 obtain⟨ad,e,hc⟩:=h.2.2 (by omega);exact⟨ad,e,hc _ (by omega)⟩
theorem ReadsOf.below{w w1:World}{A:Option Addr}{n:Nat}{xs:List α}(h:ReadsOf enc d w A n xs)(hb:Below w.heap.size w w1):ReadsOf enc d w1 A n xs:=
 ⟨h.1,h.2.1,λhn=>by
  obtain⟨ad,e,hc⟩:=h.2.2 hn
  exact⟨ad,e,λj hj=>zcX hb (hc j hj)⟩⟩
theorem zjb{W:World}{base g n cap:Nat}{e:TypeId}{xs:List α}(h:W.ownsRow base e 1 (.slice (some ⟨g,0,none⟩) n cap) n (encs enc xs))(i:Int)(h0:0<=i)(h1:i<n):
 W.cell? ⟨g,i.toNat,none⟩=some (enc (rdOf d xs i))/\W.frozen? ⟨g,i.toNat,none⟩=false:=by
 (have hl:xs.length=n:=by have:=h.1;simp[encs] at this;exact this);constructor
 ·have hc:=h.cells (g:=g) rfl i.toNat _ (zkz (d:=d) xs i.toNat (by omega));rwa [add_plain] at hc
 ·rcases h.2 with⟨h',_⟩|⟨g',cap',cur,h',_,hh,_⟩
  ·cases h'
  ·(have:g=g':=by injection h' with h';injection h' with h';injection h' with h');subst this;simp[World.frozen?,hh]
theorem zhc{W:World}{base g n cap:Nat}{e:TypeId}{xs:List α}(h:W.ownsRow base e 1 (.slice (some ⟨g,0,none⟩) n cap) n (encs enc xs))(i:Int)(x:α):
 (W.setCell ⟨g,i.toNat,none⟩ (enc x)).ownsRow base e 1 (.slice (some ⟨g,0,none⟩) n cap) n (encs enc (xs.set i.toNat x))/\W.grownBy (W.setCell ⟨g,i.toNat,none⟩ (enc x)) (some g):=by
 have hs:=h.stored i.toNat (enc x);(have he:(encs enc xs).set i.toNat (enc x)=encs enc (xs.set i.toNat x):=by simp[encs,List.map_set]);rwa [he] at hs
end
def NeRow(v v':Value):Prop:= ∀k,v.ownBlock=some k->v'.ownBlock≠some k
theorem znO{W w1:World}{v1 v':Value}{base n size n1 A:Nat}{e e1:TypeId}{xs B:List Value}(h1:w1.ownsRow W.heap.size e1 A v1 n1 B)(ho:W.ownsRow base e size v' n xs):NeRow v1 v':=by
 intro k hk hk';have h2:=zdt h1 k hk;have h3:=zha ho k hk';omega
theorem zbT{w:World}{g:Nat}{o:Obj}(h:w.heap[g]? =some o)(o':Obj):(w.alloc o').heap[g]? =some o:=(Below.heap_alloc w o' g (zba h)).trans h
theorem zat{w:World}{g:Nat}{o:Obj}(h:w.heap[g]? =some o):w.drew.heap[g]? =some o:=h
theorem zbU{w:World}{g:Nat}{o:Obj}(h:w.heap[g]? =some o)(n:Nat):(w.drewN n).heap[g]? =some o:=h
theorem zjc{w w1:World}{g:Nat}{o:Obj}(h:w.heap[g]? =some o)(hb:Below w.heap.size w w1):w1.heap[g]? =some o:=(hb.block g (zba h)).trans h
theorem zia(w:World)(o:Obj):(w.alloc o).heap[w.heap.size]? =some o:=heap_alloc_new w o
section
variable {P : Program}
theorem zaS{fn:Func}{p u:Tmp}{ty:TypeId}(h:fn.results=#[.cell p ty,.tmp u])(tmps:Array Value)(w:World)(g:Nat)(t:TypeId)(cs:Array Value)(fr:Nat×Nat)(d:TypeDesc)
 (hp:tmps.getD p undef= .pointer (some ⟨g,0,none⟩)) (hg:w.heap[g]? =some (.cells cs t fr))
 (hu:P.underlying ty=some d) (hd:(match d with|.struct _|.array _ _=>true|_=>false)=true) (hi:(P.info? ty).map (·.size)=some cs.size):
 (results fn tmps).run P w= .ok (.tuple #[.agg cs,tmps.getD u undef]) w:=by
 (have hp':tmps[p]?.getD undef= .pointer (some ⟨g,0,none⟩):=by simpa using hp);simp[results,h,hp',asAddr,run_loadVar_row w g t ty cs fr d hg hu hd hi]
end
theorem zmM{w:World}{base n m c size:Nat}{e:TypeId}{A:Option Addr}{xs:List Value}(h:w.ownsRow base e size (.slice A m c) n xs):m<=c:=by
 rcases h.2 with⟨he,_⟩|⟨g,cap,cur,he,_,_,hnc,_⟩
 ·(injection he with _ h2 h3);omega
 ·(injection he with _ h2 h3);omega
def OwnRow{α:Type}(R:α->List Value->Prop)(e:TypeId)(size:Nat)(w:World)(base:Nat)(v:Value)(ps:List α):Prop:=
  ∃inner,w.ownsRow base e size v ps.length inner/\Reps R size ps inner
section
variable {α : Type} {R R' : α -> List Value -> Prop} {e : TypeId} {size : Nat} {w w1 : World} {base : Nat} {v : Value} {ps : List α}
theorem OwnRow.none_(R:α->List Value->Prop)(e:TypeId)(size:Nat)(w:World)(base:Nat):OwnRow R e size w base (.slice none 0 0) []:=⟨[],zlL _ _ _ _,Reps.none _ _⟩
theorem OwnRow.imp_(h:OwnRow R e size w base v ps)(hR: ∀p c,R p c->R' p c):OwnRow R' e size w base v ps:=by
 obtain⟨inner,ho,hr⟩:=h;exact⟨inner,ho,hr.imp_ hR⟩
theorem OwnRow.below(h:OwnRow R e size w base v ps)(hb:Below w.heap.size w w1):OwnRow R e size w1 base v ps:=by
 obtain⟨inner,ho,hr⟩:=h;exact⟨inner,zhb ho hb,hr⟩
theorem OwnRow.reads(h:OwnRow R e size w base v ps): ∃A c,v= .slice A ps.length c/\ps.length<=c/\ReadsRow R size w A ps.length ps:=by
 obtain⟨inner,ho,hr⟩:=h;obtain⟨A,c,rfl,hrow⟩:=zgY ho hr rfl;exact⟨A,c,rfl,zmM ho,hrow⟩
theorem OwnRow.ne_block(h:OwnRow R e size w base v ps){g:Nat}{t:TypeId}{cells:Array Value}(hb:w.heap[g]? =some (.cells cells t (0,0)))(ht:e≠t):some g≠v.ownBlock:=by
 obtain⟨inner,ho,hr⟩:=h;exact zmL ho hb ht
end
section
variable {P : Program} {ops : Array Oper} {rest : List Oper} {o : Oper} {a : Act} {Q : Exit -> Act -> World -> Prop} {α : Type} {R : α -> List Value -> Prop}
theorem OwnRow.append{w0 W:World}(base:Nat)(hgd:o.guard=none)(s x:Operand)(t e:TypeId)(z:Value)(size bytes:Nat)
 (ho:o.op= .call {callee:=.builtin .append,args:=#[s,x],argTypes:=#[t,t]})
 (ht:P.underlying t=some (.slice e)) (hinfo:(P.info? e).map (λi=>(i.zero,i.size,i.bytes))=some (some z,size,bytes)) (hz:z.cells.size=size) (D:0<size) (E:0<bytes)
 (v:Value) (ps:List α) (p:α) (cs:List Value) (hs:a.eval s=v) (hx:a.eval x= .slice (some ⟨W.heap.size,0,none⟩) 1 1) (hp:R p cs) (hcs:cs.length=size) (h1: ∀u∈cs,u.oneCell'=true)
 (HO:OwnRow R e size W base v ps) (HB:Below base w0 W) (hbase:base<=W.heap.size) (hl:(ps.length+1)*bytes<=140737488355328)
 (h: ∀v1 w1,OwnRow R e size w1 base v1 (ps++[p])->Below base w0 w1->W.grownBy w1 v.ownBlock->(v1.ownBlock=v.ownBlock\/ ∃b,v1.ownBlock=some b/\W.heap.size<=b)->wpList P ops Q rest (a.put o.dst v1) w1):
 wpList P ops Q (o::rest) a (W.alloc (.cells cs.toArray e)):=by
 obtain⟨inner,hown,hr⟩:=HO;refine zdG base hgd s x t e z size bytes ho ht hinfo hz D E v ps.length inner cs hs hx hcs h1 hown HB hbase hl ?_;intro v1 w1 A I J B;exact h v1 w1 ⟨inner++cs,by rw[List.length_append,List.length_singleton];exact A,hr.snoc hp hcs⟩ I J B
end
theorem ReadsRow.inner_{α:Type}{R:α->List Value->Prop}{size:Nat}{w:World}{ad:Addr}{n:Nat}{ps:List α}(h:ReadsRow R size w (some ad) n ps):
 ∃inner,Reps R size ps inner/\ ∀j u,inner[j]? =some u->w.cell? (ad.add j)=some u:=by
 have key: ∀m,m<=ps.length-> ∃inner,Reps R size (ps.take m) inner/\ ∀j u,inner[j]? =some u->w.cell? (ad.add j)=some u:=by
  intro m;induction m with
  |zero=>exact λ_=>⟨[],Reps.none _ _,λj u hu=>by simp at hu⟩
  |succ m ih=>
   intro hm;obtain⟨inner,hr,hc⟩:=ih (by omega);obtain⟨ad',he,hcell⟩:=h.2.2 (by have:=h.1;omega);(injection he with he);subst he;obtain⟨c,hcl,hp,hcc⟩:=hcell m _ (List.getElem?_eq_getElem (show m<ps.length by omega));refine⟨inner++c,?_,λj u hu=>?_⟩
   ·rw[List.take_succ_eq_append_getElem (show m<ps.length by omega)];exact hr.snoc hp hcl
   ·(have hil:inner.length=m*size:=by rw[hr.1,List.length_take,Nat.min_eq_left (by omega)]);rcases Nat.lt_or_ge j inner.length with hj|hj
    ·rw[List.getElem?_append_left hj] at hu;exact hc j u hu
    ·rw[List.getElem?_append_right hj] at hu;have:=hcc (j-inner.length) u hu;rwa [hil,Nat.add_sub_cancel' (by omega)] at this
 obtain⟨inner,hr,hc⟩:=key ps.length (Nat.le_refl _);rw[List.take_length] at hr;exact⟨inner,hr,hc⟩
structure Kd (α : Type) where
  sz : Nat
  E : List Nat
  K : World -> α -> List Value -> Prop
  M : World -> Nat -> (Nat -> Prop) -> α -> List Value -> Prop
  K_len : ∀ {w x cs}, K w x cs -> cs.length = sz
  K_one : ∀ {w x cs}, K w x cs -> ∀ u ∈ cs, u.oneCell' = true
  K_below : ∀ {w w1 : World} {x cs}, Below w.heap.size w w1 -> K w x cs -> K w1 x cs
  K_of_M : ∀ {w base ok x cs}, M w base ok x cs -> K w x cs
  M_mono : ∀ {w base ok ok' x cs}, (∀ k, ok k -> ok' k) -> M w base ok x cs -> M w base ok' x cs
  M_bound : ∀ {w : World} {base ok x cs}, M w base ok x cs -> M w base (λk => ok k /\ base <= k /\ k < w.heap.size /\ ∃ q, q ∈ E /\ ∃ cells, w.heap[k]? = some (.cells cells q (0, 0))) x cs
  M_move : ∀ {w w1 : World} {base ok x cs}, (∀ k, ok k -> w1.heap[k]? = w.heap[k]?) -> M w base ok x cs -> M w1 base ok x cs
  M_lower : ∀ {w base base' ok x cs}, base' <= base -> M w base ok x cs -> M w base' ok x cs
theorem zkA{w w1:World}{base:Nat}{e:TypeId}{size n:Nat}{v:Value}{xs:List Value}(h:w.ownsRow base e size v n xs)(hm: ∀k,v.ownBlock=some k->w1.heap[k]? =w.heap[k]?):w1.ownsRow base e size v n xs:=by
 obtain⟨h1,h2⟩:=h;refine⟨h1,?_⟩;rcases h2 with h2|⟨g,cap,cur,rfl,hg,hh,r⟩
 ·exact .inl h2
 ·exact .inr ⟨g,cap,cur,rfl,hg,(hm g (by simp[Value.ownBlock])).trans hh,r⟩
theorem zd8{w:World}{base:Nat}{e:TypeId}{size n:Nat}{v:Value}{xs:List Value}(h:w.ownsRow base e size v n xs)(k:Nat)(hk:v.ownBlock=some k): ∃cells,w.heap[k]? =some (.cells cells e (0,0)):=by
 rcases h.2 with⟨rfl,_⟩|⟨g,cap,cur,rfl,hg,hh,r⟩
 ·simp[Value.ownBlock] at hk
 ·(have:g=k:=by simpa [Value.ownBlock] using hk);subst this;exact⟨cur,hh⟩
namespace Kd
def C{α:Type}(d:Kd α)(w:World)(A:Option Addr)(n:Nat)(xs:List α):Prop:=ReadsRow (d.K w) d.sz w A n xs
def R{α:Type}(d:Kd α)(e:Nat)(w:World)(base:Nat)(ok:Nat->Prop)(v:Value)(xs:List α):Prop:=
  (∀k,v.ownBlock=some k->ok k)/\OwnRow (d.M w base (λk=>ok k/\some k≠v.ownBlock)) e d.sz w base v xs
section
variable {α : Type} {d : Kd α} {e : Nat} {w w1 : World} {base : Nat} {ok ok' : Nat -> Prop} {v : Value} {xs : List α}
theorem C_below{A:Option Addr}{n:Nat}(h:d.C w A n xs)(hb:Below w.heap.size w w1):d.C w1 A n xs:=ReadsRow.imp_ h hb (λ_ _ hp=>d.K_below hb hp)
theorem R_nil(d:Kd α)(e:Nat)(w:World)(base:Nat)(ok:Nat->Prop):d.R e w base ok (.slice none 0 0) []:=⟨λk hk=>by simp[Value.ownBlock] at hk,OwnRow.none_ _ _ _ _ _⟩
theorem R_mono(h:d.R e w base ok v xs)(hok: ∀k,ok k->ok' k):d.R e w base ok' v xs:=⟨λk hk=>hok k (h.1 k hk),h.2.imp_ (λ_ _ hp=>d.M_mono (λk hk=>⟨hok k hk.1,hk.2⟩) hp)⟩
theorem zc7(h:d.R e w base ok v xs):d.R e w base (λk=>ok k/\base<=k/\k<w.heap.size/\ ∃q,q∈e::d.E/\ ∃cells,w.heap[k]? =some (.cells cells q (0,0))) v xs:=by
 obtain⟨h0,inner,ho,hr⟩:=h;refine⟨λk hk=>?_,inner,ho,hr.imp_ (λ_ _ hp=>d.M_mono (λk hk=>?_) (d.M_bound hp))⟩
 ·obtain⟨cells,hc⟩:=zd8 ho k hk;exact⟨h0 k hk,zdt ho k hk,zha ho k hk,e,List.mem_cons_self,cells,hc⟩
 ·obtain⟨⟨h1,h2⟩,h3,h4,q,hq,hc⟩:=hk;exact⟨⟨h1,h3,h4,q,List.mem_cons_of_mem _ hq,hc⟩,h2⟩
theorem zeY(h:d.R e w base ok v xs)(hm: ∀k,ok k->w1.heap[k]? =w.heap[k]?):d.R e w1 base ok v xs:=by
 obtain⟨h0,inner,ho,hr⟩:=h;exact⟨h0,inner,zkA ho (λk hk=>hm k (h0 k hk)),hr.imp_ (λ_ _ hp=>d.M_move (λk hk=>hm k hk.1) hp)⟩
theorem R_lower{base':Nat}(h:d.R e w base ok v xs)(hb:base'<=base):d.R e w base' ok v xs:=by
 obtain⟨h0,inner,ho,hr⟩:=h;exact⟨h0,inner,ziM ho hb,hr.imp_ (λ_ _ hp=>d.M_lower hb hp)⟩
theorem zhd(h:d.R e w base ok v xs)(hm: ∀k,ok k->k<w.heap.size->w1.heap[k]? =w.heap[k]?):d.R e w1 base ok v xs:=
 R_mono (zeY (zc7 h) (λk hk=>hm k hk.1 hk.2.2.1)) (λ_ hk=>hk.1)
theorem zjd{x:α}{cs:List Value}(h:d.M w base ok x cs)(hm: ∀k,ok k->k<w.heap.size->w1.heap[k]? =w.heap[k]?):d.M w1 base ok x cs:=
 d.M_mono (λ_ hk=>hk.1) (d.M_move (λk hk=>hm k hk.1 hk.2.2.1) (d.M_bound h))
theorem R_below(h:d.R e w base ok v xs)(hb:Below w.heap.size w w1):d.R e w1 base ok v xs:=zhd h (λk _ hk=>hb.block k hk)
theorem zib{x:α}{cs:List Value}(h:d.M w base ok x cs)(hb:Below w.heap.size w w1):d.M w1 base ok x cs:=zjd h (λk _ hk=>hb.block k hk)
theorem R_types(h:d.R e w base ok v xs){g t:Nat}{cells:Array Value}(hb:w.heap[g]? =some (.cells cells t (0,0)))(ht: ∀q,q∈e::d.E->q≠t):d.R e w base (λk=>ok k/\k≠g) v xs:=
 R_mono (zc7 h) (λk hk=>⟨hk.1,by
  obtain⟨_,_,_,q,hq,cells',hc⟩:=hk
  rintro rfl
  rw[hc] at hb
  injection hb with hb
  injection hb with _ hb
  exact ht q hq hb⟩)
theorem zge(h:d.R e w base ok v xs): ∃A c,v= .slice A xs.length c/\xs.length<=c/\d.C w A xs.length xs:=by
 obtain⟨A,c,he,hl,hr⟩:=OwnRow.reads h.2;exact⟨A,c,he,hl,hr.imp_ (Below.refl _ _) (λ_ _ hp=>d.K_of_M hp)⟩
theorem R_slice(h:d.R e w base ok v xs): ∃A c,v= .slice A xs.length c:=by
 obtain⟨A,c,he,_⟩:=zge h;exact⟨A,c,he⟩
theorem zfX(h:d.R e w base ok v xs): ∃inner,w.ownsRow base e d.sz v xs.length inner:=by
 obtain⟨_,inner,ho,_⟩:=h;exact⟨inner,ho⟩
theorem R_ne(h:d.R e w base ok v xs){g t:Nat}{cells:Array Value}(hb:w.heap[g]? =some (.cells cells t (0,0)))(ht:e≠t):some g≠v.ownBlock:=OwnRow.ne_block h.2 hb ht
end
def scalar{α:Type}(enc:α->Value)(h1: ∀x,(enc x).oneCell'=true):Kd α where
  sz:=1
  E:=[]
  K:=λ_ x cs=>cs=[enc x]
  M:=λ_ _ _ x cs=>cs=[enc x]
  K_len:=λh=>by rw[h];rfl
  K_one:=λh u hu=>by
    rw[h] at hu
    rw[List.mem_singleton.1 hu]
    exact h1 _
  K_below:=λ_ h=>h
  K_of_M:=λh=>h
  M_mono:=λ_ h=>h
  M_bound:=λh=>h
  M_move:=λ_ h=>h
  M_lower:=λ_ h=>h
def int(k:IntKind):Kd Int:=scalar (Value.int k) (λ_=>rfl)
def bool:Kd Bool:=scalar Value.bool (λ_=>rfl)
def string:Kd ByteArray:=scalar Value.string (λ_=>rfl)
def slice{α:Type}(e:Nat)(d:Kd α):Kd (List α) where
  sz:=1
  E:=e::d.E
  K:=λw xs cs=> ∃A c,cs=[.slice A xs.length c]/\xs.length<=c/\d.C w A xs.length xs
  M:=λw base ok xs cs=> ∃v,cs=[v]/\d.R e w base ok v xs
  K_len:=by
    rintro w x cs ⟨A,c,rfl,_⟩
    rfl
  K_one:=by
    rintro w x cs ⟨A,c,rfl,_⟩ u hu
    rw[List.mem_singleton.1 hu]
    rfl
  K_below:=by
    rintro w w1 x cs hb ⟨A,c,rfl,hl,hr⟩
    exact⟨A,c,rfl,hl,C_below hr hb⟩
  K_of_M:=by
    rintro w base ok x cs ⟨v,rfl,h⟩
    obtain⟨A,c,rfl,hl,hr⟩:=zge h
    exact⟨A,c,rfl,hl,hr⟩
  M_mono:=by
    rintro w base ok ok' x cs hok ⟨v,rfl,h⟩
    exact⟨v,rfl,R_mono h hok⟩
  M_bound:=by
    rintro w base ok x cs ⟨v,rfl,h⟩
    exact⟨v,rfl,zc7 h⟩
  M_move:=by
    rintro w w1 base ok x cs hm ⟨v,rfl,h⟩
    exact⟨v,rfl,zeY h hm⟩
  M_lower:=by
    rintro w base base' ok x cs hb ⟨v,rfl,h⟩
    exact⟨v,rfl,R_lower h hb⟩
def bot{α:Type}(sz:Nat)(E:List Nat):Kd α where
  sz:=sz
  E:=E
  K:=λ_ _ _=>False
  M:=λ_ _ _ _ _=>False
  K_len:=λh=>h.elim
  K_one:=λh=>h.elim
  K_below:=λ_ h=>h
  K_of_M:=λh=>h
  M_mono:=λ_ h=>h
  M_bound:=λh=>h
  M_move:=λ_ h=>h
  M_lower:=λ_ h=>h
def upto{α:Type}(F:Kd α->Kd α)(sz:Nat)(E:List Nat):Nat->Kd α
  |0=>bot sz E
  |n+1=>F (upto F sz E n)
theorem C_get{α:Type}{d:Kd α}{w:World}{A:Option Addr}{n:Nat}{xs:List α}(h:d.C w A n xs)(z:α)(i:Int)(h0:0<=i)(h1:i<n):
 ∃ad c,A=some ad/\c.length=d.sz/\d.K w (xs.getD i.toNat z) c/\ ∀j u,c[j]? =some u->w.cell? (ad.add (i.toNat*d.sz+j))=some u:=ReadsRow.get_ h z i h0 h1
theorem ziN{α:Type}{d:Kd α}{e base:Nat}{ok okp:Nat->Prop}{W w1:World}{v v1:Value}{xs:List α}{p:α}{inner cs:List Value}(h0: ∀k,v.ownBlock=some k->ok k)(hr:Reps (d.M W base (λk=>ok k/\some k≠v.ownBlock)) d.sz xs inner)(hp:d.M W base okp p cs)(hokp: ∀k,okp k->ok k/\some k≠v.ownBlock)(hfresh: ∀k,W.heap.size<=k->ok k)
 (hown:w1.ownsRow base e d.sz v1 (xs.length+1) (inner++cs)) (hg:W.grownBy w1 v.ownBlock) (hat:v1.ownBlock=v.ownBlock\/ ∃b,v1.ownBlock=some b/\W.heap.size<=b):d.R e w1 base ok v1 (xs++[p]):=by
 have hne: ∀k,some k≠v.ownBlock->k<W.heap.size->some k≠v1.ownBlock:=by
  intro k hk hlt;rcases hat with hat|⟨b,hb,hle⟩
  ·rw[hat];exact hk
  ·rw[hb];intro he;(injection he with he);omega
 have step: ∀{q:α} {c:List Value} {o:Nat->Prop},d.M W base o q c->(∀k,o k->ok k/\some k≠v.ownBlock)->d.M w1 base (λk=>ok k/\some k≠v1.ownBlock) q c:=by
  intro q c o hq ho;have h1:=d.M_move (w1:=w1) (λk hk=>hg.block k hk.2.2.1 (ho k hk.1).2) (d.M_bound hq);exact d.M_mono (λk hk=>⟨(ho k hk.1).1,hne k (ho k hk.1).2 hk.2.2.1⟩) h1
 refine⟨λk hk=>?_,inner++cs,by rw[List.length_append,List.length_singleton];exact hown,?_⟩
 ·rcases hat with hat|⟨b,hb,hle⟩
  ·exact h0 k (hat▸hk)
  ·rw[hb] at hk;(injection hk with hk);exact hfresh k (by omega)
 ·exact(hr.imp_ (λ_ _ hq=>step hq (λ_ hk=>hk))).snoc (step hp hokp) (d.K_len (d.K_of_M hp))
section
variable {P : Program} {ops : Array Oper} {rest : List Oper} {o : Oper} {a : Act} {Q : Exit -> Act -> World -> Prop} {α : Type}
theorem R_append(d:Kd α){w0 W:World}(base:Nat)(hgd:o.guard=none)(s x:Operand)(t e:TypeId)(z:Value)(bytes:Nat)
 (ho:o.op= .call {callee:=.builtin .append,args:=#[s,x],argTypes:=#[t,t]})
 (ht:P.underlying t=some (.slice e)) (hinfo:(P.info? e).map (λi=>(i.zero,i.size,i.bytes))=some (some z,d.sz,bytes)) (hz:z.cells.size=d.sz) (E:0<d.sz) (I:0<bytes)
 (v:Value) (xs:List α) (p:α) (cs:List Value) (ok okp:Nat->Prop) (hs:a.eval s=v) (hx:a.eval x= .slice (some ⟨W.heap.size,0,none⟩) 1 1) (hp:d.M W base okp p cs) (hokp: ∀k,okp k->ok k/\some k≠v.ownBlock) (hfresh: ∀k,W.heap.size<=k->ok k)
 (HO:d.R e W base ok v xs) (HB:Below base w0 W) (hbase:base<=W.heap.size) (hl:(xs.length+1)*bytes<=140737488355328)
 (h: ∀v1 w1,d.R e w1 base ok v1 (xs++[p])->Below base w0 w1->W.grownBy w1 v.ownBlock->(v1.ownBlock=v.ownBlock\/ ∃b,v1.ownBlock=some b/\W.heap.size<=b)->wpList P ops Q rest (a.put o.dst v1) w1):
 wpList P ops Q (o::rest) a (W.alloc (.cells cs.toArray e)):=by
 obtain⟨h0,inner,hown,hr⟩:=HO;refine zdG base hgd s x t e z d.sz bytes ho ht hinfo hz E I v xs.length inner cs hs hx (d.K_len (d.K_of_M hp)) (d.K_one (d.K_of_M hp)) hown HB hbase hl ?_;intro v1 w1 B J D A;exact h v1 w1 (ziN h0 hr hp hokp hfresh B D A) J D A
end
theorem zhX{α:Type}{enc:α->Value}(xs:List α):Reps (λ(x:α) (cs:List Value)=>cs=[enc x]) 1 xs (encs enc xs):=by
 refine⟨by simp[encs],λj p hj=>?_⟩;obtain⟨hl,hp⟩:=List.getElem?_eq_some_iff.1 hj;(have hl':j<(encs enc xs).length:=by rw[zft];exact hl);rw[Nat.mul_one,List.drop_eq_getElem_cons hl'];simp[encs,hp]
theorem R_of_own{α:Type}{enc:α->Value}{h1: ∀x,(enc x).oneCell'=true}{e:Nat}{w:World}{base:Nat}{ok:Nat->Prop}{v:Value}{xs:List α}(ho:w.ownsRow base e 1 v xs.length (encs enc xs))(hok: ∀k,v.ownBlock=some k->ok k):(scalar enc h1).R e w base ok v xs:=⟨hok,encs enc xs,ho,zhX xs⟩
theorem own_of_R{α:Type}{enc:α->Value}{h1: ∀x,(enc x).oneCell'=true}{e:Nat}{w:World}{base:Nat}{ok:Nat->Prop}{v:Value}{xs:List α}(h:(scalar enc h1).R e w base ok v xs):w.ownsRow base e 1 v xs.length (encs enc xs):=by
 obtain⟨_,inner,ho,hr⟩:=h;have:inner=encs enc xs:=by
  apply List.ext_getElem?;intro j;rcases Nat.lt_or_ge j xs.length with hj|hj
  ·have h2:=hr.2 j _ (List.getElem?_eq_getElem hj);(have hl:j<inner.length:=by have:=hr.1;simp[scalar] at this;omega);have h3:(inner.drop (j*1)).take 1=[enc xs[j]]:=h2;rw[Nat.mul_one,List.drop_eq_getElem_cons hl] at h3;have h4:inner[j]=enc xs[j]:=by
    have h5:=congrArg List.head? h3;rw[List.take_succ_cons] at h5;exact Option.some.inj h5
   rw[List.getElem?_eq_getElem hl,h4];simp[encs,List.getElem?_eq_getElem hj]
  ·(have h3:inner.length=xs.length:=by have:=hr.1;simp[scalar] at this;omega);rw[List.getElem?_eq_none (by omega),List.getElem?_eq_none (by rw[zft];omega)]
 rw[<-this];exact ho
theorem C_of_reads{α:Type}{enc:α->Value}{d:α}{h1: ∀x,(enc x).oneCell'=true}{w:World}{A:Option Addr}{n:Nat}{xs:List α}(h:ReadsOf enc d w A n xs):(scalar enc h1).C w A n xs:=by
 refine⟨h.1,h.2.1,λhn=>?_⟩;obtain⟨ad,e,hc⟩:=h.2.2 hn;refine⟨ad,e,λj p hj=>⟨[enc p],rfl,rfl,λi u hu=>?_⟩⟩;obtain⟨hl,hp⟩:=List.getElem?_eq_some_iff.1 hj;have h2:=hc j (by have:=h.1;omega);rw[List.getD_eq_getElem?_getD,hj] at h2;cases i with
 |zero=>
  (have:enc p=u:=by simpa using hu);subst this;simpa [scalar] using h2
 |succ i=>simp at hu
theorem zfY{α:Type}{enc:α->Value}{d:α}{h1: ∀x,(enc x).oneCell'=true}{w:World}{A:Option Addr}{n:Nat}{xs:List α}(h:(scalar enc h1).C w A n xs):ReadsOf enc d w A n xs:=by
 refine⟨h.1,h.2.1,λhn=>?_⟩;obtain⟨ad,e,hc⟩:=h.2.2 hn;refine⟨ad,e,λj hj=>?_⟩;(have hl:j<xs.length:=by have:=h.1;omega);obtain⟨c,_,hK,hcell⟩:=hc j _ (List.getElem?_eq_getElem hl);have hK':c=[enc xs[j]]:=hK;subst hK';have:=hcell 0 _ rfl;simpa [scalar,List.getD_eq_getElem?_getD,List.getElem?_eq_getElem hl] using this
end Kd
namespace Kd
theorem R_after{α:Type}{d:Kd α}{e base:Nat}{ok:Nat->Prop}{W w1:World}{u v v1:Value}{xs:List α}(h:d.R e W base (λk=>ok k/\some k≠v.ownBlock) u xs)(hg:W.grownBy w1 v.ownBlock)(hat:v1.ownBlock=v.ownBlock\/ ∃b,v1.ownBlock=some b/\W.heap.size<=b):d.R e w1 base (λk=>ok k/\some k≠v1.ownBlock) u xs:=by
 refine R_mono (zeY (zc7 h) (λk hk=>hg.block k hk.2.2.1 hk.1.2)) (λk hk=>⟨hk.1.1,?_⟩);rcases hat with hat|⟨b,hb,hle⟩
 ·rw[hat];exact hk.1.2
 ·rw[hb];intro he;(injection he with he);have:=hk.2.2.1;omega
end Kd
namespace Kd
section
variable {α β : Type} {d : Kd α} {d' : Kd β} {e e' : Nat} {w w1 W : World} {base b b' : Nat} {ok ok' okv oku : Nat -> Prop} {v u : Value} {xs : List α} {ys : List β}
theorem R_alloc(h:d.R e w base ok v xs)(o:Obj):d.R e (w.alloc o) base ok v xs:=R_below h (zb0 (Below.refl _ _) o)
theorem R_drew(h:d.R e w base ok v xs):d.R e w.drew base ok v xs:=R_below h (zdN (Below.refl _ _))
theorem R_drewN(h:d.R e w base ok v xs)(m:Nat):d.R e (w.drewN m) base ok v xs:=R_below h (zch (Below.refl _ _) m)
theorem C_alloc{A:Option Addr}{n:Nat}(h:d.C w A n xs)(o:Obj):d.C (w.alloc o) A n xs:=C_below h (zb0 (Below.refl _ _) o)
theorem C_drew{A:Option Addr}{n:Nat}(h:d.C w A n xs):d.C w.drew A n xs:=C_below h (zdN (Below.refl _ _))
theorem C_drewN{A:Option Addr}{n:Nat}(h:d.C w A n xs)(m:Nat):d.C (w.drewN m) A n xs:=C_below h (zch (Below.refl _ _) m)
theorem znv(d:Kd α)(w:World):d.C w none ([]:List α).length []:=⟨rfl,by simp,λh=>absurd h (Nat.lt_irrefl 0)⟩
theorem R_reads'{A:Option Addr}{n c:Nat}(h:d.R e w base ok (.slice A n c) xs):n=xs.length/\n<=c/\d.C w A xs.length xs:=by
 obtain⟨A',c',he,hl,hr⟩:=zge h;(injection he with h1 h2 h3);subst h1;exact⟨h2,by omega,hr⟩
theorem R_lt(h:d.R e w base ok v xs): ∀k,v.ownBlock=some k->k<w.heap.size:=by
 obtain⟨inner,ho⟩:=zfX h;exact zha ho
theorem R_base(h:d.R e w base ok v xs): ∀k,v.ownBlock=some k->base<=k:=by
 obtain⟨inner,ho⟩:=zfX h;exact zdt ho
theorem R_form(h:d.R e w base ok v xs)(hp:0<xs.length): ∃g cap,v= .slice (some ⟨g,0,none⟩) xs.length cap/\base<=g/\g<w.heap.size/\ ∃cells,w.heap[g]? =some (.cells cells e (0,0)):=by
 obtain⟨inner,ho⟩:=zfX h;obtain⟨g,cap,he,hb,hl⟩:=ho.form hp;obtain⟨cells,hc⟩:=zd8 ho g (by rw[he];simp[Value.ownBlock]);exact⟨g,cap,he,hb,hl,cells,hc⟩
theorem znP(hu:d'.R e' W b oku u ys)(h:d.R e w1 W.heap.size okv v xs)(hb:Below W.heap.size W w1):d'.R e' w1 b (λk=>oku k/\some k≠v.ownBlock) u ys:=by
 obtain⟨inner,ho⟩:=zfX h;exact R_mono (zeY (zc7 hu) (λk hk=>hb.block k hk.2.2.1)) (λk hk=>⟨hk.1,λhe=>by have:=zdt ho k he.symm;have:=hk.2.2.1;omega⟩)
end
section
variable {w W : World} {A : Option Addr} {n : Nat}
theorem at_int{k:IntKind}{xs:List Int}(h:(Kd.int k).C w A n xs)(i:Int)(h0:0<=i)(h1:i<n): ∃ad,A=some ad/\w.cell? (ad.add i.toNat)=some (.int k (rd xs i)):=
 ReadsOf.at_ (zfY (enc:=Value.int k) (d:=(0:Int)) (h1:=λ_=>rfl) h) i h0 h1
theorem at_string{xs:List ByteArray}(h:Kd.string.C w A n xs)(i:Int)(h0:0<=i)(h1:i<n): ∃ad,A=some ad/\w.cell? (ad.add i.toNat)=some (.string (rdOf ByteArray.empty xs i)):=
 ReadsOf.at_ (zfY (enc:=Value.string) (d:=ByteArray.empty) (h1:=λ_=>rfl) h) i h0 h1
variable {α : Type} {enc : α -> Value} {h1 : ∀ x, (enc x).oneCell' = true} {e base g cap : Nat} {ok : Nat -> Prop} {xs : List α}
theorem zmN(d:α)(h:(scalar enc h1).R e W base ok (.slice (some ⟨g,0,none⟩) xs.length cap) xs)(i:Int)(h0:0<=i)(hi:i<xs.length):W.cell? ⟨g,i.toNat,none⟩=some (enc (rdOf d xs i))/\W.frozen? ⟨g,i.toNat,none⟩=false:=zjb (own_of_R h) i h0 hi
theorem znw(h:(scalar enc h1).R e W base ok (.slice (some ⟨g,0,none⟩) xs.length cap) xs)(i:Int)(x:α):(scalar enc h1).R e (W.setCell ⟨g,i.toNat,none⟩ (enc x)) base ok (.slice (some ⟨g,0,none⟩) xs.length cap) (xs.set i.toNat x)/\W.grownBy (W.setCell ⟨g,i.toNat,none⟩ (enc x)) (some g):=by
 obtain⟨ho,hg⟩:=zhc (own_of_R h) i x;exact⟨R_of_own (by rw[List.length_set];exact ho) h.1,hg⟩
end
section
variable {P : Program} {ops : Array Oper} {rest : List Oper} {o : Oper} {a : Act} {Q : Exit -> Act -> World -> Prop}
theorem event_run{W w1:World}{v:Value}(hgd:o.guard=none)(hrun:(execOp a.eval o).run P W= .ok (.value v) w1)(h:wpList P ops Q rest (a.put o.dst v) w1):wpList P ops Q (o::rest) a W:=by
 refine wpList_plain hgd λK hK=>?_;unfold Oper.wp;rw[hrun];exact hK _ _ h
variable {α : Type}
theorem R_lit(d:Kd α){w0 W:World}(base e:Nat)(hgd:o.guard=none){N:Tmp}(_hd:o.dst=some N){xs:List α}{inner:List Value}{ok okp:Nat->Prop}
 (hrun:(execOp a.eval o).run P W= .ok (.value (.slice (some ⟨W.heap.size,0,none⟩) xs.length xs.length)) (W.alloc (.cells inner.toArray e)))
 (hrep:Reps (d.M W base okp) d.sz xs inner) (hok: ∀k,okp k->ok k) (hfresh:ok W.heap.size) (HB:Below base w0 W) (hbase:base<=W.heap.size) (hm:xs.length<=9223372036854775807)
 (h: ∀v1 w1,d.R e w1 base ok v1 xs->Below base w0 w1->W.grownBy w1 none->(∃b,v1.ownBlock=some b/\W.heap.size<=b)->wpList P ops Q rest (a.put o.dst v1) w1):wpList P ops Q (o::rest) a W:=by
 refine event_run hgd hrun (h _ _ ⟨λk hk=>?_,inner,?_,?_⟩ (HB.alloc hbase _) (World.grownBy_alloc W _ none) ⟨W.heap.size,by simp[Value.ownBlock],Nat.le_refl _⟩)
 ·(have:W.heap.size=k:=by simpa [Value.ownBlock] using hk);subst this;exact hfresh
 ·have h2:=World.ownsRow_lit (base:=base) (e:=e) (size:=d.sz) W inner.toArray xs.length hbase (by simpa [maxLen] using hm) (by simpa using hrep.1);simpa using h2
 ·refine hrep.imp_ (λp c hp=>d.M_mono (λk hk=>⟨hok k hk.1,λhe=>?_⟩) (zib (d.M_bound hp) (zb0 (Below.refl _ _) _)));(have h3:k=W.heap.size:=by simpa [Value.ownBlock] using he);have:=hk.2.2.1;omega
theorem zje{α:Type}{R:α->List Value->Prop}{z:Value}{size:Nat}{z0:α}(hz:z.cells.size=size)(hs:0<size)(h0:R z0 z.cells.toList)(m:Nat):Reps R size (List.replicate m z0) (madeCells z.cells (m*size)).toList:=by
 refine⟨by simp[size_madeCells],λj p hj=>?_⟩;obtain⟨hjl,hp⟩:=List.getElem?_eq_some_iff.1 hj;(have hjm:j<m:=by simpa using hjl);(have hp':z0=p:=by simpa using hp);subst hp';(have hle:j*size+size<=m*size:=by rw[<-Nat.succ_mul];exact Nat.mul_le_mul_right _ hjm);have:((madeCells z.cells (m*size)).toList.drop (j*size)).take size=z.cells.toList:=by
  apply List.ext_getElem
  ·simp[size_madeCells,hz];omega
  ·intro i h1 h2;(have hi:i<size:=by rw[Array.length_toList,hz] at h2;exact h2);have hmod:(j*size+i)%size=i:=by
    rw[Nat.mul_comm,Nat.mul_add_mod];exact Nat.mod_eq_of_lt hi
   simp[madeCells,hz,hmod];rw[getElem!_pos z.cells i (by omega)]
 rw[this];exact h0
theorem R_make(d:Kd α){w0 W:World}(base e:Nat)(hgd:o.guard=none){N:Tmp}(hd:o.dst=some N)(t:TypeId)(x y:Operand)(ho:o.op= .makeSlice t x y)(n:Int)(hx:a.eval x= .int .i64 n)(hy:a.eval y= .int .i64 n)
 (ht:P.underlying t=some (.slice e)) (z:Value) (bytes:Nat) (hinfo:(P.info? e).map (λi=>(i.zero,i.size,i.bytes))=some (some z,d.sz,bytes)) (hz:z.cells.size=d.sz) (A:0<d.sz) (B:0<bytes)
 (z0:α) {ok okp:Nat->Prop} (hzero:d.M W base okp z0 z.cells.toList) (hok: ∀k,okp k->ok k) (hfresh:ok W.heap.size) (h0:0<=n) (hl:n.toNat*bytes<=281474976710656) (HB:Below base w0 W) (hbase:base<=W.heap.size)
 (h: ∀v1 w1,d.R e w1 base ok v1 (List.replicate n.toNat z0)->Below base w0 w1->W.grownBy w1 none->(∃b,v1.ownBlock=some b/\W.heap.size<=b)->wpList P ops Q rest (a.put o.dst v1) w1):wpList P ops Q (o::rest) a W:=by
 obtain⟨m,rfl⟩:=Int.eq_ofNat_of_zero_le h0;simp only[Int.toNat_natCast] at hl h;obtain⟨i0,hi,hzz⟩:=Option.map_eq_some_iff.1 hinfo;simp only[Prod.mk.injEq] at hzz;obtain⟨D,E,I⟩:=hzz;have hm:m<=281474976710656:=Nat.le_trans (Nat.le_mul_of_pos_right _ B) hl
 have hr:=run_make (P:=P) W t e i0 z ht hi D .i64 .i64 (m:Int) (m:Int) (by omega) (by omega)
  (by
   have h3:((i0.bytes*m:Nat):Int)<=281474976710656:=by rw[I,Nat.mul_comm];omega
   rwa [Int.natCast_mul] at h3) (by omega)
 simp only[Int.toNat_natCast] at hr;rw[E] at hr;refine R_lit d base e hgd hd (xs:=List.replicate m z0) (inner:=(madeCells z.cells (m*d.sz)).toList) (okp:=okp) (ok:=ok) ?_ (zje hz A hzero m) hok hfresh HB hbase (by simp;omega) h;simp[execOp,ho,hx,hy,hr]
end
end Kd
theorem zkB{w:World}{base n m c size:Nat}{e:TypeId}{A:Option Addr}{xs:List Value}(h:w.ownsRow base e size (.slice A n c) n xs)(hm:m<=n):w.ownsRow base e size (.slice A m c) m (xs.take (m*size)):=by
 obtain⟨h1,h2⟩:=h;refine⟨by rw[List.length_take,h1];exact Nat.min_eq_left (Nat.mul_le_mul_right _ hm),?_⟩;rcases h2 with⟨he,h0⟩|⟨g,cap,cur,he,hb,hh,hnc,hcm,hcs,ht⟩
 ·(injection he with ha _ hc);subst ha;subst hc;exact .inl ⟨by rw[show m=0 by omega],by omega⟩
 ·(injection he with ha _ hc);subst ha;subst hc;refine .inr ⟨g,c,cur,rfl,hb,hh,by omega,hcm,hcs,?_⟩;rw[<-ht,List.take_take,Nat.min_eq_left (Nat.mul_le_mul_right _ hm)]
section
variable {P : Program}
theorem zmO(t e:TypeId)(kh:IntKind){i:TypeInfo}(ht:P.underlying t=some (.slice e))(hi:P.info? e=some i)(A:Option Addr)(n c:Nat)(j:Int)(h0:0<=j)(hm:j<=n)(hc:n<=c):
 ∀W:World,(Instr.slice t (.slice A n c) none (some (.int kh j)) none).run P W= .ok (.slice A j.toNat c) W:=by
 intro W;(have hel:P.elem t=e:=by simp[Program.elem,ht]);(have hu:P.underlying t=some (.slice (P.elem t)):=by rw[hel];exact ht);(have ha:(A.map λx=>x.add 0)=A:=by cases A<;>simp[Addr.add]);rw[run_slice_h W t A n c hu kh j h0 (by omega),hel];simp[sizeOf,typeInfo,hi,sliced,Result.andThen,ha]
theorem zkC(t e:TypeId)(kl:IntKind){i:TypeInfo}(ht:P.underlying t=some (.slice e))(hi:P.info? e=some i)(size:Nat)(hsz:i.size=size)(A:Option Addr)(n c:Nat)(j:Int)(h0:0<=j)(hm:j<=n):
 ∀W:World,(Instr.slice t (.slice A n c) (some (.int kl j)) none none).run P W= .ok (.slice (if c=j.toNat then A else A.map (·.add (j.toNat*size))) (n-j.toNat) (c-j.toNat)) W:=by
 intro W;(have hel:P.elem t=e:=by simp[Program.elem,ht]);(have hu:P.underlying t=some (.slice (P.elem t)):=by rw[hel];exact ht);rw[run_slice_l W t A n c hu kl j h0 hm,hel];simp[sizeOf,typeInfo,hi,hsz,sliced,Result.andThen]
end
def QRow(w:World)(base:Nat)(e:TypeId)(size:Nat)(v:Value)(n:Nat)(xs:List Value):Prop:=
  xs.length=n*size/\
  ((n=0/\ ∃A,v= .slice A 0 0/\ ∀a,A=some a->base<=a.block/\ ∃cur,w.heap[a.block]? =some (.cells cur e (0,0)))\/
   ∃g off cap cur,v= .slice (some ⟨g,off*size,none⟩) n cap/\base<=g/\w.heap[g]? =some (.cells cur e (0,0))/\n<=cap/\off+cap<=maxLen/\cur.size=(off+cap)*size/\(cur.toList.drop (off*size)).take (n*size)=xs)
section
variable {w w1 : World} {base n size : Nat} {e : TypeId} {v : Value} {xs : List Value}
theorem zkD(h:w.ownsRow base e size v n xs):QRow w base e size v n xs:=by
 obtain⟨h1,h2⟩:=h;refine⟨h1,?_⟩;rcases h2 with⟨rfl,h0⟩|⟨g,cap,cur,rfl,hb,hh,hnc,hcm,hcs,ht⟩
 ·exact .inl ⟨h0,none,rfl,λa ha=>by cases ha⟩
 ·exact .inr ⟨g,0,cap,cur,by rw[Nat.zero_mul],hb,hh,hnc,by rw[Nat.zero_add];exact hcm,by rw[Nat.zero_add];exact hcs,by rw[Nat.zero_mul,List.drop_zero];exact ht⟩
theorem zmP(g o j:Nat):(⟨g,o,none⟩:Addr).add j=⟨g,o+j,none⟩:=by unfold Addr.add;split<;>simp_all
end
namespace Kd
theorem zjf{α:Type}{R:α->List Value->Prop}{size m:Nat}{ps:List α}{cs:List Value}(h:Reps R size ps cs)(hm:m<=ps.length):Reps R size (ps.take m) (cs.take (m*size)):=by
 refine⟨by rw[List.length_take,List.length_take,h.1,Nat.min_eq_left hm,Nat.min_eq_left (Nat.mul_le_mul_right _ hm)],λj p hj=>?_⟩;rw[List.getElem?_take] at hj;split at hj
 ·rename_i hjm;have:=h.2 j p hj;(have hle:j*size+size<=m*size:=by rw[<-Nat.succ_mul];exact Nat.mul_le_mul_right _ hjm);rw[List.drop_take,List.take_take,Nat.min_eq_left (by omega)];exact this
 ·cases hj
theorem zmQ{α:Type}{d:Kd α}{e m n c:Nat}{w:World}{base:Nat}{ok:Nat->Prop}{A:Option Addr}{xs:List α}(h:d.R e w base ok (.slice A n c) xs)(hm:m<=xs.length):d.R e w base ok (.slice A m c) (xs.take m):=by
 obtain⟨h0,inner,ho,hr⟩:=h;have hn:n=xs.length:=by
  obtain⟨A',c',he⟩:=zja ho;injection he
 subst hn;have hb: ∀x y:Nat,(Value.slice A x c).ownBlock=(Value.slice A y c).ownBlock:=by
  intro x y;cases A<;>rfl
 refine⟨λk hk=>h0 k (by rw[hb _ m];exact hk),inner.take (m*d.sz),?_,?_⟩
 ·rw[List.length_take,Nat.min_eq_left hm];exact zkB ho hm
 ·rw[hb m xs.length];exact zjf hr hm
def Q{α:Type}(d:Kd α)(e:Nat)(w:World)(base:Nat)(ok:Nat->Prop)(v:Value)(xs:List α):Prop:=
  (∀k,v.ownBlock=some k->ok k)/\ ∃inner,QRow w base e d.sz v xs.length inner/\Reps (d.M w base (λk=>ok k/\some k≠v.ownBlock)) d.sz xs inner
section
variable {α : Type} {d : Kd α} {e : Nat} {w w1 W : World} {base : Nat} {ok ok' : Nat -> Prop} {v : Value} {xs : List α}
theorem zmR(h:d.R e w base ok v xs):d.Q e w base ok v xs:=by
 obtain⟨h0,inner,ho,hr⟩:=h;exact⟨h0,inner,zkD ho,hr⟩
theorem Q_nil(d:Kd α)(e:Nat)(w:World)(base:Nat)(ok:Nat->Prop):d.Q e w base ok (.slice none 0 0) []:=zmR (R_nil d e w base ok)
end
end Kd
namespace Kd
section
variable {α : Type} {d : Kd α} {e e' : Nat} {w w1 W : World} {base : Nat} {ok : Nat -> Prop} {u v : Value} {xs : List α}
theorem zlO(h:d.R e w base ok v xs): ∀k,v.ownBlock=some k-> ∃cells,w.heap[k]? =some (.cells cells e (0,0)):=by
 obtain⟨inner,ho⟩:=zfX h;exact λk hk=>zd8 ho k hk
theorem R_apart'(h:d.R e W base ok u xs)(hty: ∀k,v.ownBlock=some k-> ∃cells,W.heap[k]? =some (.cells cells e' (0,0)))(ht: ∀q,q∈e::d.E->q≠e'):d.R e W base (λk=>ok k/\some k≠v.ownBlock) u xs:=by
 refine R_mono (zc7 h) (λk hk=>⟨hk.1,λhe=>?_⟩);obtain⟨_,_,_,q,hq,cells,hc⟩:=hk;obtain⟨cells',hc'⟩:=hty k he.symm;rw[hc] at hc';(injection hc' with hc');(injection hc' with _ hc');exact ht q hq hc'
theorem R_elder'(hu:d.R e W base ok u xs)(hbase: ∀k,v.ownBlock=some k->W.heap.size<=k)(hb:Below W.heap.size W w1):d.R e w1 base (λk=>ok k/\some k≠v.ownBlock) u xs:=
 R_mono (zeY (zc7 hu) (λk hk=>hb.block k hk.2.2.1)) (λk hk=>⟨hk.1,λhe=>by have:=hbase k he.symm;have:=hk.2.2.1;omega⟩)
theorem R_new'(h:d.R e w1 W.heap.size ok v xs)(hlt: ∀k,u.ownBlock=some k->k<W.heap.size):d.R e w1 W.heap.size (λk=>ok k/\some k≠u.ownBlock) v xs:=
 R_mono (zc7 h) (λk hk=>⟨hk.1,λhe=>by have:=hlt k he.symm;have:=hk.2.1;omega⟩)
theorem fresh'(hlt: ∀k,u.ownBlock=some k->k<W.heap.size): ∀k,W.heap.size<=k->some k≠u.ownBlock:=λk hk he=>by have:=hlt k he.symm;omega
end
end Kd
namespace Kd
section
variable {α : Type} {d : Kd α} {e base g n cap : Nat} {ok okp : Nat -> Prop} {W : World} {xs : List α}
theorem zmS(h:d.R e W base ok (.slice (some ⟨g,0,none⟩) n cap) xs)(z:α)(i:Int)(h0:0<=i)(h1:i<n):
 ∃c,c.length=d.sz/\d.M W base (λk=>ok k/\k≠g) (xs.getD i.toNat z) c/\(∀j u,c[j]? =some u->W.cell? ⟨g,i.toNat*d.sz+j,none⟩=some u)/\ ∀j,W.frozen? ⟨g,i.toNat*d.sz+j,none⟩=false:=by
 obtain⟨hn,hnc,hC⟩:=R_reads' h;obtain⟨_,inner,ho,hr⟩:=h;(have hil:i.toNat<xs.length:=by omega);(have hseg:i.toNat*d.sz+d.sz<=inner.length:=by rw[hr.1,<-Nat.succ_mul];exact Nat.mul_le_mul_right _ hil);have hM:=hr.2 i.toNat _ (List.getElem?_eq_getElem hil);refine⟨(inner.drop (i.toNat*d.sz)).take d.sz,by rw[List.length_take,List.length_drop];omega,?_,λj u hu=>?_,λj=>?_⟩
 ·rw[List.getD_eq_getElem?_getD,List.getElem?_eq_getElem hil];exact d.M_mono (λk hk=>⟨hk.1,λhe=>hk.2 (by rw[he];simp[Value.ownBlock])⟩) hM
 ·rw[List.getElem?_take] at hu;split at hu
  ·rw[List.getElem?_drop] at hu;have:=ho.cells (g:=g) (by simp[Value.ownBlock]) _ u hu;rwa [add_plain] at this
  ·cases hu
 ·obtain⟨cells,hc⟩:=zd8 ho g (by simp[Value.ownBlock]);exact za1 hc _
end
end Kd
namespace Kd
theorem zhY{α:Type}{R:α->List Value->Prop}{size:Nat}{ps qs:List α}{cs ds:List Value}(h:Reps R size ps cs)(h':Reps R size qs ds):Reps R size (ps++qs) (cs++ds):=by
 refine⟨by rw[List.length_append,List.length_append,h.1,h'.1,Nat.add_mul],λj p hj=>?_⟩;rcases Nat.lt_or_ge j ps.length with hlt|hge
 ·rw[List.getElem?_append_left hlt] at hj;(have hle:j*size+size<=cs.length:=by rw[h.1,<-Nat.succ_mul];exact Nat.mul_le_mul_right _ hlt);rw[List.drop_append_of_le_length (by omega),List.take_append_of_le_length (by rw[List.length_drop];omega)];exact h.2 j p hj
 ·rw[List.getElem?_append_right hge] at hj;have h2:=h'.2 (j-ps.length) p hj;have hle:ps.length*size<=j*size:=Nat.mul_le_mul_right _ hge;rw[List.drop_append,List.drop_eq_nil_of_le (by rw[h.1];exact hle),List.nil_append,h.1,<-Nat.sub_mul];exact h2
section
variable {P : Program} {ops : Array Oper} {rest : List Oper} {o : Oper} {a : Act} {Q : Exit -> Act -> World -> Prop} {α : Type}
theorem R_append_rows(d:Kd α){Rr:α->List Value->Prop}{w0 W:World}(base:Nat)(hgd:o.guard=none)(s x:Operand)(t e:TypeId)(z:Value)(bytes:Nat)
 (ho:o.op= .call {callee:=.builtin .append,args:=#[s,x],argTypes:=#[t,t]})
 (ht:P.underlying t=some (.slice e)) (hinfo:(P.info? e).map (λi=>(i.zero,i.size,i.bytes))=some (some z,d.sz,bytes)) (hz:z.cells.size=d.sz) (B:0<d.sz) (D:0<bytes)
 (v:Value) (xs ys:List α) (A:Option Addr) (m c:Nat) (ok okp:Nat->Prop) (hs:a.eval s=v) (hx:a.eval x= .slice A m c)
 (HO:d.R e W base ok v xs) (HR:ReadsRow Rr d.sz W A m ys) (hKM: ∀x cs,Rr x cs->d.M W base okp x cs) (hokp: ∀k,okp k->ok k/\some k≠v.ownBlock) (hfresh: ∀k,W.heap.size<=k->ok k)
 (HB:Below base w0 W) (hbase:base<=W.heap.size) (hl:(xs.length+m)*bytes<=140737488355328)
 (h: ∀v1 w1,d.R e w1 base ok v1 (xs++ys)->Below base w0 w1->W.grownBy w1 v.ownBlock->(v1.ownBlock=v.ownBlock\/ ∃b,v1.ownBlock=some b/\W.heap.size<=b)->wpList P ops Q rest (a.put o.dst v1) w1):
 wpList P ops Q (o::rest) a W:=by
 obtain⟨i0,hi,hzz⟩:=Option.map_eq_some_iff.1 hinfo;simp only[Prod.mk.injEq] at hzz;obtain⟨E,I,J⟩:=hzz;have hm:ys.length=m:=HR.1;have hlen:xs.length+m<=140737488355328:=Nat.le_trans (Nat.le_mul_of_pos_right _ D) hl;obtain⟨hok,inner,hown,hr⟩:=HO;have hrun: ∃v1 w1,(Builtin.append_ #[t,t] o.type #[v,.slice A m c]).run P W= .ok v1 w1/\d.R e w1 base ok v1 (xs++ys)/\W.grownBy w1 v.ownBlock/\(v1.ownBlock=v.ownBlock\/ ∃b,v1.ownBlock=some b/\W.heap.size<=b):=by
  rcases A with _|ad
  ·have h0:m=0:=by
    rcases Nat.eq_zero_or_pos m with h0|h0
    ·exact h0
    ·obtain⟨ad,h,_⟩:=HR.2.2 h0;cases h
   subst h0;obtain rfl:ys=[]:=List.eq_nil_of_length_eq_zero hm;refine⟨v,W,?_,by rw[List.append_nil];exact⟨hok,inner,hown,hr⟩,World.grownBy.refl W _,.inl rfl⟩;rcases hown.2 with⟨rfl,hn⟩|⟨g,cap,cur,rfl,_,_,hnc,_⟩
   ·simp[Builtin.append_,run_underlying ht,sizeOf,typeInfo,hi,Builtin.lenOf,Builtin.firstCells]
   ·simp[Builtin.append_,run_underlying ht,sizeOf,typeInfo,hi,Builtin.lenOf,Builtin.firstCells,hnc,storeCells]
  ·obtain⟨news,hnr,hnc⟩:=ReadsRow.inner_ HR;have hnM:Reps (d.M W base okp) d.sz ys news:=hnr.imp_ (λp c hp=>hKM p c hp);have hone: ∀u∈news,u.oneCell'=true:=by
    intro u hu;obtain⟨q,hq,rfl⟩:=List.mem_iff_getElem.1 hu;have hql:q / d.sz<ys.length:=by
     rw[Nat.div_lt_iff_lt_mul B];rw[<-hnM.1];exact hq
    have hc:=hnM.2 (q / d.sz) _ (List.getElem?_eq_getElem hql);refine d.K_one (d.K_of_M hc) _ ?_;rw[List.mem_iff_getElem?];refine⟨q%d.sz,?_⟩;rw[List.getElem?_take,if_pos (Nat.mod_lt _ B),List.getElem?_drop,Nat.mul_comm,Nat.div_add_mod,List.getElem?_eq_getElem hq]
   obtain⟨v1,w1,hrun,h2,hg,_,hat⟩:=run_append_own_at (P:=P) W base t o.type e i0 z d.sz bytes ht hi E I J hz B v xs.length inner hown ad m c news (by rw[hnM.1,hm]) hnc hone (by simp only[maxLen];omega) hl hbase;have hat':v1.ownBlock=v.ownBlock\/ ∃b,v1.ownBlock=some b/\W.heap.size<=b:=by
    rcases hat with hat|hat
    ·exact .inl hat
    ·exact .inr ⟨_,hat,Nat.le_refl _⟩
   have hne: ∀k,some k≠v.ownBlock->k<W.heap.size->some k≠v1.ownBlock:=by
    intro k hk hlt;rcases hat' with hat|⟨b,hb,hle⟩
    ·rw[hat];exact hk
    ·rw[hb];intro he;(injection he with he);omega
   have step: ∀{q:α} {c:List Value} {o:Nat->Prop},d.M W base o q c->(∀k,o k->ok k/\some k≠v.ownBlock)->d.M w1 base (λk=>ok k/\some k≠v1.ownBlock) q c:=by
    intro q c o hq ho;have h1:=d.M_move (w1:=w1) (λk hk=>hg.block k hk.2.2.1 (ho k hk.1).2) (d.M_bound hq);exact d.M_mono (λk hk=>⟨(ho k hk.1).1,hne k (ho k hk.1).2 hk.2.2.1⟩) h1
   refine⟨v1,w1,hrun,⟨λk hk=>?_,inner++news,by rw[List.length_append,hm];exact h2,zhY (hr.imp_ (λ_ _ hq=>step hq (λ_ hk=>hk))) (hnM.imp_ (λ_ _ hq=>step hq hokp))⟩,hg,hat'⟩;rcases hat' with hat|⟨b,hb,hle⟩
   ·exact hok k (hat▸hk)
   ·rw[hb] at hk;(injection hk with hk);exact hfresh k (by omega)
 obtain⟨v1,w1,O,h1,hg,hat⟩:=hrun;refine wpList_plain hgd λK hK=>?_;unfold Oper.wp execOp;simp only[ho,resolve,invoke,builtin,Sem.run_bind,Sem.run_pure,Result.andThen_ok,List.map_toArray,List.map_cons,List.map_nil,hs,hx,O];exact hK _ _ (h v1 w1 h1 (HB.grown hg hbase (zdt hown)) hg hat)
end
end Kd
theorem add_add(a:Addr)(i j:Nat):(a.add i).add j=a.add (i+j):=by
 unfold Addr.add;by_cases h1:i=0<;>by_cases h2:j=0<;>simp[h1,h2,Nat.add_assoc]
namespace Kd
section
variable {α : Type} {k : Kd α} {w : World} {A : Option Addr} {xs : List α} {m c : Nat}
theorem zmT(h:k.C w A xs.length xs)(hm:m<=xs.length):k.C w A (xs.take m).length (xs.take m):=by
 (have hl:(xs.take m).length=m:=by rw[List.length_take];omega);refine⟨rfl,by rw[hl];have:=h.2.1;omega,λhp=>?_⟩;obtain⟨ad,e,hc⟩:=h.2.2 (by omega);refine⟨ad,e,λj p hj=>hc j p ?_⟩;rw[List.getElem?_take] at hj;split at hj
 ·exact hj
 ·cases hj
theorem C_drop(h:k.C w A xs.length xs)(hm:m<=xs.length)(hc:xs.length<=c):k.C w (if c=m then A else A.map (·.add (m*k.sz))) (xs.drop m).length (xs.drop m):=by
 have hl:(xs.drop m).length=xs.length-m:=List.length_drop;refine⟨rfl,by rw[hl];have:=h.2.1;omega,λhp=>?_⟩;rw[hl] at hp;obtain⟨ad,rfl,hcell⟩:=h.2.2 (by omega);rw[if_neg (by omega)];refine⟨ad.add (m*k.sz),rfl,λj p hj=>?_⟩;rw[List.getElem?_drop] at hj;obtain⟨cs,h1,h2,h3⟩:=hcell (m+j) p hj;refine⟨cs,h1,h2,λi u hu=>?_⟩;rw[add_add,show m*k.sz+(j*k.sz+i)=(m+j)*k.sz+i by rw[Nat.add_mul];omega];exact h3 i u hu
end
end Kd
theorem zay{w W:World}(h:Below w.heap.size w W):w.heap.size<=W.heap.size:=h.size
theorem ziO{w W w2:World}(h:Below w.heap.size w W)(k:Below W.heap.size W w2):Below w.heap.size w w2:=zeA h h.size k
theorem ReadsInt.drewN{W:World}{k:IntKind}{A:Option Addr}{n:Nat}{xs:List Int}(h:ReadsInt W k A n xs)(m:Nat):ReadsInt (W.drewN m) k A n xs:=h
theorem zb5{w W:World}{g j:Nat}{v:Value}(h:Below w.heap.size w W)(hg:w.heap.size<=g):Below w.heap.size w (W.setCell ⟨g,j,none⟩ v):=h.setCell hg _
theorem ReadsOf.drewN{α:Type}{enc:α->Value}{d:α}{W:World}{A:Option Addr}{n:Nat}{xs:List α}(h:ReadsOf enc d W A n xs)(m:Nat):ReadsOf enc d (W.drewN m) A n xs:=h
theorem cell_far{W:World}{p a:Addr}(h:a.block≠p.block)(u:Value):(W.setCell p u).cell? a=W.cell? a:=by
 have:=Below.heap_setCell W p u a.block h;simp[World.cell?,this]
theorem zlP{w:World}{g:Nat}{t:TypeId}{cs cs':Array Value}(h:w.heap[g]? =some (.cells cs t (0,0)))(i:Nat)(u:Value)(e:cs.setIfInBounds i u=cs'):(w.setCell ⟨g,i,none⟩ u).heap[g]? =some (.cells cs' t (0,0)):=e▸zlM h i u
theorem zaT{base:Nat}{w W:World}(h:Below base w W):Below base w W.drew:=h.drew
namespace Kd
section
variable {α : Type} {d : Kd α} {e base g : Nat} {ok : Nat -> Prop} {w w1 : World} {v : Value} {xs : List α} {o : Obj}
theorem freshB(hb:w.heap[g]? =some o): ∀k,w.heap.size<=k->k≠g:=λk hk=>by have:=zba hb;omega
end
end Kd
section
variable {P : Program} {ops : Array Oper} {rest : List Oper} {o : Oper} {a : Act} {Q : Exit -> Act -> World -> Prop}
theorem zaf{W:World}(hgd:o.guard=none){N:Tmp}(_hd:o.dst=some N){cs:Array Value}{t:TypeId}
 (hrun:(execOp a.eval o).run P W= .ok (.value (.pointer (some ⟨W.heap.size,0,none⟩))) (W.alloc (.cells cs t (0,0))))
 (h: ∀g,g=W.heap.size-> ∀w1,w1.heap[g]? =some (.cells cs t (0,0))->Below W.heap.size W w1->wpList P ops Q rest (a.put o.dst (.pointer (some ⟨g,0,none⟩))) w1):wpList P ops Q (o::rest) a W:=
 Kd.event_run hgd hrun (h _ rfl _ (zia W _) (zb0 (Below.refl _ _) _))
end
namespace Kd
section
variable {α : Type} {enc : α -> Value} {h1 : ∀ x, (enc x).oneCell' = true} {e base g n cap : Nat} {ok : Nat -> Prop} {W : World} {xs : List α}
theorem R_celln(d:α)(h:(scalar enc h1).R e W base ok (.slice (some ⟨g,0,none⟩) n cap) xs)(i:Int)(h0:0<=i)(hi:i<n):W.cell? ⟨g,i.toNat,none⟩=some (enc (rdOf d xs i))/\W.frozen? ⟨g,i.toNat,none⟩=false:=by
 obtain⟨rfl,_⟩:=R_reads' h;exact zmN d h i h0 hi
end
end Kd
section
variable {P : Program} {ops : Array Oper} {rest : List Oper} {o : Oper} {a : Act} {Q : Exit -> Act -> World -> Prop}
theorem zck{W w1:World}(hgd:o.guard=none){t:TypeId}{p:Tmp}{v:Operand}(_ho:o.op= .store t (.tmp p) v)(hN:o.dst=none)
 (hrun:(execOp a.eval o).run P W= .ok .skip w1) (h: ∀w',w'=w1->wpList P ops Q rest a w'):wpList P ops Q (o::rest) a W:=by
 refine wpList_plain hgd λK hK=>?_;unfold Oper.wp;rw[hrun];show K (a.put o.dst undef) w1;rw[hN];exact hK _ _ (h _ rfl)
end
namespace Kd
section
variable {α : Type} {enc : α -> Value} {h1 : ∀ x, (enc x).oneCell' = true} {e base g n cap : Nat} {ok : Nat -> Prop} {W : World} {xs : List α}
theorem R_putg(h:(scalar enc h1).R e W base ok (.slice (some ⟨g,0,none⟩) n cap) xs)(i:Int)(x:α):(scalar enc h1).R e (W.setCell ⟨g,i.toNat,none⟩ (enc x)) base ok (.slice (some ⟨g,0,none⟩) n cap) (xs.set i.toNat x)/\W.grownBy (W.setCell ⟨g,i.toNat,none⟩ (enc x)) (some g):=by
 obtain⟨rfl,_⟩:=R_reads' h;exact znw h i x
end
end Kd
section
variable {P : Program} {ops : Array Oper} {rest : List Oper} {o : Oper} {a : Act} {Q : Exit -> Act -> World -> Prop} {W : World}
theorem zae{N:Tmp}(_hN:o.dst=some N)(h:wpList P ops Q (o::rest) a W):wpList P ops Q (o::rest) a W:=h
theorem zct{t:TypeId}{p:Tmp}{v:Operand}(_ho:o.op= .store t (.tmp p) v)(h:wpList P ops Q (o::rest) a W):wpList P ops Q (o::rest) a W:=h
end
section
variable {P : Program} {ops : Array Oper} {o : Oper} {a : Act} {Q : Exit -> Act -> World -> Prop} {Kc : Act -> World -> Prop}
theorem zfZ{W w1:World}{v:Value}(hw:Region.wanted o (yielded ops a.tmps)=true)(hrun:(execOp a.eval o).run P W= .ok (.value v) w1)(h:Kc (a.put o.dst v) w1):if Region.wanted o (yielded ops a.tmps)=true then Oper.wp P o a W Kc Q else Kc (a.put o.dst undef) W:=by
 rw[if_pos hw];unfold Oper.wp;rw[hrun];exact h
theorem zcJ{W:World}(hw:Region.wanted o (yielded ops a.tmps)=true){N:Tmp}(_hd:o.dst=some N){cs:Array Value}{t:TypeId}
 (hrun:(execOp a.eval o).run P W= .ok (.value (.pointer (some ⟨W.heap.size,0,none⟩))) (W.alloc (.cells cs t (0,0))))
 (h: ∀g,g=W.heap.size-> ∀w1,w1.heap[g]? =some (.cells cs t (0,0))->Below W.heap.size W w1->Kc (a.put o.dst (.pointer (some ⟨g,0,none⟩))) w1):if Region.wanted o (yielded ops a.tmps)=true then Oper.wp P o a W Kc Q else Kc (a.put o.dst undef) W:=
 zfZ hw hrun (h _ rfl _ (zia W _) (zb0 (Below.refl _ _) _))
namespace Kd
variable {α : Type}
theorem R_lit_step(d:Kd α){w0 W:World}(base e:Nat)(hw:Region.wanted o (yielded ops a.tmps)=true){N:Tmp}(_hd:o.dst=some N){xs:List α}{inner:List Value}{ok okp:Nat->Prop}
 (hrun:(execOp a.eval o).run P W= .ok (.value (.slice (some ⟨W.heap.size,0,none⟩) xs.length xs.length)) (W.alloc (.cells inner.toArray e)))
 (hrep:Reps (d.M W base okp) d.sz xs inner) (hok: ∀k,okp k->ok k) (hfresh:ok W.heap.size) (HB:Below base w0 W) (hbase:base<=W.heap.size) (hm:xs.length<=9223372036854775807)
 (h: ∀v1 w1,d.R e w1 base ok v1 xs->Below base w0 w1->W.grownBy w1 none->(∃b,v1.ownBlock=some b/\W.heap.size<=b)->Kc (a.put o.dst v1) w1):if Region.wanted o (yielded ops a.tmps)=true then Oper.wp P o a W Kc Q else Kc (a.put o.dst undef) W:=by
 refine zfZ hw hrun (h _ _ ⟨λk hk=>?_,inner,?_,?_⟩ (HB.alloc hbase _) (World.grownBy_alloc W _ none) ⟨W.heap.size,by simp[Value.ownBlock],Nat.le_refl _⟩)
 ·(have:W.heap.size=k:=by simpa [Value.ownBlock] using hk);subst this;exact hfresh
 ·have h2:=World.ownsRow_lit (base:=base) (e:=e) (size:=d.sz) W inner.toArray xs.length hbase (by simpa [maxLen] using hm) (by simpa using hrep.1);simpa using h2
 ·refine hrep.imp_ (λp c hp=>d.M_mono (λk hk=>⟨hok k hk.1,λhe=>?_⟩) (zib (d.M_bound hp) (zb0 (Below.refl _ _) _)));(have h3:k=W.heap.size:=by simpa [Value.ownBlock] using he);have:=hk.2.2.1;omega
end Kd
end
inductive Vals (P : Program) (tmps : Array Value) (w : World) : List ResultVar -> List Value -> Prop where
  | nil : Vals P tmps w [] []
  | tmp {u : Tmp} {rs : List ResultVar} {vs : List Value} (h : Vals P tmps w rs vs) : Vals P tmps w (.tmp u :: rs) (tmps.getD u undef :: vs)
  | cell {p : Tmp} {ty : TypeId} {rs : List ResultVar} {vs : List Value} (g : Nat) (t : TypeId) (cs : Array Value) (fr : Nat × Nat) (d : TypeDesc)
      (hp : tmps.getD p undef = .pointer (some ⟨g, 0, none⟩)) (hg : w.heap[g]? = some (.cells cs t fr))
      (hu : P.underlying ty = some d) (hd : (match d with | .struct _ | .array _ _ => true | _ => false) = true) (hi : (P.info? ty).map (·.size) = some cs.size)
      (h : Vals P tmps w rs vs) : Vals P tmps w (.cell p ty :: rs) (.agg cs :: vs)
section
variable {P : Program} {tmps : Array Value} {w : World}
theorem zkE{rs:List ResultVar}{vs:List Value}(hv:Vals P tmps w rs vs)(f:ResultVar->Sem Value)(hf: ∀u,f (.tmp u)=pure (tmps.getD u undef))(hc: ∀a t,f (.cell a t)=(do loadVar t (<-asAddr (tmps.getD a undef)))):
 (rs.mapM f).run P w= .ok vs w:=by
 induction hv with
 |nil=>simp
 |tmp h ih=>simp[List.mapM_cons,hf,ih]
 |cell g t cs fr d hp hg hu hd hi h ih=>
  rw[List.mapM_cons,hc,hp];simp[asAddr,run_loadVar_row w g t _ cs fr d hg hu hd hi,ih]
theorem zb6{fn:Func}{rs:List ResultVar}{vs:List Value}(h:fn.results=rs.toArray)(hl:vs.length≠1)(hv:Vals P tmps w rs vs):(results fn tmps).run P w= .ok (.tuple vs.toArray) w:=by
 unfold results;rw[h,List.mapM_toArray];simp only[Sem.run_bind,Sem.run_map];rw[zkE hv]
 ·simp[hl]
 ·intro u;rfl
 ·intro a t;rfl
end
end Go.Proofs.YtilidabdbhaljaaGreatDoorW.PrintWords
end
section
namespace Go.Proofs.YtilidabdbhaljaaGreatDoorW.PrintLast
section
variable {P : Program} {ops : Array Oper} {Q : Exit -> Act -> World -> Prop} {md : Region.Mode} {S : World -> Prop} {ds : List Nat}
def Region.reachB(md:Region.Mode)(ops:Array Oper)(i:Nat):Nat->Nat->Bool
  |0,_=>false
  |fuel+1,d=>match ops[d]? with
    |some o=>o.after.any λe=>Region.binds md e&&(e.on==i||Region.reachB md ops i fuel e.on)
    |none=>false
def Region.closedB(md:Region.Mode)(ops:Array Oper)(listed:Array Bool):Bool:=
  (List.range ops.size).all λj=> !listed.getD j false||match ops[j]? with
    |some o=>o.after.all λe=> !Region.binds md e||listed.getD e.on false
    |none=>true
def Region.lastB(md:Region.Mode)(ops:Array Oper)(listed:Array Bool)(ds:List Nat)(i:Nat):Bool:=
  ds.all λd=>listed.getD d true||Region.reachB md ops i ops.size d
def ListedClosed(md:Region.Mode)(ops:Array Oper)(listed:Array Bool):Prop:=
  ∀j oj,ops[j]? =some oj->listed.getD j false=true-> ∀e∈oj.after,Region.binds md e=true->listed.getD e.on false=true
theorem Region.closedB_spec{listed:Array Bool}(h:Region.closedB md ops listed=true):ListedClosed md ops listed:=by
 intro j oj hj hl e he hb;have hlt:j<ops.size:=(Array.getElem?_eq_some_iff.1 hj).1;have h1:=List.all_eq_true.1 h j (List.mem_range.2 hlt);simp only[hl,hj,Bool.not_true,Bool.false_or] at h1;have h2:=Array.all_eq_true_iff_forall_mem.1 h1 e he;simpa [hb] using h2
theorem ListedClosed.set{listed:Array Bool}{i:Nat}(h:ListedClosed md ops listed)(hi:i∈Region.ready md ops listed):ListedClosed md ops (listed.setIfInBounds i true):=by
 obtain⟨_,oi,hoi,hall⟩:=mem_ready.1 hi;intro j oj hj hl e he hb;by_cases hij:i=j
 ·subst hij;have:oj=oi:=Option.some.inj (hj.symm.trans hoi);subst this;exact getD_set_true (hall e he hb)
 ·rw[getD_set_ne false hij] at hl;exact getD_set_true (h j oj hj hl e he hb)
theorem Region.reach_listed{listed:Array Bool}{i:Nat}(hc:ListedClosed md ops listed): ∀(fuel d:Nat),Region.reachB md ops i fuel d=true->listed.getD d false=true->listed.getD i false=true
 |0,_,h,_=>by simp[Region.reachB] at h
 |fuel+1,d,h,hl=>by
  unfold Region.reachB at h
  cases ho:ops[d]? with
  |none=>rw[ho] at h;simp at h
  |some o=>
   rw[ho] at h
   obtain⟨e,he,h1⟩:=Array.any_eq_true'.1 h
   simp only[Bool.and_eq_true,Bool.or_eq_true,beq_iff_eq] at h1
   have hle:=hc d o ho hl e he h1.1
   rcases h1.2 with h2|h2
   ·rw[<-h2];exact hle
   ·exact Region.reach_listed hc fuel e.on h2 hle
theorem Region.reach_not_ready{listed:Array Bool}{i d fuel:Nat}(hc:ListedClosed md ops listed)(hr:Region.reachB md ops i fuel d=true)(hun:listed.getD i true=false):d∉Region.ready md ops listed:=by
 intro hd;obtain⟨_,o,ho,hall⟩:=mem_ready.1 hd;have hi:listed.getD i false=true:=by
  cases fuel with
  |zero=>simp[Region.reachB] at hr
  |succ n=>
   unfold Region.reachB at hr;rw[ho] at hr;obtain⟨e,he,h1⟩:=Array.any_eq_true'.1 hr;simp only[Bool.and_eq_true,Bool.or_eq_true,beq_iff_eq] at h1;have hle:=hall e he h1.1;rcases h1.2 with h2|h2
   ·rw[<-h2];exact hle
   ·exact Region.reach_listed hc n e.on h2 hle
 rcases Nat.lt_or_ge i listed.size with h'|h'
 ·simp[h'] at hun hi;rw[hun] at hi;cases hi
 ·simp[Array.getElem?_eq_none h'] at hun
def wpAnyLast(P:Program)(md:Region.Mode)(ops:Array Oper)(Q:Exit->Act->World->Prop)(S:World->Prop)(ds:List Nat):Nat->Array Bool->Act->World->Prop
  |0,listed,a,w=>Region.ready md ops listed=[]/\Q .normal a w
  |fuel+1,listed,a,w=>
    (Region.ready md ops listed=[]->Q .normal a w)/\
    ∀i∈Region.ready md ops listed,wpOp P ops Q i (λa' w'=>(i∉ds->S w->S w')/\wpAnyLast P md ops Q S ds fuel (listed.setIfInBounds i true) a' w') a w
theorem zeV: ∀(fuel:Nat) (listed:Array Bool) (a:Act) (w:World),wpAnyLast P md ops Q S ds fuel listed a w->wpAny P md ops Q fuel listed a w
 |0,_,_,_,h=>h
 |fuel+1,_,_,_,h=>⟨h.1,λi hi=>wpOp_mono (λa' w' h'=>zeV fuel _ a' w' h'.2) (h.2 i hi)⟩
theorem zf0{i:Nat}{oi:Oper}{v:Value}(hi:ops[i]? =some oi)(hsel: ∀(j:Nat) (o:Oper) cs b,ops[j]? =some o->o.op≠ .select cs b)
    (hQ: ∀c a w,Q (.panic c) (a.put oi.dst v) w->Q (.panic c) a w) (n:Nat):
    ∀(fuel:Nat) (listed:Array Bool) (a:Act) (w:World),
      (∀j oj,ops[j]? =some oj->j≠i->listed.getD j true=false->(∀e∈oj.after,Region.binds md e=true->e.on≠i)->oi.apart ops oj=true)->
      ListedClosed md ops listed->(∀d∈ds,listed.getD d true=false->Region.reachB md ops i n d=true)->
      i∈Region.ready md ops listed->YieldsIf P ops S oi v a->S w->
      wpAnyLast P md ops Q S ds fuel (listed.setIfInBounds i true) (a.put oi.dst v) w->wpAnyLast P md ops Q S ds (fuel+1) listed a w:=by
  intro fuel;induction fuel with
  |zero=>
    intro listed a w _ _ _ hr hy hS H;refine⟨λh=>(by rw[h] at hr;cases hr),λj hj=>?_⟩;by_cases hji:j=i
    ·subst hji;exact hy.wpOp hi hS ⟨λ_ h=>h,H⟩
    ·have:=ready_mono hj hji;rw[H.1] at this;cases this
  |succ fuel ih=>
    intro listed a w hfree hc hd hr hy hS H;refine⟨λh=>(by rw[h] at hr;cases hr),λj hj=>?_⟩;by_cases hji:j=i
    ·subst hji;exact hy.wpOp hi hS ⟨λ_ h=>h,H⟩
    ·have h1:=H.2 j (ready_mono hj hji);obtain⟨hjun,oj,hoj,hall⟩:=mem_ready.1 hj;have hiun:=(mem_ready.1 hr).1;have hnot: ∀e∈oj.after,Region.binds md e=true->e.on≠i:=λe he hb heq=>by
       have h1:=hall e he hb;rw[heq] at h1;rcases Nat.lt_or_ge i listed.size with h'|h'
       ·simp[h'] at hiun h1;rw[hiun] at h1;cases h1
       ·simp[Array.getElem?_eq_none h'] at h1
     have hjd:j∉ds:=λhm=>Region.reach_not_ready hc (hd j hm hjun) hiun hj;have h2:=wpOp_putIf hoj (hfree j oj hoj hji hjun hnot) (λcs b=>hsel i oi cs b hi) (λcs b=>hsel j oj cs b hoj) hQ hy h1
     have hfree': ∀k ok,ops[k]? =some ok->k≠i->(listed.setIfInBounds j true).getD k true=false->
         (∀e∈ok.after,Region.binds md e=true->e.on≠i)->oi.apart ops ok=true:=λk ok hk hki hun hno=>by
       refine hfree k ok hk hki ?_ hno
       by_cases hjk:j=k
       ·subst hjk;exact hjun
       ·rw[getD_set_ne true hjk] at hun;exact hun
     have hd': ∀d∈ds,(listed.setIfInBounds j true).getD d true=false->Region.reachB md ops i n d=true:=λd hm hun=>by
       refine hd d hm ?_;by_cases hjk:j=d
       ·subst hjk;exact hjun
       ·rw[getD_set_ne true hjk] at hun;exact hun
     refine wpOp_mono (λa' w' h3=>⟨h3.2.1,ih (listed.setIfInBounds j true) a' w' hfree' (hc.set hj) hd' (ready_mono hr (Ne.symm hji)) h3.1 (h3.2.1 hjd hS) ?_⟩) h2;rw[Array.setIfInBounds_comm _ _ hji];exact h3.2.2
theorem zgZ{i:Nat}{oi:Oper}{v:Value}(hi:ops[i]? =some oi)(hsel: ∀(j:Nat) (o:Oper) cs b,ops[j]? =some o->o.op≠ .select cs b)
    (hQ: ∀c a w,Q (.panic c) (a.put oi.dst v) w->Q (.panic c) a w):
    ∀(fuel:Nat) (listed:Array Bool) (a:Act) (w:World),
      (∀j oj,ops[j]? =some oj->j≠i->listed.getD j true=false->(∀e∈oj.after,Region.binds md e=true->e.on≠i)->oi.apart ops oj=true)->
      i∈Region.ready md ops listed->Yields P ops oi v a->
      wpAnyLast P md ops Q S ds fuel (listed.setIfInBounds i true) (a.put oi.dst v) w->wpAnyLast P md ops Q S ds (fuel+1) listed a w:=by
  intro fuel;induction fuel with
  |zero=>
    intro listed a w _ hr hy H;refine⟨λh=>(by rw[h] at hr;cases hr),λj hj=>?_⟩;by_cases hji:j=i
    ·subst hji;exact(hy.yieldsIf (S:=λ_=>True)).wpOp hi trivial ⟨λ_ h=>h,H⟩
    ·have:=ready_mono hj hji;rw[H.1] at this;cases this
  |succ fuel ih=>
    intro listed a w hfree hr hy H;refine⟨λh=>(by rw[h] at hr;cases hr),λj hj=>?_⟩;by_cases hji:j=i
    ·subst hji;exact(hy.yieldsIf (S:=λ_=>True)).wpOp hi trivial ⟨λ_ h=>h,H⟩
    ·have h1:=H.2 j (ready_mono hj hji);obtain⟨hjun,oj,hoj,hall⟩:=mem_ready.1 hj;have hiun:=(mem_ready.1 hr).1;have hnot: ∀e∈oj.after,Region.binds md e=true->e.on≠i:=λe he hb heq=>by
       have h1:=hall e he hb;rw[heq] at h1;rcases Nat.lt_or_ge i listed.size with h'|h'
       ·simp[h'] at hiun h1;rw[hiun] at h1;cases h1
       ·simp[Array.getElem?_eq_none h'] at h1
     have h2:=wpOp_put hoj (hfree j oj hoj hji hjun hnot) (λcs b=>hsel i oi cs b hi) (λcs b=>hsel j oj cs b hoj) hQ hy h1
     have hfree': ∀k ok,ops[k]? =some ok->k≠i->(listed.setIfInBounds j true).getD k true=false->
         (∀e∈ok.after,Region.binds md e=true->e.on≠i)->oi.apart ops ok=true:=λk ok hk hki hun hno=>by
       refine hfree k ok hk hki ?_ hno
       by_cases hjk:j=k
       ·subst hjk;exact hjun
       ·rw[getD_set_ne true hjk] at hun;exact hun
     refine wpOp_mono (λa' w' h3=>⟨h3.2.1,ih (listed.setIfInBounds j true) a' w' hfree' (ready_mono hr (Ne.symm hji)) h3.1 ?_⟩) h2;rw[Array.setIfInBounds_comm _ _ hji];exact h3.2.2
theorem zgf{i:Nat}{oi:Oper}{v:Value}{fuel:Nat}{listed:Array Bool}{a:Act}{w:World}(hi:ops[i]? =some oi)
 (hs:Region.noSelect ops=true) (hf:Region.free md ops listed i=true) (hr:(Region.ready md ops listed).contains i=true)
 (hc:Region.closedB md ops listed=true) (hl:Region.lastB md ops listed ds i=true)
 (hQ: ∀c a w,Q (.panic c) (a.put oi.dst v) w->Q (.panic c) a w) (hy:YieldsIf P ops S oi v a) (hS:S w)
 (h:wpAnyLast P md ops Q S ds fuel (listed.setIfInBounds i true) (a.put oi.dst v) w):wpAnyLast P md ops Q S ds (fuel+1) listed a w:=
 zf0 hi (Region.noSelect_spec hs) hQ ops.size fuel listed a w (Region.free_spec hi hf) (Region.closedB_spec hc)
  (λd hm hun=>by have:=List.all_eq_true.1 hl d hm;rw[hun] at this;simpa using this) (by simpa using hr) hy hS h
theorem zg0{rs:List Nat}{fuel:Nat}{listed:Array Bool}{a:Act}{w:World}(hr:Region.ready md ops listed=rs)(hne:rs≠[])
 (h: ∀i∈rs,wpOp P ops Q i (λa' w'=>(i∉ds->S w->S w')/\wpAnyLast P md ops Q S ds fuel (listed.setIfInBounds i true) a' w') a w):wpAnyLast P md ops Q S ds (fuel+1) listed a w:=
 ⟨λh0=>absurd (hr▸h0) hne,hr▸h⟩
theorem zgg{listed:Array Bool}{a:Act}{w:World}(hr:Region.ready md ops listed=[])(h:Q .normal a w):
 ∀fuel,wpAnyLast P md ops Q S ds fuel listed a w
 |0=>⟨hr,h⟩
 |_+1=>⟨λ_=>h,by rw[hr];simp⟩
theorem zgh{id:Nat}{a:Act}{w:World}(hm:P.follows .mixedOrders=true)
 (h:wpAnyLast P .any ops Q S ds ops.size (Array.replicate ops.size false) a {w with drawn:=w.drawn+1}):(Code.region id ops true).wp P Q a w:=
 wp_region_any hm (zeV _ _ _ _ h)
end
section
variable {P : Program} {ops : Array Oper} {Q : Exit -> Act -> World -> Prop} {md : Region.Mode} {S : World -> Prop} {ds : List Nat}
def AllReadyL(P:Program)(md:Region.Mode)(ops:Array Oper)(Q:Exit->Act->World->Prop)(S:World->Prop)(ds:List Nat)(fuel:Nat)(listed:Array Bool)(a:Act)(w:World)(rs:List Nat):Prop:=
  ∀i∈rs,wpOp P ops Q i (λa' w'=>(i∉ds->S w->S w')/\wpAnyLast P md ops Q S ds fuel (listed.setIfInBounds i true) a' w') a w
theorem AllReadyL.nil{fuel:Nat}{listed:Array Bool}{a:Act}{w:World}:AllReadyL P md ops Q S ds fuel listed a w []:=λ_ h=>by cases h
theorem AllReadyL.cons{fuel:Nat}{listed:Array Bool}{a:Act}{w:World}{i:Nat}{o:Oper}{rs:List Nat}(ho:ops[i]? =some o)(hd:i∉ds)
 (h: ∀K':Act->World->Prop,Shut (∀a w,S w->(S w->wpAnyLast P md ops Q S ds fuel (listed.setIfInBounds i true) a w)->K' a w)->if Region.wanted o (yielded ops a.tmps)=true then Oper.wp P o a w K' Q else K' (a.put o.dst undef) w)
 (hs:AllReadyL P md ops Q S ds fuel listed a w rs):AllReadyL P md ops Q S ds fuel listed a w (i::rs):=λj hj=>by
 rcases List.mem_cons.1 hj with rfl|hj
 ·exact wpOp_step ho (λK' hK=>h K' (λa w hS hW=>hK a w ⟨λ_ _=>hS,hW hS⟩))
 ·exact hs j hj
theorem zd9{rs:List Nat}{fuel:Nat}{listed:Array Bool}{a:Act}{w:World}(hr:Region.ready md ops listed=rs)(hne:rs≠[])
 (h:AllReadyL P md ops Q S ds fuel listed a w rs):wpAnyLast P md ops Q S ds (fuel+1) listed a w:=zg0 hr hne h
theorem zbv{id n:Nat}{a:Act}{w:World}(l:Array Bool)(hm:P.follows .mixedOrders=true)(hn:ops.size=n)(hl:Array.replicate n false=l)(hS:S w.drew)
 (h:S w.drew->wpAnyLast P .any ops Q S ds n l a w.drew):(Code.region id ops true).wp P Q a w:=by
 subst hn;subst hl;exact zgh hm (h hS)
def takeB(md:Region.Mode)(ops:Array Oper)(ds:List Nat)(l l':Array Bool)(i:Nat):Bool:=
  Region.noSelect ops&&Region.free md ops l i&&(Region.ready md ops l).contains i&&Region.closedB md ops l&&Region.lastB md ops l ds i&&(l.setIfInBounds i true==l')
theorem zc1{i:Nat}{N:Option Tmp}{oi:Oper}{v:Value}{fuel:Nat}{l:Array Bool}{a:Act}{w:World}(l':Array Bool)(hi:ops[i]? =some oi)(hN:oi.dst=N)(hc:takeB md ops ds l l' i=true)
 (hQ: ∀c a w,Q (.panic c) (a.put oi.dst v) w->Q (.panic c) a w) (hy:YieldsIf P ops S oi v a) (hS:S w) {a':Act} (ha:a.put N v=a')
 (h:wpAnyLast P md ops Q S ds fuel l' a' w):wpAnyLast P md ops Q S ds (fuel+1) l a w:=by
 subst ha;subst hN;simp only[takeB,Bool.and_eq_true,beq_iff_eq] at hc;obtain⟨⟨⟨⟨⟨h1,h2⟩,h3⟩,h4⟩,h5⟩,h6⟩:=hc;subst h6;exact zgf hi h1 h2 h3 h4 h5 hQ hy hS h
def anyB(md:Region.Mode)(ops:Array Oper)(l l':Array Bool)(i:Nat):Bool:=
  Region.noSelect ops&&Region.free md ops l i&&(Region.ready md ops l).contains i&&(l.setIfInBounds i true==l')
theorem zb9{i:Nat}{N:Option Tmp}{oi:Oper}{v:Value}{fuel:Nat}{l:Array Bool}{a:Act}{w:World}(l':Array Bool)(hi:ops[i]? =some oi)(hN:oi.dst=N)(hc:anyB md ops l l' i=true)
 (hQ: ∀c a w,Q (.panic c) (a.put oi.dst v) w->Q (.panic c) a w) (hy:Yields P ops oi v a) {a':Act} (ha:a.put N v=a')
 (h:wpAnyLast P md ops Q S ds fuel l' a' w):wpAnyLast P md ops Q S ds (fuel+1) l a w:=by
 subst ha;subst hN;simp only[anyB,Bool.and_eq_true,beq_iff_eq] at hc;obtain⟨⟨⟨h1,h2⟩,h3⟩,h6⟩:=hc;subst h6;exact zgZ hi (Region.noSelect_spec h1) hQ fuel l a w (Region.free_spec hi h2) (by simpa using h3) hy h
def readyB(md:Region.Mode)(ops:Array Oper)(l l':Array Bool)(i:Nat):Bool:=(Region.ready md ops l==[i])&&(l.setIfInBounds i true==l')
theorem one_{i:Nat}{N:Option Tmp}{oi:Oper}{fuel:Nat}{l:Array Bool}{a:Act}{w:World}(l':Array Bool)(hi:ops[i]? =some oi)(hN:oi.dst=N)(hc:readyB md ops l l' i=true)(hd:i∉ds)
 (h: ∀K:Act->World->Prop,Shut (∀a' w',S w'->(S w'->wpAnyLast P md ops Q S ds fuel l' a' w')->K a' w')->if Region.wanted oi (yielded ops a.tmps)=true then Oper.wp P oi a w K Q else K (a.put N undef) w):
 wpAnyLast P md ops Q S ds (fuel+1) l a w:=by
 subst hN;simp only[readyB,Bool.and_eq_true,beq_iff_eq] at hc;obtain⟨h1,h2⟩:=hc;subst h2;exact zd9 h1 (by simp) (AllReadyL.cons hi hd (λK hK=>h K hK) AllReadyL.nil)
theorem zdO{l:Array Bool}{a:Act}{w:World}{n:Nat}(hr:(Region.ready md ops l==[])=true)(h:Q .normal a w):wpAnyLast P md ops Q S ds n l a w:=zgg (by simpa using hr) h n
theorem two_{i j:Nat}{Ni Nj:Option Tmp}{oi oj:Oper}{fuel:Nat}{l:Array Bool}{a:Act}{w:World}(li lj:Array Bool)(hi:ops[i]? =some oi)(hj:ops[j]? =some oj)(hNi:oi.dst=Ni)(hNj:oj.dst=Nj)
 (hc:(Region.ready md ops l==[i,j]&&l.setIfInBounds i true==li&&l.setIfInBounds j true==lj)=true) (hdi:i∉ds) (hdj:j∉ds)
 (h1: ∀K:Act->World->Prop,Shut (∀a' w',S w'->(S w'->wpAnyLast P md ops Q S ds fuel li a' w')->K a' w')->if Region.wanted oi (yielded ops a.tmps)=true then Oper.wp P oi a w K Q else K (a.put Ni undef) w)
 (h2: ∀K:Act->World->Prop,Shut (∀a' w',S w'->(S w'->wpAnyLast P md ops Q S ds fuel lj a' w')->K a' w')->if Region.wanted oj (yielded ops a.tmps)=true then Oper.wp P oj a w K Q else K (a.put Nj undef) w):
 wpAnyLast P md ops Q S ds (fuel+1) l a w:=by
 subst hNi;subst hNj;simp only[Bool.and_eq_true,beq_iff_eq] at hc;obtain⟨⟨h3,h4⟩,h5⟩:=hc;subst h4;subst h5;exact zd9 h3 (by simp) (AllReadyL.cons hi hdi (λK hK=>h1 K hK) (AllReadyL.cons hj hdj (λK hK=>h2 K hK) AllReadyL.nil))
def putAll:Act->List (Tmp×Value)->Act
  |a,[]=>a
  |a,(n,v)::r=>putAll (a.put (some n) v) r
theorem zf1{σ:Type}{fuel:Nat}{l:Array Bool}{a:Act}{w:World}(fuel':Nat)(l':Array Bool)(ns:σ->List (Tmp×Value))(F:σ->World->Prop)
 (hcont: ∀s w',F s w'->wpAnyLast P md ops Q S ds fuel' l' (putAll a (ns s)) w')
 (h:(∀s w',F s w'->wpAnyLast P md ops Q S ds fuel' l' (putAll a (ns s)) w')->wpAnyLast P md ops Q S ds fuel l a w):wpAnyLast P md ops Q S ds fuel l a w:=h hcont
theorem zcO{fuel:Nat}{l:Array Bool}{a a':Act}{w:World}(ha:a=a')(h:wpAnyLast P md ops Q S ds fuel l a' w):wpAnyLast P md ops Q S ds fuel l a w:=by
 subst ha;exact h
theorem znx{oi:Oper}{N:Option Tmp}{a:Act}{w:World}{K:Act->World->Prop}(f:FuncId)(args:Array Value)(hw:Region.wanted oi (yielded ops a.tmps)=true)(hN:oi.dst=N)(hrun:(execOp a.eval oi).run P w= .ok (.enter f args) w)
 (h:Calls P f args w λe w'=> ∃v,e= .returned v/\K (a.put N v) w'):if Region.wanted oi (yielded ops a.tmps)=true then Oper.wp P oi a w K Q else K (a.put N undef) w:=by
 rw[if_pos hw];subst hN;unfold Oper.wp;rw[hrun,Oper.upon_enter];refine h.mono λe w'' hh=>?_;obtain⟨v,rfl,hk⟩:=hh;exact hk
theorem zic{f:FuncId}{fn:Func}(hf:P.funcs[f]? =some fn)(hname:(fn.name== "runtime.NumGoroutine")=false)(hb:fn.body.isSome=true)(args:Array Value)(w:World):(callFunc f args).run P w= .ok (.enter f args) w:=by
 (have h1:fn.name≠ "runtime.NumGoroutine" :=by simpa using hname);obtain⟨c,hc⟩:=Option.isSome_iff_exists.1 hb;simp[callFunc,hf,h1,hc]
theorem zcD{oi:Oper}{N:Option Tmp}{a:Act}{w:World}{K:Act->World->Prop}{f:FuncId}{fn:Func}{as_:Array Operand}{ts:Array TypeId}(hf:P.funcs[f]? =some fn)(hname:(fn.name== "runtime.NumGoroutine")=false)(hb:fn.body.isSome=true)(args:Array Value)
 (hw:Region.wanted oi (yielded ops a.tmps)=true) (hN:oi.dst=N) (hop:oi.op= .call {callee:=.value (.func f),args:=as_,argTypes:=ts}) (hargs:as_.map a.eval=args)
 (h:Calls P f args w λe w'=> ∃v,e= .returned v/\K (a.put N v) w'):if Region.wanted oi (yielded ops a.tmps)=true then Oper.wp P oi a w K Q else K (a.put N undef) w:=by
 refine znx f args hw hN ?_ h;have he:=zic hf hname hb args w;unfold execOp;simp[hop,resolve,Deferred.ofValue,invoke,Act.eval,hargs,he]
theorem zbm{rest:List Oper}{oi:Oper}{a:Act}{w:World}(N:Option Tmp)(hd:oi.dst=N)(hg:oi.guard=none){f:FuncId}{fn:Func}{as_:Array Operand}{ts:Array TypeId}(hf:P.funcs[f]? =some fn)(hname:(fn.name== "runtime.NumGoroutine")=false)(hb:fn.body.isSome=true)(args:Array Value)
 (hop:oi.op= .call {callee:=.value (.func f),args:=as_,argTypes:=ts}) (hargs:as_.map a.eval=args)
 (h:Calls P f args w λe w'=> ∃v,e= .returned v/\wpList P ops Q rest (a.put N v) w'):wpList P ops Q (oi::rest) a w:=by
 refine wpList_plain hg λK hK=>?_;have he:=zic hf hname hb args w;have hrun:(execOp a.eval oi).run P w= .ok (.enter f args) w:=by
  unfold execOp;simp[hop,resolve,Deferred.ofValue,invoke,Act.eval,hargs,he]
 unfold Oper.wp;rw[hrun,Oper.upon_enter];refine h.mono λe w'' hh=>?_;obtain⟨v,rfl,hk⟩:=hh;subst hd;exact hK _ _ hk
theorem zdP{oi:Oper}{a:Act}{w w1:World}{K:Act->World->Prop}(hw:Region.wanted oi (yielded ops a.tmps)=true)(hN:oi.dst=none)(hrun:(execOp a.eval oi).run P w= .ok .skip w1)
 (h:K a w1):if Region.wanted oi (yielded ops a.tmps)=true then Oper.wp P oi a w K Q else K (a.put none undef) w:=by
 rw[if_pos hw];unfold Oper.wp;rw[hrun];show K (a.put oi.dst undef) w1;rw[hN];exact h
theorem zbb(n:Int):IntKind.i64.wrap n=Go.RowKit.wrap64 n:=by unfold Go.RowKit.wrap64;exact IntKind.wrap_i64 n
theorem zbo(n:Int):IntKind.i32.wrap n=Go.RowKit.wrap32 n:=by unfold Go.RowKit.wrap32;exact IntKind.wrap_i32 n
end
end Go.Proofs.YtilidabdbhaljaaGreatDoorW.PrintLast
end
section
namespace Go.Proofs.YtilidabdbhaljaaGreatDoorW.PrintLast
open Go.Proofs.YtilidabdbhaljaaGreatDoorW.PrintWords (zaa)
def needsOf(md:Region.Mode)(o:Oper):List Nat:=(o.after.toList.filter (λe=>Region.binds md e)).map (λe=>e.on)
def clashOf(md:Region.Mode)(ops:Array Oper)(i:Nat)(oi:Oper):List Nat:=(List.range ops.size).filter λj=> !(j==i)&&match ops[j]? with
  |some oj=> !(oj.after.any (λe=>Region.binds md e&&e.on==i)||oi.apart ops oj)
  |none=>false
def rtab(md:Region.Mode)(ops:Array Oper):Bool×List (List Nat×List Nat):=(Region.noSelect ops,(List.range ops.size).map λi=>match ops[i]? with
  |some o=>(needsOf md o,clashOf md ops i o)
  |none=>([],[]))
def readyAt(T:List (List Nat×List Nat))(l:List Bool)(i:Nat):Bool:= !l.getD i true&&match T[i]? with
  |some r=>r.1.all (λj=>l.getD j false)
  |none=>false
def readyT(T:List (List Nat×List Nat))(l:List Bool):List Nat:=(List.range T.length).filter (readyAt T l)
def freeT(T:List (List Nat×List Nat))(l:List Bool)(i:Nat):Bool:=match T[i]? with
  |some r=>r.2.all (λj=>l.getD j true)
  |none=>false
def closedT(T:List (List Nat×List Nat))(l:List Bool):Bool:=(List.range T.length).all λj=> !l.getD j false||match T[j]? with
  |some r=>r.1.all (λk=>l.getD k false)
  |none=>true
def reachT(T:List (List Nat×List Nat))(i:Nat):Nat->Nat->Bool
  |0,_=>false
  |fuel+1,d=>match T[d]? with
    |some r=>r.1.any λj=>j==i||reachT T i fuel j
    |none=>false
def lastT(T:List (List Nat×List Nat))(l:List Bool)(ds:List Nat)(i:Nat):Bool:=ds.all λd=>l.getD d true||reachT T i T.length d
section
variable {md : Region.Mode} {ops : Array Oper} {T : Bool × List (List Nat × List Nat)} {l l' li lj lk : Array Bool} {ds : List Nat} {i j k : Nat}
theorem gd(l:Array Bool)(j:Nat)(b:Bool):l.getD j b=l.toList.getD j b:=by simp[Array.getD_eq_getD_getElem?,List.getD_eq_getElem?_getD]
theorem zgu(o:Oper)(p:Nat->Bool):o.after.all (λe=> !Region.binds md e||p e.on)=(needsOf md o).all p:=by
 unfold needsOf;rw[<-Array.all_toList];induction o.after.toList with
 |nil=>rfl
 |cons e r ih=>
  rw[List.all_cons,ih,List.filter_cons];cases h:Region.binds md e<;>simp
theorem zjg(o:Oper)(p:Nat->Bool):o.after.any (λe=>Region.binds md e&&p e.on)=(needsOf md o).any p:=by
 unfold needsOf;rw[<-Array.any_toList];induction o.after.toList with
 |nil=>rfl
 |cons e r ih=>
  rw[List.any_cons,ih,List.filter_cons];cases h:Region.binds md e<;>simp
theorem zdC:(rtab md ops).2.length=ops.size:=by simp[rtab]
theorem zea{o:Oper}(h:ops[i]? =some o):(rtab md ops).2[i]? =some (needsOf md o,clashOf md ops i o):=by
 have hi:=(Array.getElem?_eq_some_iff.1 h).1;unfold rtab;rw[List.getElem?_map,List.getElem?_range hi,Option.map_some,h]
theorem zeb(h:ops[i]? =none):(rtab md ops).2[i]? =none:=by
 have hi:ops.size<=i:=Array.getElem?_eq_none_iff.1 h;exact List.getElem?_eq_none (by rw[zdC];exact hi)
theorem ziP:readyAt (rtab md ops).2 l.toList i=(!l.getD i true&&((ops[i]?).map (·.after.all λe=> !Region.binds md e||l.getD e.on false)).getD false):=by
 unfold readyAt;rw[gd];cases h:ops[i]? with
 |none=>rw[zeb h];rfl
 |some o=>
  rw[zea h];simp only[Option.map_some,Option.getD_some];rw[<-zgu];simp only[gd]
theorem ready_eq:Region.ready md ops l=readyT (rtab md ops).2 l.toList:=by
 unfold Region.ready readyT;rw[zdC];refine List.filter_congr (λi _=>?_);rw[ziP]
theorem free_eq:Region.free md ops l i=freeT (rtab md ops).2 l.toList i:=by
 unfold Region.free freeT;cases h:ops[i]? with
 |none=>rw[zeb h]
 |some oi=>
  rw[zea h];simp only[clashOf];rw[List.all_filter];congr 1;funext j;rw[gd];cases hj:ops[j]? with
  |none=>cases (j==i)<;>cases (l.toList.getD j true)<;>simp
  |some oj=>
   cases (j==i)<;>cases (l.toList.getD j true)<;>cases (oj.after.any (λe=>Region.binds md e&&e.on==i)||oi.apart ops oj)<;>simp_all
theorem zjh:Region.closedB md ops l=closedT (rtab md ops).2 l.toList:=by
 unfold Region.closedB closedT;rw[zdC];congr 1;funext j;rw[gd];cases h:ops[j]? with
 |none=>rw[zeb h]
 |some o=>
  rw[zea h];simp only;rw[<-zgu];simp only[gd]
theorem zhe: ∀(fuel d:Nat),Region.reachB md ops i fuel d=reachT (rtab md ops).2 i fuel d
 |0,_=>rfl
 |fuel+1,d=>by
  unfold Region.reachB reachT
  cases h:ops[d]? with
  |none=>rw[zeb h]
  |some o=>
   rw[zea h]
   simp only
   rw[<-zjg]
   congr 1
   funext e
   rw[zhe fuel]
theorem zlQ:Region.lastB md ops l ds i=lastT (rtab md ops).2 l.toList ds i:=by
 unfold Region.lastB lastT;rw[zdC];congr 1;funext d;rw[gd,zhe]
theorem zfu(h:readyAt T.2 l.toList i=true)(hT:rtab md ops=T):(Region.ready md ops l).contains i=true:=by
 subst hT;rw[ready_eq];unfold readyT;rw[List.contains_iff_mem,List.mem_filter,List.mem_range];refine⟨?_,h⟩;unfold readyAt at h;rw[Bool.and_eq_true] at h;cases hq:(rtab md ops).2[i]? with
 |none=>rw[hq] at h;simp at h
 |some r=>exact(List.getElem?_eq_some_iff.1 hq).1
theorem zeZ(h:(l.toList.set i true==l'.toList)=true):(l.setIfInBounds i true==l')=true:=by
 rw[beq_iff_eq] at h ⊢;apply Array.ext';rw[Array.toList_setIfInBounds];exact h
def anyT(T:Bool×List (List Nat×List Nat))(l l':List Bool)(i:Nat):Bool:=T.1&&freeT T.2 l i&&readyAt T.2 l i&&(l.set i true==l')
theorem zji(hT:rtab md ops=T)(h:anyT T l.toList l'.toList i=true):anyB md ops l l' i=true:=by
 simp only[anyT,Bool.and_eq_true] at h;obtain⟨⟨⟨h1,h2⟩,h3⟩,h4⟩:=h;have h5:=zfu h3 hT;have h6:=zeZ h4;subst hT;simp only[anyB,Bool.and_eq_true];exact⟨⟨⟨h1,by rw[free_eq];exact h2⟩,h5⟩,h6⟩
def takeT(T:Bool×List (List Nat×List Nat))(ds:List Nat)(l l':List Bool)(i:Nat):Bool:=T.1&&freeT T.2 l i&&readyAt T.2 l i&&closedT T.2 l&&lastT T.2 l ds i&&(l.set i true==l')
theorem zlR(hT:rtab md ops=T)(h:takeT T ds l.toList l'.toList i=true):takeB md ops ds l l' i=true:=by
 simp only[takeT,Bool.and_eq_true] at h;obtain⟨⟨⟨⟨⟨h1,h2⟩,h3⟩,h4⟩,h5⟩,h6⟩:=h;have h7:=zfu h3 hT;have h8:=zeZ h6;subst hT;simp only[takeB,Bool.and_eq_true];exact⟨⟨⟨⟨⟨h1,by rw[free_eq];exact h2⟩,h7⟩,by rw[zjh];exact h4⟩,by rw[zlQ];exact h5⟩,h8⟩
theorem zmU(hT:rtab md ops=T)(h:(readyT T.2 l.toList==[i]&&l.toList.set i true==l'.toList)=true):readyB md ops l l' i=true:=by
 simp only[Bool.and_eq_true] at h;obtain⟨h1,h2⟩:=h;subst hT;simp only[readyB,Bool.and_eq_true];exact⟨by rw[ready_eq];exact h1,zeZ h2⟩
theorem ze0(hT:rtab md ops=T)(h:(readyT T.2 l.toList==[i,j]&&l.toList.set i true==li.toList&&l.toList.set j true==lj.toList)=true):(Region.ready md ops l==[i,j]&&l.setIfInBounds i true==li&&l.setIfInBounds j true==lj)=true:=by
 simp only[Bool.and_eq_true] at h ⊢;obtain⟨⟨h1,h2⟩,h3⟩:=h;subst hT;exact⟨⟨by rw[ready_eq];exact h1,zeZ h2⟩,zeZ h3⟩
theorem zlS(hT:rtab md ops=T)(h:(readyT T.2 l.toList==[])=true):(Region.ready md ops l==[])=true:=by
 subst hT;rw[ready_eq];exact h
def upM(B:List Nat)(d:Nat):List Nat->Nat
  |[]=>0
  |n::r=>(2^n|||(if n<d then B.getD n 0 else 0))|||upM B d r
def waitsOk(T:List (List Nat×List Nat))(B:List Nat):Bool:=(List.range T.length).all λd=>match T[d]? with
  |some r=>(B.getD d 0|||upM B d r.1)==upM B d r.1
  |none=>false
theorem zid{B:List Nat}{d i:Nat}: ∀{ns:List Nat},(upM B d ns).testBit i=true-> ∃n∈ns,n=i\/(n<d/\(B.getD n 0).testBit i=true)
 |[],h=>by simp[upM] at h
 |n::r,h=>by
  unfold upM at h
  rw[Nat.testBit_or,Nat.testBit_or,Bool.or_eq_true,Bool.or_eq_true] at h
  rcases h with(h|h)|h
  ·rw[Nat.testBit_two_pow] at h
   exact⟨n,List.mem_cons_self,.inl (by simpa using h)⟩
  ·by_cases hn:n<d
   ·rw[if_pos hn] at h
    exact⟨n,List.mem_cons_self,.inr ⟨hn,h⟩⟩
   ·rw[if_neg hn] at h
    simp at h
  ·obtain⟨m,hm,h2⟩:=zid h
   exact⟨m,List.mem_cons_of_mem _ hm,h2⟩
theorem zgv{T:List (List Nat×List Nat)}{B:List Nat}(hB:waitsOk T B=true): ∀(fuel d:Nat),d<fuel->d<T.length->(B.getD d 0).testBit i=true->reachT T i fuel d=true
 |0,d,h,_,_=>by omega
 |fuel+1,d,h,hd,hb=>by
  have h1:=List.all_eq_true.1 hB d (List.mem_range.2 hd)
  cases hr:T[d]? with
  |none=>rw[hr] at h1;simp at h1
  |some r=>
   rw[hr] at h1
   simp only[beq_iff_eq] at h1
   have h2:(upM B d r.1).testBit i=true:=by rw[<-h1,Nat.testBit_or,hb,Bool.true_or]
   obtain⟨n,hn,h3⟩:=zid h2
   unfold reachT
   rw[hr]
   simp only
   rw[List.any_eq_true]
   refine⟨n,hn,?_⟩
   rcases h3 with rfl|⟨h4,h5⟩
   ·simp
   ·rw[zgv hB fuel n (by omega) (by omega) h5,Bool.or_true]
def lastW(T:List (List Nat×List Nat))(B:List Nat)(l:List Bool)(ds:List Nat)(i:Nat):Bool:=ds.all λd=>l.getD d true||(decide (d<T.length)&&(B.getD d 0).testBit i)
def takeW(T:Bool×List (List Nat×List Nat))(B:List Nat)(ds:List Nat)(l l':List Bool)(i:Nat):Bool:=T.1&&freeT T.2 l i&&readyAt T.2 l i&&closedT T.2 l&&lastW T.2 B l ds i&&(l.set i true==l')
theorem zkF{B:List Nat}(hT:rtab md ops=T)(hB:waitsOk T.2 B=true)(h:takeW T B ds l.toList l'.toList i=true):takeB md ops ds l l' i=true:=by
 refine zlR hT ?_;simp only[takeW,takeT,Bool.and_eq_true] at h ⊢;obtain⟨⟨⟨⟨⟨h1,h2⟩,h3⟩,h4⟩,h5⟩,h6⟩:=h;refine⟨⟨⟨⟨⟨h1,h2⟩,h3⟩,h4⟩,?_⟩,h6⟩;unfold lastW at h5;unfold lastT;rw[List.all_eq_true] at h5 ⊢;intro d hd;have h7:=h5 d hd;rw[Bool.or_eq_true,Bool.and_eq_true,decide_eq_true_eq] at h7;rcases h7 with h7|⟨h8,h9⟩
 ·rw[h7,Bool.true_or]
 ·rw[zgv hB _ d h8 h8 h9,Bool.or_true]
theorem zbj{P:Program}{Q:Exit->Act->World->Prop}{S:World->Prop}{n:Nat}{a:Act}{w:World}{B:List Nat}(hT:rtab md ops=T)(hB:waitsOk T.2 B=true)(h:zaa (rtab md ops=T)->zaa (waitsOk T.2 B=true)->wpAnyLast P md ops Q S ds n l a w):wpAnyLast P md ops Q S ds n l a w:=h ⟨hT⟩ ⟨hB⟩
end
def opsIn:Code->Nat->Option (Array Oper)
  |.region id ops _,k=>if id==k then some ops else none
  |.seq a b,k=>match opsIn a k with
    |some o=>some o
    |none=>opsIn b k
  |.cond _ a b,k=>match opsIn a k with
    |some o=>some o
    |none=>opsIn b k
  |.block _ c,k=>opsIn c k
  |.loop c,k=>opsIn c k
  |.scope c,k=>opsIn c k
  |.rangeFunc _ _ a b,k=>match opsIn a k with
    |some o=>some o
    |none=>opsIn b k
  |_,_=>none
def opsOf(f:Func)(k:Nat):Array Oper:=((f.body.bind λc=>opsIn c k)).getD #[]
end Go.Proofs.YtilidabdbhaljaaGreatDoorW.PrintLast
end
section
namespace Go.Proofs.YtilidabdbhaljaaGreatDoorW.PrintWords
open Go.RowKit
namespace Kd
def tag{α:Type}(f:Nat->Nat)(d:Kd α):Kd (α×Nat) where
  sz:=d.sz
  E:=d.E
  K:=λw x cs=>d.K w x.1 cs
  M:=λw base ok x cs=>d.M w base (λk=>ok k/\f k=x.2) x.1 cs
  K_len:=λh=>d.K_len h
  K_one:=λh=>d.K_one h
  K_below:=λhb h=>d.K_below hb h
  K_of_M:=λh=>d.K_of_M h
  M_mono:=λhok h=>d.M_mono (λk hk=>⟨hok k hk.1,hk.2⟩) h
  M_bound:=λh=>d.M_mono (λ_ hk=>⟨⟨hk.1.1,hk.2⟩,hk.1.2⟩) (d.M_bound h)
  M_move:=λhm h=>d.M_move (λk hk=>hm k hk.1) h
  M_lower:=λhb h=>d.M_lower hb h
def raw(sz:Nat):Kd (List Value) where
  sz:=sz
  E:=[]
  K:=λ_ x cs=>cs=x/\cs.length=sz/\ ∀u∈cs,u.oneCell'=true
  M:=λ_ _ _ x cs=>cs=x/\cs.length=sz/\ ∀u∈cs,u.oneCell'=true
  K_len:=λh=>h.2.1
  K_one:=λh=>h.2.2
  K_below:=λ_ h=>h
  K_of_M:=λh=>h
  M_mono:=λ_ h=>h
  M_bound:=λh=>h
  M_move:=λ_ h=>h
  M_lower:=λ_ h=>h
def S{α:Type}(d:Kd α)(e:Nat)(w:World)(base:Nat)(ok:Nat->Prop)(v:Value)(xs:List α):Prop:= ∃f,(tag f d).R e w base ok v xs.zipIdx
section
variable {α β : Type} {d : Kd α} {d' : Kd β} {e e' : Nat} {w w1 W : World} {base b : Nat} {ok ok' okv oku : Nat -> Prop} {u v : Value} {xs : List α} {ys : List β}
theorem zmV{ad:Addr}{n cap:Nat}(h:d.R e w base ok (.slice (some ad) n cap) xs): ∃g,ad=⟨g,0,none⟩:=by
 obtain⟨_,inner,ho,hr⟩:=h;rcases ho.2 with⟨hv,_⟩|⟨g,cap',cur,hv,_⟩
 ·cases hv
 ·(injection hv with ha _ _);(injection ha with ha);exact⟨g,ha⟩
theorem R_tight(hE:d.E=[])(h:d.R e w base ok v xs):d.R e w base (λk=>some k=v.ownBlock) v xs:=by
 obtain⟨h0,inner,ho,hr⟩:=h;refine⟨λk hk=>hk.symm,inner,ho,hr.imp_ (λp c hp=>d.M_mono (λk hk=>?_) (d.M_bound hp))⟩;obtain⟨_,_,_,q,hq,_⟩:=hk;rw[hE] at hq;cases hq
theorem S_nil(d:Kd α)(e:Nat)(w:World)(base:Nat)(ok:Nat->Prop):S d e w base ok (.slice none 0 0) []:=⟨λ_=>0,R_nil _ _ _ _ _⟩
theorem zmW(h:S d e w base ok v xs)(hok: ∀k,ok k->ok' k):S d e w base ok' v xs:=by
 obtain⟨f,h⟩:=h;exact⟨f,R_mono h hok⟩
theorem zjj(h:S d e w base (λk=>ok k/\ok' k) u xs):S d e w base ok u xs:=zmW h (λ_ hk=>hk.1)
theorem zcE{A:Option Addr}{n m c:Nat}(h:S d e w base ok (.slice A n c) xs)(hm:m<=xs.length):S d e w base ok (.slice A m c) (xs.take m):=by
 obtain⟨f,h⟩:=h;refine⟨f,?_⟩;have h2:=zmQ h (m:=m) (by rw[List.length_zipIdx];exact hm);have he:(xs.take m).zipIdx=xs.zipIdx.take m:=by
  apply List.ext_getElem?;intro j;simp only[List.getElem?_zipIdx,List.getElem?_take,Nat.zero_add];split<;>simp
 rw[he];exact h2
end
def gap{α:Type}(f:Nat->Nat)(d:Kd α)(i:Nat)(c:List Value):Kd (α×Nat) where
  sz:=d.sz
  E:=d.E
  K:=λw x cs=>(x.2=i->cs=c/\cs.length=d.sz/\ ∀u∈cs,u.oneCell'=true)/\(x.2≠i->d.K w x.1 cs)
  M:=λw base ok x cs=>(x.2=i->cs=c/\cs.length=d.sz/\ ∀u∈cs,u.oneCell'=true)/\(x.2≠i->d.M w base (λk=>ok k/\f k=x.2) x.1 cs)
  K_len:=λ{w x cs} h=>by
    by_cases hx:x.2=i
    · exact(h.1 hx).2.1
    · exact d.K_len (h.2 hx)
  K_one:=λ{w x cs} h=>by
    by_cases hx:x.2=i
    · exact(h.1 hx).2.2
    · exact d.K_one (h.2 hx)
  K_below:=λhb h=>⟨h.1,λhx=>d.K_below hb (h.2 hx)⟩
  K_of_M:=λh=>⟨h.1,λhx=>d.K_of_M (h.2 hx)⟩
  M_mono:=λhok h=>⟨h.1,λhx=>d.M_mono (λk hk=>⟨hok k hk.1,hk.2⟩) (h.2 hx)⟩
  M_bound:=λh=>⟨h.1,λhx=>d.M_mono (λ_ hk=>⟨⟨hk.1.1,hk.2⟩,hk.1.2⟩) (d.M_bound (h.2 hx))⟩
  M_move:=λhm h=>⟨h.1,λhx=>d.M_move (λk hk=>hm k hk.1) (h.2 hx)⟩
  M_lower:=λhb h=>⟨h.1,λhx=>d.M_lower hb (h.2 hx)⟩
def H{α:Type}(d:Kd α)(e:Nat)(w:World)(base:Nat)(ok:Nat->Prop)(v:Value)(xs:List α)(i:Int)(oki:Nat->Prop)(c:List Value):Prop:=
  (∀k,oki k->ok k)/\ ∃f,(gap f d i.toNat c).R e w base (λk=>ok k/\ ¬oki k) v xs.zipIdx
end Kd
end Go.Proofs.YtilidabdbhaljaaGreatDoorW.PrintWords
end
section
namespace Go.Proofs.YtilidabdbhaljaaGreatDoorW.PrintWords
open Go.RowKit
namespace Kd
structure Heap {α : Type} (d : Kd α) : Prop where
  K : ∀ {w w1 : World} {x : α} {cs : List Value}, (∀ k, k < w.heap.size -> w1.heap[k]? = w.heap[k]?) -> d.K w x cs -> d.K w1 x cs
theorem zjk{w w1:World}(hb: ∀k,k<w.heap.size->w1.heap[k]? =w.heap[k]?){a:Addr}{v:Value}(h:w.cell? a=some v):w1.cell? a=some v:=by
 have:=hb a.block (World.block_lt_of_cell? w a h);simpa [World.cell?,this] using h
theorem Heap.C{α:Type}{d:Kd α}(hd:Heap d){w w1:World}{A:Option Addr}{n:Nat}{xs:List α}(hb: ∀k,k<w.heap.size->w1.heap[k]? =w.heap[k]?)(h:d.C w A n xs):d.C w1 A n xs:=
 ⟨h.1,h.2.1,λhn=>by
  obtain⟨ad,e,hc⟩:=h.2.2 hn
  refine⟨ad,e,λj p hj=>?_⟩
  obtain⟨c,hs,hr,hcell⟩:=hc j p hj
  exact⟨c,hs,hd.K hb hr,λi u hu=>zjk hb (hcell i u hu)⟩⟩
theorem heap_int(k:IntKind):Heap (Kd.int k):=⟨λ_ h=>h⟩
end Kd
end Go.Proofs.YtilidabdbhaljaaGreatDoorW.PrintWords
end
section
namespace Go.Proofs.YtilidabdbhaljaaGreatDoorW.PrintWords
open Go.RowKit
def Kept(w W:World)(S:Nat->Prop):Prop:=w.heap.size<=W.heap.size/\ ∀i,i<w.heap.size-> ¬S i->W.heap[i]? =w.heap[i]?
section
variable {w W W2 : World} {S S2 S' : Nat -> Prop}
theorem Kept.refl(w:World)(S:Nat->Prop):Kept w w S:=⟨Nat.le_refl _,λ_ _ _=>rfl⟩
theorem Kept.of_below(h:Below w.heap.size w W)(S:Nat->Prop):Kept w W S:=⟨h.size,λi hi _=>h.block i hi⟩
theorem Kept.then_(h:Kept w W S)(k:Kept W W2 S2)(hs: ∀k,S2 k->S k\/w.heap.size<=k):Kept w W2 S:=
 ⟨Nat.le_trans h.1 k.1,λi hi hn=>(k.2 i (Nat.lt_of_lt_of_le hi h.1) (λh2=>(hs i h2).elim hn (λh3=>by omega))).trans (h.2 i hi hn)⟩
theorem Kept.of_grown{row:Option Nat}(hg:W.grownBy W2 row)(h:Kept w W S)(hr: ∀k,row=some k->S k\/w.heap.size<=k):Kept w W2 S:=
 h.then_ (S2:=λk=>row=some k) ⟨hg.size,λi hi hn=>hg.block i hi (λhe=>hn he.symm)⟩ hr
theorem Kept.below(h:Kept w W S)(hb:Below W.heap.size W W2):Kept w W2 S:=h.then_ (Kept.of_below hb (λ_=>False)) (λ_ hk=>hk.elim)
theorem Kept.alloc(h:Kept w W S)(o:Obj):Kept w (W.alloc o) S:=h.below (zb0 (Below.refl _ _) o)
theorem Kept.drew(h:Kept w W S):Kept w W.drew S:=h
theorem Kept.drewN(h:Kept w W S)(m:Nat):Kept w (W.drewN m) S:=h
theorem Kept.setCell(h:Kept w W S){p:Addr}(hp:S p.block\/w.heap.size<=p.block)(u:Value):Kept w (W.setCell p u) S:=
 h.then_ (S2:=λk=>k=p.block) ⟨by simp[World.setCell],λi _ hn=>Below.heap_setCell W p u i hn⟩ (λk hk=>by rw[hk];exact hp)
theorem zhf{g:Nat}{o:Obj}(hb:W.heap[g]? =some o)(hk:Kept W W2 S)(hne: ¬S g):W2.heap[g]? =some o:=(hk.2 g (zba hb) hne).trans hb
end
end Go.Proofs.YtilidabdbhaljaaGreatDoorW.PrintWords
end
section
namespace Go.Proofs.YtilidabdbhaljaaGreatDoorW.PrintWords
open Go.RowKit
def Foot(P:World->Prop)(W:World)(ok:Nat->Prop):Prop:= ∀W':World,(∀k,ok k->k<W.heap.size->W'.heap[k]? =W.heap[k]?)->P W'
theorem zlT{W W1:World}{k:Nat}(h:W1.heap[k]? =W.heap[k]?)(hlt:k<W.heap.size):k<W1.heap.size:=by
 rw[Array.getElem?_eq_getElem hlt] at h;exact(Array.getElem?_eq_some_iff.1 h).1
namespace Foot
variable {P Q : World -> Prop} {W W1 : World} {ok ok' : Nat -> Prop}
theorem now(h:Foot P W ok):P W:=h W (λ_ _ _=>rfl)
theorem mono(h:Foot P W ok)(hok: ∀k,ok k->ok' k):Foot P W ok':=λW' hW=>h W' (λk hk hlt=>hW k (hok k hk) hlt)
theorem bound(h:Foot P W ok):Foot P W (λk=>ok k/\k<W.heap.size):=λW' hW=>h W' (λk hk hlt=>hW k ⟨hk,hlt⟩ hlt)
theorem step(h:Foot P W ok)(hm: ∀k,ok k->k<W.heap.size->W1.heap[k]? =W.heap[k]?):Foot P W1 ok:=λW' hW=>h W' (λk hk hlt=>(hW k hk (zlT (hm k hk hlt) hlt)).trans (hm k hk hlt))
theorem imp(h:Foot P W ok)(hi: ∀W',P W'->Q W'):Foot Q W ok:=λW' hW=>hi W' (h W' hW)
theorem old(h:Foot P W ok)(hb:Below W.heap.size W W1):Foot P W1 (λk=>ok k/\k<W.heap.size):=(h.bound).step (λk _ hlt=>hb.block k hlt)
end Foot
namespace Kd
def F{α:Type}(d:Kd α)(W:World)(ok:Nat->Prop)(A:Option Addr)(n:Nat)(xs:List α):Prop:=Foot (λW=>d.C W A n xs) W ok
def FK{α:Type}(d:Kd α)(W:World)(ok:Nat->Prop)(x:α)(c:List Value):Prop:=Foot (λW=>d.K W x c) W ok
section
variable {α β : Type} {d : Kd α} {e base n n' cc g N : Nat} {ok ok' okp S : Nat -> Prop} {w w0 w1 W W1 : World} {A A' : Option Addr} {u v v1 : Value} {xs : List α} {xs' : List β} {d' : Kd β} {x : α} {c : List Value}
theorem zny(h:F d W ok A n xs):d.C W A n xs:=Foot.now h
theorem zhg(h:F d W ok A n xs)(hok: ∀k,ok k->ok' k):F d W ok' A n xs:=Foot.mono h hok
theorem zlU(h:F d W ok A n xs):F d W (λk=>ok k/\k<W.heap.size) A n xs:=Foot.bound h
theorem zmX(h:F d W ok A n xs)(hm: ∀k,ok k->k<W.heap.size->W1.heap[k]? =W.heap[k]?):F d W1 ok A n xs:=Foot.step h hm
theorem znz(h:F d W ok A n xs)(hi: ∀W',d.C W' A n xs->d'.C W' A' n' xs'):F d' W ok A' n' xs':=Foot.imp h hi
theorem zfj(h:F d W ok A n xs)(hb:Below W.heap.size W W1):F d W1 ok A n xs:=zmX h (λk _ hlt=>hb.block k hlt)
theorem zlV(h:F d W ok A n xs)(o:Obj):F d (W.alloc o) ok A n xs:=zfj h (zb0 (Below.refl _ _) o)
theorem zmY(h:F d W ok A n xs):F d W.drew ok A n xs:=zfj h (zdN (Below.refl _ _))
theorem zlW(h:F d W ok A n xs)(m:Nat):F d (W.drewN m) ok A n xs:=zfj h (zch (Below.refl _ _) m)
theorem znA(d:Kd α)(W:World)(ok:Nat->Prop):F d W ok none ([]:List α).length []:=λW' _=>znv d W'
theorem zkG(h:F d W ok A n xs)(hbase: ∀k,v.ownBlock=some k->W.heap.size<=k)(hb:Below W.heap.size W W1):F d W1 (λk=>ok k/\some k≠v.ownBlock) A n xs:=
 zhg (Foot.old h hb) (λk hk=>⟨hk.1,λhe=>by have:=hbase k he.symm;have:=hk.2;omega⟩)
theorem zlX(h:F d W (λk=>ok k/\some k≠v.ownBlock) A n xs)(hg:W.grownBy W1 v.ownBlock)(hat:v1.ownBlock=v.ownBlock\/ ∃b,v1.ownBlock=some b/\W.heap.size<=b):F d W1 (λk=>ok k/\some k≠v1.ownBlock) A n xs:=by
 refine zhg (Foot.step (zlU h) (λk hk hlt=>hg.block k hlt hk.1.2)) (λk hk=>⟨hk.1.1,?_⟩);rcases hat with hat|⟨b,hb,hle⟩
 ·rw[hat];exact hk.1.2
 ·rw[hb];intro he;(injection he with he);have:=hk.2;omega
theorem R_F(h:d.R e W base ok (.slice A n cc) xs):F d W ok A n xs:=λW' hW=>by
 have h2:=R_reads' (zhd h hW)
 rw[h2.1]
 exact h2.2.2
theorem zes(h:FK d W ok x c):d.K W x c:=Foot.now h
theorem zdV(h:FK d W ok x c)(hok: ∀k,ok k->ok' k):FK d W ok' x c:=Foot.mono h hok
theorem zfz(h:FK d W ok x c):FK d W (λk=>ok k/\k<W.heap.size) x c:=Foot.bound h
theorem zgi(h:FK d W ok x c)(hm: ∀k,ok k->k<W.heap.size->W1.heap[k]? =W.heap[k]?):FK d W1 ok x c:=Foot.step h hm
theorem zlY(h:d.M W base ok x c):FK d W ok x c:=λ_ hW=>d.K_of_M (zjd h hW)
end
end Kd
end Go.Proofs.YtilidabdbhaljaaGreatDoorW.PrintWords
end
section
namespace Go.Proofs.YtilidabdbhaljaaGreatDoorW.PrintWords
open Go.RowKit
namespace Kd
def chunks(sz:Nat)(n:Nat)(inner:List Value):List (List Value):=(List.range n).map λj=>(inner.drop (j*sz)).take sz
theorem zcr(sz n:Nat)(inner:List Value):(chunks sz n inner).length=n:=by simp[chunks]
theorem zjl{sz n:Nat}{inner:List Value}{j:Nat}(hj:j<n):(chunks sz n inner)[j]? =some ((inner.drop (j*sz)).take sz):=by simp[chunks,hj]
theorem zeB{sz n:Nat}{inner:List Value}{j:Nat}{c:List Value}(h:(chunks sz n inner)[j]? =some c):c=(inner.drop (j*sz)).take sz:=by
 (have hj:j<n:=by have:=(List.getElem?_eq_some_iff.1 h).1;rwa [zcr] at this);rw[zjl hj] at h;(injection h with h);exact h.symm
theorem zhh{α:Type}{Rr:α->List Value->Prop}{sz:Nat}{xs:List α}{inner:List Value}(h:Reps Rr sz xs inner)(hR: ∀x c,Rr x c->c.length=sz/\ ∀u∈c,u.oneCell'=true):Reps (λx cs=>cs=x/\cs.length=sz/\ ∀u∈cs,u.oneCell'=true) sz (chunks sz xs.length inner) inner:=by
 refine⟨by rw[zcr];exact h.1,λj p hj=>?_⟩;(have hjl:j<xs.length:=by have:=(List.getElem?_eq_some_iff.1 hj).1;rwa [zcr] at this);have hp:=zeB hj;exact⟨hp.symm,hR _ _ (h.2 j _ (List.getElem?_eq_getElem hjl))⟩
section
variable {α : Type} {d : Kd α} {e base n cc g : Nat} {ok ok' okp S : Nat -> Prop} {w w1 W W1 : World} {A : Option Addr} {u v v1 : Value} {xs : List α} {x : α} {c : List Value}
def N{α:Type}(d:Kd α)(e:Nat)(w:World)(base:Nat)(ok:Nat->Prop)(v:Value)(xs:List α):Prop:=
  (∀k,v.ownBlock=some k->ok k)/\ ∃rows:List (List Value),rows.length=xs.length/\(raw d.sz).R e w base (λk=>some k=v.ownBlock) v rows/\ ∀(j:Nat) (x:α) (c:List Value),xs[j]? =some x->rows[j]? =some c->FK d w (λk=>ok k/\some k≠v.ownBlock) x c
theorem zgw{sz:Nat}{rows:List (List Value)}(h:(raw sz).R e w base ok v rows):(raw sz).R e w base (λk=>some k=v.ownBlock) v rows:=R_tight rfl h
theorem zlZ{sz:Nat}{rows:List (List Value)}(h:(raw sz).R e w base ok v rows):(raw sz).R e w base (λ_=>True) v rows:=R_mono h (λ_ _=>trivial)
theorem R_N(h:d.R e w base ok v xs):N d e w base ok v xs:=by
 obtain⟨h0,inner,ho,hr⟩:=h;refine⟨h0,chunks d.sz xs.length inner,zcr _ _ _,⟨λk hk=>hk.symm,inner,by rw[zcr];exact ho,zhh hr (λx c hp=>⟨d.K_len (d.K_of_M hp),d.K_one (d.K_of_M hp)⟩)⟩,λj x c hx hc=>?_⟩;rw[zeB hc];exact zlY (hr.2 j x hx)
theorem N_nil(d:Kd α)(e:Nat)(w:World)(base:Nat)(ok:Nat->Prop):N d e w base ok (.slice none 0 0) []:=R_N (R_nil _ _ _ _ _)
theorem N_mono(h:N d e w base ok v xs)(hok: ∀k,ok k->ok' k):N d e w base ok' v xs:=by
 obtain⟨h0,rows,hl,hR,hf⟩:=h;exact⟨λk hk=>hok k (h0 k hk),rows,hl,hR,λj x c hx hc=>zdV (hf j x c hx hc) (λk hk=>⟨hok k hk.1,hk.2⟩)⟩
theorem N_lt(h:N d e w base ok v xs): ∀k,v.ownBlock=some k->k<w.heap.size:=by
 obtain⟨_,rows,_,hR,_⟩:=h;exact R_lt hR
theorem N_base(h:N d e w base ok v xs): ∀k,v.ownBlock=some k->base<=k:=by
 obtain⟨_,rows,_,hR,_⟩:=h;exact R_base hR
theorem N_typed(h:N d e w base ok v xs): ∀k,v.ownBlock=some k-> ∃cells,w.heap[k]? =some (.cells cells e (0,0)):=by
 obtain⟨_,rows,_,hR,_⟩:=h;exact zlO hR
theorem zl0(h:N d e w base ok v xs):N d e w base (λk=>ok k/\k<w.heap.size) v xs:=by
 have hlt:=N_lt h;obtain⟨h0,rows,hl,hR,hf⟩:=h;exact⟨λk hk=>⟨h0 k hk,hlt k hk⟩,rows,hl,hR,λj x c hx hc=>zdV (zfz (hf j x c hx hc)) (λk hk=>⟨⟨hk.1.1,hk.2⟩,hk.1.2⟩)⟩
theorem N_lower{base':Nat}(h:N d e w base ok v xs)(hb:base'<=base):N d e w base' ok v xs:=by
 obtain⟨h0,rows,hl,hR,hf⟩:=h;exact⟨h0,rows,hl,R_lower hR hb,hf⟩
theorem zmZ(h:N d e w base ok v xs)(hm: ∀k,ok k->k<w.heap.size->w1.heap[k]? =w.heap[k]?):N d e w1 base ok v xs:=by
 obtain⟨h0,rows,hl,hR,hf⟩:=h;exact⟨h0,rows,hl,zhd hR (λk hk hlt=>hm k (h0 k hk.symm) hlt),λj x c hx hc=>zgi (hf j x c hx hc) (λk hk hlt=>hm k hk.1 hlt)⟩
theorem zfk(h:N d e w base ok v xs)(hb:Below w.heap.size w w1):N d e w1 base ok v xs:=zmZ h (λk _ hk=>hb.block k hk)
theorem N_alloc(h:N d e w base ok v xs)(o:Obj):N d e (w.alloc o) base ok v xs:=zfk h (zb0 (Below.refl _ _) o)
theorem N_drew(h:N d e w base ok v xs):N d e w.drew base ok v xs:=zfk h (zdN (Below.refl _ _))
theorem N_drewN(h:N d e w base ok v xs)(m:Nat):N d e (w.drewN m) base ok v xs:=zfk h (zch (Below.refl _ _) m)
theorem N_elder'(h:N d e W base ok v xs)(hbase: ∀k,u.ownBlock=some k->W.heap.size<=k)(hb:Below W.heap.size W w1):N d e w1 base (λk=>ok k/\some k≠u.ownBlock) v xs:=
 N_mono (zfk (zl0 h) hb) (λk hk=>⟨hk.1,λhe=>by have:=hbase k he.symm;have:=hk.2;omega⟩)
theorem N_slice(h:N d e w base ok v xs): ∃A c,v= .slice A xs.length c:=by
 obtain⟨_,rows,hl,hR,_⟩:=h;obtain⟨A,c,he⟩:=R_slice hR;exact⟨A,c,by rw[he,hl]⟩
theorem N_reads'{n c:Nat}(h:N d e w base ok (.slice A n c) xs):n=xs.length/\n<=c/\d.C w A xs.length xs:=by
 obtain⟨_,rows,hl,hR,hf⟩:=h;obtain⟨hn,hc,hC⟩:=R_reads' hR;refine⟨by omega,hc,?_⟩;rw[hl] at hC;refine⟨rfl,hC.2.1,λhp=>?_⟩;obtain⟨ad,he,hcell⟩:=hC.2.2 hp;refine⟨ad,he,λj p hj=>?_⟩;(have hjl:j<rows.length:=by have:=(List.getElem?_eq_some_iff.1 hj).1;omega);obtain⟨c',hcl,hK,hcc⟩:=hcell j _ (List.getElem?_eq_getElem hjl);have hk:=zes (hf j p _ hj (List.getElem?_eq_getElem hjl));refine⟨c',hcl,?_,hcc⟩;rw[show c'=rows[j] from hK.1];exact hk
theorem zm0{n cap:Nat}(h:N d e W base ok (.slice (some ⟨g,0,none⟩) n cap) xs)(z:α)(i:Int)(h0:0<=i)(h1:i<n):
 ∃c,c.length=d.sz/\FK d W (λk=>ok k/\k≠g) (xs.getD i.toNat z) c/\(∀j u,c[j]? =some u->W.cell? ⟨g,i.toNat*d.sz+j,none⟩=some u)/\ ∀j,W.frozen? ⟨g,i.toNat*d.sz+j,none⟩=false:=by
 obtain⟨_,rows,hl,hR,hf⟩:=h;have hn:=(R_reads' hR).1;obtain⟨c,hcl,hM,hcc,hfr⟩:=zmS hR [] i h0 h1;(have hil:i.toNat<rows.length:=by omega);(have hil':i.toNat<xs.length:=by omega);have hc:c=rows[i.toNat]:=by
  have h2:=hM.1;rwa [List.getD_eq_getElem?_getD,List.getElem?_eq_getElem hil] at h2
 refine⟨c,hcl,?_,hcc,hfr⟩;rw[List.getD_eq_getElem?_getD,List.getElem?_eq_getElem hil'];exact zdV (hf _ _ _ (List.getElem?_eq_getElem hil') (by rw[hc];exact List.getElem?_eq_getElem hil)) (λk hk=>⟨hk.1,λhe=>hk.2 (by rw[he];simp[Value.ownBlock])⟩)
theorem N_get{ad:Addr}{n cap:Nat}(h:N d e W base ok (.slice (some ad) n cap) xs)(z:α)(i:Int)(h0:0<=i)(h1:i<n):
 ∃c,c.length=d.sz/\FK d W (λk=>ok k/\some k≠(Value.slice (some ad) n cap).ownBlock) (xs.getD i.toNat z) c/\ ∀j u,c[j]? =some u->W.cell? (ad.add (i.toNat*d.sz+j))=some u:=by
 obtain⟨g,rfl⟩: ∃g,ad=⟨g,0,none⟩:=by
  obtain⟨_,rows,_,hR,_⟩:=h;exact zmV hR
 obtain⟨c,hcl,hM,hcc,_⟩:=zm0 h z i h0 h1;refine⟨c,hcl,zdV hM (λk hk=>⟨hk.1,λhe=>hk.2 (by simpa [Value.ownBlock] using he)⟩),λj u hu=>?_⟩;rw[zmP,Nat.zero_add];exact hcc j u hu
end
end Kd
end Go.Proofs.YtilidabdbhaljaaGreatDoorW.PrintWords
end
section
namespace Go.Proofs.YtilidabdbhaljaaGreatDoorW.PrintWords
open Go.RowKit
section
variable {w w' u : World} {m B g : Nat} {o : Obj} {row : Option Nat} {S : Nat -> Prop} {a : Addr} {v : Value}
theorem zd2(hq:w.drewN m=w')(h:Below B u w):Below B u w':=by subst hq;exact zch h m
theorem zcA(hq:w.drewN m=w')(h:w.heap[g]? =some o):w'.heap[g]? =some o:=by subst hq;exact h
end
namespace Kd
section
variable {α : Type} {d : Kd α} {e base n m : Nat} {ok : Nat -> Prop} {w w' : World} {v : Value} {A : Option Addr} {xs : List α}
theorem R_at(hq:w.drewN m=w')(h:d.R e w base ok v xs):d.R e w' base ok v xs:=by subst hq;exact R_drewN h m
end
end Kd
end Go.Proofs.YtilidabdbhaljaaGreatDoorW.PrintWords
end
section
namespace Go.Proofs.YtilidabdbhaljaaGreatDoorW.PrintWords
open Go.RowKit
section
variable {P : Program} {d : Nat} {xs ys : Array Value} {f : Field} {fs : List Field} {a b : Value} {r s : Bool} {w : World}
theorem zkH(hn:(f.name== "_")=false)(ha:(part f.type xs f.offset).run P w= .ok a w)(hb:(part f.type ys f.offset).run P w= .ok b w)(he:(Op.equalIn d f.type a b).run P w= .ok r w):(Op.eqFields d xs ys [f]).run P w= .ok r w:=by
 (have hn':f.name≠ "_" :=by simpa using hn);simp only[Op.eqFields,if_pos hn',Sem.run_bind,ha,hb,he,Result.andThen_ok];cases r<;>simp
theorem zkI(hn:(f.name== "_")=false)(ha:(part f.type xs f.offset).run P w= .ok a w)(hb:(part f.type ys f.offset).run P w= .ok b w)(he:(Op.equalIn d f.type a b).run P w= .ok r w)(hr:(Op.eqFields d xs ys fs).run P w= .ok s w):(Op.eqFields d xs ys (f::fs)).run P w= .ok (r&&s) w:=by
 (have hn':f.name≠ "_" :=by simpa using hn);rw[Op.eqFields];simp only[if_pos hn',Sem.run_bind,ha,hb,he,Result.andThen_ok];cases r
 ·simp
 ·simpa using hr
theorem eqA_of{t:TypeId}{fs:Array Field}(hu:P.underlying t=some (.struct fs))(hp:P.stoodInHeld t=false)(h:(Op.eqFields d xs ys fs.toList).run P w= .ok r w):(Op.equalIn (d+1) t (.agg xs) (.agg ys)).run P w= .ok r w:=by
 (have hf:P.fieldsOf t=fs:=by simp[Program.fieldsOf,hu]);rw[run_equalIn_struct (P:=P) w d t xs ys (by rw[hf];exact hu) hp,hf];exact h
end
end Go.Proofs.YtilidabdbhaljaaGreatDoorW.PrintWords
end
section
namespace Go.Proofs.YtilidabdbhaljaaGreatDoorW.PrintWords
theorem Reps.one{α:Type}{R:α->List Value->Prop}{ps:List α}{cs:List Value}{p:α}{v:Value}(hp:R p [v])(h:Reps R 1 ps cs):Reps R 1 (p::ps) (v::cs):=by
 refine⟨by simp[h.1],λj q hq=>?_⟩;cases j with
 |zero=>
  simp only[List.getElem?_cons_zero,Option.some.injEq] at hq;subst hq;simpa using hp
 |succ j=>
  simp only[List.getElem?_cons_succ] at hq;have h1:=h.2 j q hq;simpa [Nat.mul_one] using h1
theorem Reps.front{α:Type}{R:α->List Value->Prop}{size:Nat}{ps:List α}{cs c all:List Value}{p:α}(hp:R p c)(hc:c.length=size)(h:Reps R size ps cs)(ha:c++cs=all):Reps R size (p::ps) all:=by
 subst ha;refine⟨by rw[List.length_append,hc,h.1,List.length_cons,Nat.succ_mul,Nat.add_comm],λj q hq=>?_⟩;cases j with
 |zero=>
  simp only[List.getElem?_cons_zero,Option.some.injEq] at hq;subst hq;rw[Nat.zero_mul,List.drop_zero,List.take_append_of_le_length (by omega),List.take_of_length_le (by omega)];exact hp
 |succ j=>
  simp only[List.getElem?_cons_succ] at hq;have h1:=h.2 j q hq;rw[Nat.succ_mul,List.drop_append,List.drop_of_length_le (by rw[hc];exact Nat.le_add_left _ _),List.nil_append,hc,Nat.add_sub_cancel];exact h1
theorem Reps.c2{α:Type}{R:α->List Value->Prop}{ps:List α}{cs:List Value}{p:α}{va vb:Value}(hp:R p [va,vb])(h:Reps R 2 ps cs):Reps R 2 (p::ps) (va::vb::cs):=Reps.front hp rfl h rfl
end Go.Proofs.YtilidabdbhaljaaGreatDoorW.PrintWords
end
section
namespace Go.Proofs.YtilidabdbhaljaaGreatDoorW.PrintLast
def up(b:Nat->Bool)(i:Nat):Nat->Bool:=λj=>if j=i then true else b j
end Go.Proofs.YtilidabdbhaljaaGreatDoorW.PrintLast
end
section
namespace Go.Proofs.YtilidabdbhaljaaGreatDoorW.PrintWords
open Go.RowKit
section
variable {P : Program} {ops : Array Oper} {rest : List Oper} {o : Oper} {a : Act} {Q : Exit -> Act -> World -> Prop} {W : World}
theorem zco(hw:Region.wanted o (yielded ops a.tmps)=true)(h:wpList P ops Q ({o with guard:=none}::rest) a W):wpList P ops Q (o::rest) a W:=by
 have h1:Region.wanted {o with guard:=none} (yielded ops a.tmps)=true:=rfl;unfold wpList at h ⊢;rw[if_pos h1] at h;rw[if_pos hw];exact h
end
end Go.Proofs.YtilidabdbhaljaaGreatDoorW.PrintWords
end
section
namespace Go.Proofs.YtilidabdbhaljaaGreatDoorW.PrintWords
open Go.RowKit
namespace Kd
section
variable {α : Type} {d : Kd α} {e base n cap g : Nat} {ok ok' okp : Nat -> Prop} {w w1 W : World} {v v1 : Value} {xs ys : List α}
theorem ziQ{rows news:List (List Value)}(h0: ∀k,v.ownBlock=some k->ok k)(hl:rows.length=xs.length)(hf: ∀(j:Nat) (x:α) (c:List Value),xs[j]? =some x->rows[j]? =some c->FK d W (λk=>ok k/\some k≠v.ownBlock) x c)
 (A:news.length=ys.length) (B: ∀(j:Nat) (x:α) (c:List Value),ys[j]? =some x->news[j]? =some c->FK d W okp x c) (hokp: ∀k,okp k->ok k/\some k≠v.ownBlock) (hfresh: ∀k,W.heap.size<=k->ok k)
 (hR:(raw d.sz).R e w1 base (λ_=>True) v1 (rows++news)) (hg:W.grownBy w1 v.ownBlock) (hat:v1.ownBlock=v.ownBlock\/ ∃b,v1.ownBlock=some b/\W.heap.size<=b):N d e w1 base ok v1 (xs++ys):=by
 have hne: ∀k,some k≠v.ownBlock->k<W.heap.size->some k≠v1.ownBlock:=by
  intro k hk hlt;rcases hat with hat|⟨b,hb,hle⟩
  ·rw[hat];exact hk
  ·rw[hb];intro he;(injection he with he);omega
 have step: ∀{x:α} {c:List Value} {o:Nat->Prop},FK d W o x c->(∀k,o k->ok k/\some k≠v.ownBlock)->FK d w1 (λk=>ok k/\some k≠v1.ownBlock) x c:=by
  intro x c o hq ho;exact zdV (zgi (zfz hq) (λk hk hlt=>hg.block k hlt (ho k hk.1).2)) (λk hk=>⟨(ho k hk.1).1,hne k (ho k hk.1).2 hk.2⟩)
 refine⟨λk hk=>?_,rows++news,by rw[List.length_append,List.length_append,hl,A],zgw hR,λj x c hx hc=>?_⟩
 ·rcases hat with hat|⟨b,hb,hle⟩
  ·exact h0 k (hat▸hk)
  ·rw[hb] at hk;(injection hk with hk);exact hfresh k (by omega)
 ·rcases Nat.lt_or_ge j xs.length with hlt|hge
  ·rw[List.getElem?_append_left hlt] at hx;rw[List.getElem?_append_left (by omega)] at hc;exact step (hf j x c hx hc) (λ_ hk=>hk)
  ·rw[List.getElem?_append_right hge] at hx;rw[List.getElem?_append_right (by omega),hl] at hc;exact step (B _ x c hx hc) hokp
theorem zm1{x:α}{c:List Value}(h:FK d W ok x c):c=c/\c.length=d.sz/\ ∀u∈c,u.oneCell'=true:=⟨rfl,d.K_len (zes h),d.K_one (zes h)⟩
theorem zm2{rows:List (List Value)}(hR:(raw d.sz).R e w1 base (λk=>k=W.heap.size) v1 rows)(hg:W.grownBy w1 none)(hat: ∃b,v1.ownBlock=some b/\W.heap.size<=b)(hl:rows.length=xs.length)(hf: ∀(j:Nat) (x:α) (c:List Value),xs[j]? =some x->rows[j]? =some c->FK d W okp x c)
 (hok: ∀k,okp k->ok k) (hfresh:ok W.heap.size):N d e w1 base ok v1 xs:=by
 obtain⟨b,hb,hle⟩:=hat;refine⟨λk hk=>by rw[hR.1 k hk];exact hfresh,rows,hl,zgw hR,λj x c hx hc=>?_⟩;refine zdV (zgi (zfz (hf j x c hx hc)) (λk hk hlt=>hg.block k hlt (by simp))) (λk hk=>⟨hok k hk.1,λhe=>?_⟩);rw[hb] at he;(injection he with he);have:=hk.2;omega
end
section
variable {P : Program} {ops : Array Oper} {rest : List Oper} {o : Oper} {a : Act} {Q : Exit -> Act -> World -> Prop} {Kc : Act -> World -> Prop} {α : Type}
theorem N_append(d:Kd α){w0 W:World}(base:Nat)(hgd:o.guard=none)(s x:Operand)(t e:TypeId)(z:Value)(bytes:Nat)
 (ho:o.op= .call {callee:=.builtin .append,args:=#[s,x],argTypes:=#[t,t]})
 (ht:P.underlying t=some (.slice e)) (hinfo:(P.info? e).map (λi=>(i.zero,i.size,i.bytes))=some (some z,d.sz,bytes)) (hz:z.cells.size=d.sz) (A:0<d.sz) (B:0<bytes)
 (v:Value) (xs:List α) (p:α) (cs:List Value) (ok okp:Nat->Prop) (hs:a.eval s=v) (hx:a.eval x= .slice (some ⟨W.heap.size,0,none⟩) 1 1) (hp:FK d W okp p cs) (hokp: ∀k,okp k->ok k/\some k≠v.ownBlock) (hfresh: ∀k,W.heap.size<=k->ok k)
 (HO:N d e W base ok v xs) (HB:Below base w0 W) (hbase:base<=W.heap.size) (hl:(xs.length+1)*bytes<=140737488355328)
 (h: ∀v1 w1,N d e w1 base ok v1 (xs++[p])->Below base w0 w1->W.grownBy w1 v.ownBlock->(v1.ownBlock=v.ownBlock\/ ∃b,v1.ownBlock=some b/\W.heap.size<=b)->wpList P ops Q rest (a.put o.dst v1) w1):
 wpList P ops Q (o::rest) a (W.alloc (.cells cs.toArray e)):=by
 obtain⟨h0,rows,hlr,hR,hf⟩:=HO;refine R_append (raw d.sz) base hgd s x t e z bytes ho ht hinfo hz A B v rows cs cs (λ_=>True) (λ_=>False) hs hx (zm1 hp) (λ_ hk=>hk.elim) (λ_ _=>trivial) (zlZ hR) HB hbase (by rw[hlr];exact hl) ?_;intro v1 w1 hr hb hg hat
 exact h v1 w1 (ziQ h0 hlr hf (ys:=[p]) (news:=[cs]) rfl (λj y c hy hc=>by
  rcases j with _|j
  ·simp only[List.getElem?_cons_zero,Option.some.injEq] at hy hc
   rw[<-hy,<-hc];exact hp
  ·simp at hy) hokp hfresh hr hg hat) hb hg hat
theorem N_lit(d:Kd α){w0 W:World}(base e:Nat)(hgd:o.guard=none){N':Tmp}(_hd:o.dst=some N'){xs:List α}{inner:List Value}{ok okp:Nat->Prop}
 (hrun:(execOp a.eval o).run P W= .ok (.value (.slice (some ⟨W.heap.size,0,none⟩) xs.length xs.length)) (W.alloc (.cells inner.toArray e)))
 (hrep:Reps (FK d W okp) d.sz xs inner) (hok: ∀k,okp k->ok k) (hfresh:ok W.heap.size) (HB:Below base w0 W) (hbase:base<=W.heap.size) (hm:xs.length<=9223372036854775807)
 (h: ∀v1 w1,N d e w1 base ok v1 xs->Below base w0 w1->W.grownBy w1 none->(∃b,v1.ownBlock=some b/\W.heap.size<=b)->wpList P ops Q rest (a.put o.dst v1) w1):
 wpList P ops Q (o::rest) a W:=by
 refine R_lit (raw d.sz) base e hgd _hd (xs:=chunks d.sz xs.length inner) (inner:=inner) (ok:=λk=>k=W.heap.size) (okp:=λ_=>False) (by rw[zcr];exact hrun) (zhh hrep (λy c hk=>⟨d.K_len (zes hk),d.K_one (zes hk)⟩)) (λ_ hk=>hk.elim) rfl HB hbase (by rw[zcr];exact hm) ?_;intro v1 w1 hr hb hg hat;exact h v1 w1 (zm2 hr hg hat (zcr _ _ _) (λj y c hy hc=>by rw[zeB hc];exact hrep.2 j y hy) hok hfresh) hb hg hat
end
end Kd
end Go.Proofs.YtilidabdbhaljaaGreatDoorW.PrintWords
end
section
namespace Go.Proofs.YtilidabdbhaljaaGreatDoorW.PrintMore
open Go.RowKit Go.Proofs.YtilidabdbhaljaaGreatDoorW.PrintWords
theorem zaC(k k':IntKind)(x y:Int):Builtin.max2 (.int k x) (.int k' y)=pure (.int k (if x<y then y else x)):=by simp only[Builtin.max2,gt_iff_lt]
theorem zaD(k k':IntKind)(x y:Int):Builtin.min2 (.int k x) (.int k' y)=pure (.int k (if y<x then y else x)):=by simp only[Builtin.min2]
theorem zaI(ats:Array TypeId)(ty:TypeId)(a b:Value):Builtin.max_ ats ty #[a,b]=(Builtin.max2 a b>>=λs=>pure s):=by simp only[Builtin.max_,List.foldlM_cons,List.foldlM_nil]
theorem zaJ(ats:Array TypeId)(ty:TypeId)(a b:Value):Builtin.min_ ats ty #[a,b]=(Builtin.min2 a b>>=λs=>pure s):=by simp only[Builtin.min_,List.foldlM_cons,List.foldlM_nil]
end Go.Proofs.YtilidabdbhaljaaGreatDoorW.PrintMore
namespace Go.Proofs.YtilidabdbhaljaaGreatDoorW.PrintWords
open Go.RowKit
section
variable {P : Program} {ops : Array Oper} {rest : List Oper} {o : Oper} {a : Act} {Q : Exit -> Act -> World -> Prop} {W : World}
theorem zac{f:FuncId}{as_:Array Operand}{ts:Array TypeId}(_ho:o.op= .call {callee:=.value (.func f),args:=as_,argTypes:=ts})(h:wpList P ops Q (o::rest) a W):wpList P ops Q (o::rest) a W:=h
theorem zcb{b:Builtin}{xs:Array Operand}{ts:Array TypeId}(_ho:o.op= .call {callee:=.builtin b,args:=xs,argTypes:=ts})(h:wpList P ops Q (o::rest) a W):wpList P ops Q (o::rest) a W:=h
end
def mx(a b:Int):Int:=if a<b then b else a
def mn(a b:Int):Int:=if b<a then b else a
def shl(k:IntKind)(x y:Int):Int:=k.wrap (x*2^min y.toNat k.bits)
def shr(k:IntKind)(x y:Int):Int:=x / 2^min y.toNat k.bits
theorem zcF{k:IntKind}{x y j:Int}(h:shl k x y=j)(hy:y<=k.bits):k.wrap (x*2^y.toNat)=j:=by rw[<-h];unfold shl;rw[Nat.min_eq_left (by omega)]
theorem zec{k:IntKind}{x y j:Int}(h:shr k x y=j)(hy:y<=k.bits):x / 2^y.toNat=j:=by rw[<-h];unfold shr;rw[Nat.min_eq_left (by omega)]
theorem zcG(w:World)(n:Nat):w.drewN n=w.drewN n:=rfl
end Go.Proofs.YtilidabdbhaljaaGreatDoorW.PrintWords
namespace Go.Proofs.YtilidabdbhaljaaGreatDoorW.PrintWords
open Go.RowKit
namespace Kd
def V{α:Type}(d:Kd α)(_e:Nat)(W:World)(_base:Nat)(ok:Nat->Prop)(v:Value)(xs:List α):Prop:= ∃A c,v= .slice A xs.length c/\xs.length<=c/\F d W ok A xs.length xs
section
variable {α β : Type} {d : Kd α} {e base base' n m c g N' lo hi : Nat} {ok ok' S : Nat -> Prop} {w W w1 : World} {A : Option Addr} {ad : Addr} {u v v1 : Value} {xs : List α}
theorem zeC(h:V d e W base ok v xs)(hF: ∀A,F d W ok A xs.length xs->F d w1 ok' A xs.length xs):V d e w1 base' ok' v xs:=by
 obtain⟨A,c,hv,hl,hf⟩:=h;exact⟨A,c,hv,hl,hF A hf⟩
theorem V_mk(hl:xs.length<=c)(hf:F d W ok A xs.length xs):V d e W base ok (.slice A xs.length c) xs:=⟨A,c,rfl,hl,hf⟩
theorem V_slice(h:V d e W base ok v xs): ∃A c,v= .slice A xs.length c:=by
 obtain⟨A,c,hv,_⟩:=h;exact⟨A,c,hv⟩
theorem V_at(h:V d e W base ok (.slice A n c) xs):n=xs.length/\n<=c/\F d W ok A xs.length xs:=by
 obtain⟨A',c',hv,hl,hf⟩:=h;(injection hv with ha hn hc);subst ha;subst hc;exact⟨hn,by rw[hn];exact hl,hf⟩
theorem V_reads'(h:V d e W base ok (.slice A n c) xs):n=xs.length/\n<=c/\d.C W A xs.length xs:=⟨(V_at h).1,(V_at h).2.1,zny (V_at h).2.2⟩
theorem V_F(h:V d e W base ok (.slice A n c) xs):F d W ok A n xs:=by
 obtain⟨hn,_,hf⟩:=V_at h;rw[hn];exact hf
theorem V_nil(d:Kd α)(e:Nat)(W:World)(base:Nat)(ok:Nat->Prop):V d e W base ok (.slice none 0 0) []:=⟨none,0,rfl,Nat.le_refl _,znA d W ok⟩
theorem R_V(h:d.R e W base ok v xs):V d e W base' ok v xs:=by
 obtain⟨A,c,rfl⟩:=R_slice h;exact⟨A,c,rfl,(R_reads' h).2.1,R_F h⟩
theorem V_mono(h:V d e W base ok v xs)(hok: ∀k,ok k->ok' k):V d e W base ok' v xs:=zeC h (λ_ hf=>zhg hf hok)
theorem V_lower(h:V d e W base ok v xs)(_:base'<=base):V d e W base' ok v xs:=h
theorem V_below(h:V d e W base ok v xs)(hb:Below W.heap.size W w1):V d e w1 base ok v xs:=zeC h (λ_ hf=>zfj hf hb)
theorem V_alloc(h:V d e W base ok v xs)(o:Obj):V d e (W.alloc o) base ok v xs:=zeC h (λ_ hf=>zlV hf o)
theorem V_drew(h:V d e W base ok v xs):V d e W.drew base ok v xs:=zeC h (λ_ hf=>zmY hf)
theorem V_drewN(h:V d e W base ok v xs)(m:Nat):V d e (W.drewN m) base ok v xs:=zeC h (λ_ hf=>zlW hf m)
theorem zl1(h:V d e W base (λk=>ok k/\some k≠u.ownBlock) v xs)(hg:W.grownBy w1 u.ownBlock)(hat:v1.ownBlock=u.ownBlock\/ ∃b,v1.ownBlock=some b/\W.heap.size<=b):V d e w1 base (λk=>ok k/\some k≠v1.ownBlock) v xs:=zeC h (λ_ hf=>zlX hf hg hat)
theorem V_afterv(h:V d e W base (λk=>ok k/\some k≠v.ownBlock) u xs)(hg:W.grownBy w1 v.ownBlock)(hat:v1.ownBlock=v.ownBlock\/ ∃b,v1.ownBlock=some b/\W.heap.size<=b):V d e w1 base (λk=>ok k/\some k≠v1.ownBlock) u xs:=zl1 h hg hat
theorem V_elder'(h:V d e W base ok v xs)(hbase: ∀k,u.ownBlock=some k->W.heap.size<=k)(hb:Below W.heap.size W w1):V d e w1 base (λk=>ok k/\some k≠u.ownBlock) v xs:=zeC h (λ_ hf=>zkG hf hbase hb)
theorem F_take(h:F d W ok A xs.length xs)(hm:m<=xs.length):F d W ok A (xs.take m).length (xs.take m):=znz h (λ_ hC=>zmT hC hm)
theorem FK_slice_open{l:List α}{cs:List Value}(h:FK (Kd.slice e d) W ok l cs): ∃A c,cs=[.slice A l.length c]/\l.length<=c/\F d W ok A l.length l:=by
 obtain⟨A,c,rfl,hl,_⟩:=zes h;refine⟨A,c,rfl,hl,λW' hW=>?_⟩;obtain⟨A',c',he,_,g'⟩:=h W' hW;(injection he with he _);(injection he with ha _ _);rw[ha];exact g'
theorem FK_slice_mk{l:List α}(hl:l.length<=c)(hf:F d W ok A l.length l):FK (Kd.slice e d) W ok l [.slice A l.length c]:=λW' hW=>⟨A,c,rfl,hl,hf W' hW⟩
theorem R_newM{M:Nat->Prop}(h:d.R e w1 W.heap.size ok v xs)(hle:w.heap.size<=W.heap.size)(hM: ∀k,w.heap.size<=k->M k):d.R e w1 W.heap.size (λk=>M k/\ok k) v xs:=R_mono (zc7 h) (λk hk=>⟨hM k (Nat.le_trans hle hk.2.1),hk.1⟩)
end
end Kd
end Go.Proofs.YtilidabdbhaljaaGreatDoorW.PrintWords
end
section
namespace Go.Proofs.YtilidabdbhaljaaGreatDoor.Fn
open Go.RowKit Go.Proofs.YtilidabdbhaljaaGreatDoorW.PrintWords Go.Proofs.YtilidabdbhaljaaGreatDoorW.PrintLast Go.Proofs.YtilidabdbhaljaaGreatDoorW.PrintMore
attribute [local go_sem] zaC zaD zaI zaJ
def errW:Option Int->Value
 |none=>.nilIface
 |some c=>.iface 0 (.int .i64 c)
theorem zb1:errW none= .nilIface:=rfl
theorem zb2(c:Int):errW (some c)= .iface 0 (.int .i64 c):=rfl
theorem zdo:(Tryz.prog.info? 5).map (λi=>(i.zero,i.size,i.bytes))=some (some (.int .u8 0),1,1):=by kernel_rfl
theorem zjm:(Tryz.prog.info? 22).map (λi=>(i.zero,i.size,i.bytes))=some (some (.int .u64 0),1,8):=by kernel_rfl
theorem zl2:(Tryz.prog.info? 109).map (λi=>(i.zero,i.size,i.bytes))=some (some (.slice none 0 0),1,24):=by kernel_rfl
def zb3(xs:List (List Int))(i:Int):(List Int):=xs.getD i.toNat ([]:List Int)
theorem zg2{w:World}{A:Option Addr}{n:Nat}{xs:List (List Int)}(h:Kd.C (Kd.slice 5 (Kd.int .u8)) w A n xs)(i:Int)(h0:0<=i)(h1:i<n): ∃ad A0 c0,A=some ad/\w.cell? (ad.add i.toNat)=some (.slice A0 (zb3 xs i).length c0)/\(zb3 xs i).length<=c0/\(Kd.int .u8).C w A0 (zb3 xs i).length (zb3 xs i):=by
 obtain⟨ad,c,e,_,hK,B⟩:=Kd.C_get h ([]:List Int) i h0 h1;have hc: ∀j u,c[j]? =some u->w.cell? (ad.add (i.toNat*1+j))=some u:=B;obtain⟨A0,c0,rfl,l0,g0⟩:=hK;exact⟨ad,A0,c0,e,by have hq:=hc 0 _ rfl;rwa [Nat.mul_one,Nat.add_zero] at hq,l0,g0⟩
def cpyAt(xs:List Int)(k:Nat)(s:ByteArray):List Int:=xs.take k++bytesOf s++xs.drop (k+s.size)
theorem zdM(s:ByteArray):Lib.byteCells s.data.toList=nums .u8 (bytesOf s):=by
 simp[Lib.byteCells,nums,bytesOf]
theorem Kd.R_copyAt{W:World}{base e g n cap:Nat}{ok:Nat->Prop}{xs:List Int}(h:(Kd.int .u8).R e W base ok (.slice (some ⟨g,0,none⟩) n cap) xs)(s:ByteArray)(hn:s.size+1<=n):
 ∃cur,W.heap[g]? =some (.cells cur e (0,0))/\1+s.size<=cur.size/\base<=g/\
  (Kd.int .u8).R e (W.setRow g (cur.toList.take 1++Lib.byteCells s.data.toList++cur.toList.drop (1+s.size)).toArray) base ok (.slice (some ⟨g,0,none⟩) n cap) (cpyAt xs 1 s):=by
 obtain⟨rfl,_⟩:=Kd.R_reads' h;have h0:=h.1;obtain⟨h1,h2⟩:=Kd.own_of_R h;rcases h2 with⟨he,_⟩|⟨g',cap',cur,he,hb,hg,hnc,hcm,hcs,htk⟩
 (·cases he);(injection he with A _ B);(injection A with A);(injection A with A);subst A;subst B;(have hbl:(Lib.byteCells s.data.toList).length=s.size:=by rw[zdM,nums_length,bytesOf_length]);(have hcl:cur.toList.length=cap:=by rw[Array.length_toList];omega);have hlen:(cpyAt xs 1 s).length=xs.length:=by
  unfold cpyAt;rw[List.length_append,List.length_append,bytesOf_length,List.length_take,List.length_drop];omega
 refine⟨cur,hg,by omega,hb,?_⟩;have key:(W.setRow g (cur.toList.take 1++Lib.byteCells s.data.toList++cur.toList.drop (1+s.size)).toArray).ownsRow base e 1 (.slice (some ⟨g,0,none⟩) xs.length cap) xs.length (encs (Value.int .u8) (cpyAt xs 1 s)):=by
  refine⟨by simp[encs,hlen],.inr ⟨g,cap,_,rfl,hb,setRow_heap W g cur _ e (0,0) hg,hnc,hcm,?_,?_⟩⟩
  ·simp only[List.size_toArray,List.length_append,List.length_take,List.length_drop,hbl,hcl];omega
  ·have hle:(cur.toList.take 1++Lib.byteCells s.data.toList).length=1+s.size:=by
    rw[List.length_append,hbl,List.length_take];omega
   rw[Nat.mul_one] at htk ⊢;have hx:encs (Value.int .u8) (cpyAt xs 1 s)=(encs (Value.int .u8) xs).take 1++Lib.byteCells s.data.toList++(encs (Value.int .u8) xs).drop (1+s.size):=by
    rw[zdM];simp[encs,cpyAt,nums,List.map_take,List.map_drop]
   rw[hx,<-htk,List.take_append,hle,List.take_of_length_le (by rw[hle];omega),List.take_take,List.drop_take,Nat.min_eq_left (by omega)]
 rw[<-hlen] at key;have:=Kd.R_of_own (h1:=λ_=>rfl) key h0;rw[hlen] at this;exact this
theorem zhZ{P:Program}{ops:Array Oper}{o:Oper}{a:Act}{w0 w:World}{K:Act->World->Prop}{Q:Exit->Act->World->Prop}{E:Prop}
 (hgd:o.guard=none) (d x:Operand) (dT sT:TypeId) (hop:o.op=Op.call {callee:=Callee.builtin Builtin.copy,args:=#[d,x],argTypes:=#[dT,sT]})
 (e:TypeId) (hu:P.underlying dT=some (.slice e)) (hz:(P.info? e).map (·.size)=some 1)
 {base g n cap:Nat} {xs:List Int} {A:Option Addr} {dLen dCap:Nat} (hd:a.eval d= .slice A dLen dCap) (hA:A=some ⟨g,1,none⟩) (s:ByteArray) (hx:a.eval x= .string s) (hle:s.size<=dLen) (hn:s.size+1<=n)
 (HO:(Kd.int .u8).R e w base (λ_=>True) (.slice (some ⟨g,0,none⟩) n cap) xs) (HB:Below base w0 w)
 (hK: ∀w1,(Kd.int .u8).R e w1 base (λ_=>True) (.slice (some ⟨g,0,none⟩) n cap) (cpyAt xs 1 s)->w.grownBy w1 (some g)->Below base w0 w1->K (a.put o.dst (goInt s.size)) w1):
 if Region.wanted o (yielded ops a.tmps)=true then Oper.wp P o a w K Q else E:=by
 (have hw:Region.wanted o (yielded ops a.tmps)=true:=by simp[Region.wanted,hgd]);rw[if_pos hw];subst hA;obtain⟨cur,hg,hfit,hb,hR⟩:=Kd.R_copyAt HO s hn;have hrun:=Lib.run_copy_row_string (P:=P) w dT sT o.type e g 1 dLen dCap s cur e hu hz hg hle hfit;unfold Oper.wp;simp[execOp,hop,resolve,invoke,builtin,hd,hx,hrun,Result.andThen];rw[List.append_assoc] at hR;exact hK _ hR ⟨rfl,rfl,rfl,by simp,λk _ hk=>setRow_other w g k _ (λe_=>hk (by rw[e_]))⟩ (below_setRow HB hb _)
section
variable {P : Program} {ops : Array Oper} {rest : List Oper} {o : Oper} {a : Act} {Q : Exit -> Act -> World -> Prop}
theorem Kd.V_conv{w0 W:World}(base:Nat)(hgd:o.guard=none){N:Tmp}(_hd:o.dst=some N)(src dst e:TypeId)(x:Operand)(ho:o.op= .convert src dst x)(s:ByteArray)(hx:a.eval x= .string s)
 {u:TypeDesc} (hsrc:P.underlying src=some u) (hdst:P.underlying dst=some (.slice e)) (he:P.underlying e=some (.int .u8)) (hs:s.size<=9223372036854775807)
 {ok:Nat->Prop} (hfresh:ok W.heap.size) (HB:Below base w0 W) (hbase:base<=W.heap.size)
 (h: ∀v1 w1,Kd.V (Kd.int .u8) e w1 base ok v1 (bytesOf s)->Below base w0 w1->W.grownBy w1 none->(∃b,v1.ownBlock=some b/\W.heap.size<=b)->wpList P ops Q rest (a.put o.dst v1) w1):wpList P ops Q (o::rest) a W:=by
 have hr:=zfs (P:=P) src dst e hsrc hdst he s W;have hlen:(bytesOf s).length=s.size:=bytesOf_length s;refine Kd.event_run hgd (by simp[execOp,ho,hx,hr]) (h (.slice (some ⟨W.heap.size,0,none⟩) s.size (grownCap W s.size 0 e)) (Lib.bytesWorld W e s) ⟨some ⟨W.heap.size,0,none⟩,grownCap W s.size 0 e,by rw[hlen],by rw[hlen];exact grownCap_ge W s.size 0 e,λW' hW=>?_⟩ (zen HB hbase e s) (zer (zen (Below.refl _ _) (Nat.le_refl _) e s) none) ⟨W.heap.size,rfl,Nat.le_refl _⟩);have hh:=hW W.heap.size hfresh (by rw[Lib.bytesWorld_size];omega);obtain⟨h1,h2,h3⟩:=zhW W e s hs;rw[hlen];refine Kd.C_of_reads (d:=(0:Int)) (h1:=λ_=>rfl) (⟨h1,h2,λhn=>?_⟩:ReadsInt W' .u8 (some ⟨W.heap.size,0,none⟩) s.size (bytesOf s));obtain⟨ad,hA,hc⟩:=h3 hn;refine⟨ad,hA,λj hj=>?_⟩;have:=hc j hj;(injection hA with hA);subst hA;rw[add_plain] at this ⊢;simp only[World.cell?] at this ⊢;rw[hh];exact this
end
theorem bz{P:Prop}(h:P:=by repeat(first|(with_reducible first|exact HB.out|apply zb0|apply zch|apply zaT|refine zb5 ?_ (zaa.out (by with_reducible assumption)))|exact HB.out)):P:=h
theorem fB{w:World}{g b j:Nat}{t:TypeId}{cs:Array Value}(h:w.heap[g]? =some (.cells cs t (0,0)))(hp:g≠b)(u:Value):(w.setCell ⟨b,j,none⟩ u).heap[g]? =some (.cells cs t (0,0)):=zlN h hp u
theorem bk{P:Prop}(h:P:=by repeat' (first|(with_reducible first|exact zaa.out (by with_reducible assumption)|apply zbU|apply zat|apply zbT|apply zlP|apply fB)|rfl)):P:=h
theorem bN{w W w1:World}(h:Below w.heap.size w W)(hb:Below W.heap.size W w1):zaa (Below w.heap.size w w1):=⟨ziO h hb⟩
theorem gN{w W:World}{g:Nat}(h:Below w.heap.size w W)(hg:g=W.heap.size):zaa (w.heap.size<=g):=⟨by rw[hg];exact zay h⟩
theorem lN{W:World}{g g':Nat}{cs:Array Value}{t:TypeId}(hg:g'=W.heap.size)(h:W.heap[g]? =some (.cells cs t (0,0))):zaa (g≠g'):=⟨by rw[hg];exact Nat.ne_of_lt (zba h)⟩
theorem rN{W:World}{g g':Nat}{cs:Array Value}{t:TypeId}(hg:g'=W.heap.size)(h:W.heap[g]? =some (.cells cs t (0,0))):zaa (g'≠g):=⟨by rw[hg];exact Nat.ne_of_gt (zba h)⟩
theorem kN{W w1:World}{g:Nat}{cs:Array Value}{t:TypeId}(hb:Below W.heap.size W w1)(h:W.heap[g]? =some (.cells cs t (0,0))):zaa (w1.heap[g]? =some (.cells cs t (0,0))):=⟨zjc h hb⟩
theorem ez{P:Prop}(h:P:=by first|rfl|(simp[zb1,zb2]<;>rfl)|(simp[*,zb1,zb2]<;>rfl)):P:=h
theorem rz{P:Prop}(h:P:=by first|rfl|(simp;done)|(simp[*];done)):P:=h
theorem lz{P:Prop}(h:P:=by(try simp only[List.map_toArray,List.map_cons,List.map_nil]);first|done|rfl|(simp only[List.length_drop,List.length_take];rfl)):P:=h
theorem gz{P:Prop}(h:P:=by first|(go_simp;done)|(go_simp;rfl)):P:=h
theorem bs{α β:Type}{o:Option α}{f:α->Option β}{r:β}(h:o.bind f=some r): ∃a,zaa (o=some a)/\f a=some r:=by
 obtain⟨a,h1,h2⟩:=Option.bind_eq_some_iff.mp h;exact⟨a,⟨h1⟩,h2⟩
theorem hT{α:Type}{a b r:α}(h:(if true=true then a else b)=r):a=r:=h
theorem hF{α:Type}{a b r:α}(h:(if false=true then a else b)=r):b=r:=h
theorem cz2{W:World}{g:Nat}{t:TypeId}{a0 a1:Value}(h:zaa (W.heap[g]? =some (.cells #[a0,a1] t (0,0)))):W.cell? ⟨g,0,none⟩=some a0/\W.cell? ⟨g,1,none⟩=some a1/\W.frozen? ⟨g,0,none⟩=false/\W.frozen? ⟨g,1,none⟩=false:=⟨(zab h.out 0).trans rfl,(zab h.out 1).trans rfl,za1 h.out 0,za1 h.out 1⟩
theorem cz3{W:World}{g:Nat}{t:TypeId}{a0 a1 a2:Value}(h:zaa (W.heap[g]? =some (.cells #[a0,a1,a2] t (0,0)))):W.cell? ⟨g,0,none⟩=some a0/\W.cell? ⟨g,1,none⟩=some a1/\W.cell? ⟨g,2,none⟩=some a2/\W.frozen? ⟨g,0,none⟩=false/\W.frozen? ⟨g,1,none⟩=false/\W.frozen? ⟨g,2,none⟩=false:=⟨(zab h.out 0).trans rfl,(zab h.out 1).trans rfl,(zab h.out 2).trans rfl,za1 h.out 0,za1 h.out 1,za1 h.out 2⟩
theorem cz5{W:World}{g:Nat}{t:TypeId}{a0 a1 a2 a3 a4:Value}(h:zaa (W.heap[g]? =some (.cells #[a0,a1,a2,a3,a4] t (0,0)))):W.cell? ⟨g,0,none⟩=some a0/\W.cell? ⟨g,1,none⟩=some a1/\W.cell? ⟨g,2,none⟩=some a2/\W.cell? ⟨g,3,none⟩=some a3/\W.cell? ⟨g,4,none⟩=some a4/\W.frozen? ⟨g,0,none⟩=false/\W.frozen? ⟨g,1,none⟩=false/\W.frozen? ⟨g,2,none⟩=false/\W.frozen? ⟨g,3,none⟩=false/\W.frozen? ⟨g,4,none⟩=false:=⟨(zab h.out 0).trans rfl,(zab h.out 1).trans rfl,(zab h.out 2).trans rfl,(zab h.out 3).trans rfl,(zab h.out 4).trans rfl,za1 h.out 0,za1 h.out 1,za1 h.out 2,za1 h.out 3,za1 h.out 4⟩
theorem cz7{W:World}{g:Nat}{t:TypeId}{a0 a1 a2 a3 a4 a5 a6:Value}(h:zaa (W.heap[g]? =some (.cells #[a0,a1,a2,a3,a4,a5,a6] t (0,0)))):W.cell? ⟨g,0,none⟩=some a0/\W.cell? ⟨g,1,none⟩=some a1/\W.cell? ⟨g,2,none⟩=some a2/\W.cell? ⟨g,3,none⟩=some a3/\W.cell? ⟨g,4,none⟩=some a4/\W.cell? ⟨g,5,none⟩=some a5/\W.cell? ⟨g,6,none⟩=some a6/\W.frozen? ⟨g,0,none⟩=false/\W.frozen? ⟨g,1,none⟩=false/\W.frozen? ⟨g,2,none⟩=false/\W.frozen? ⟨g,3,none⟩=false/\W.frozen? ⟨g,4,none⟩=false/\W.frozen? ⟨g,5,none⟩=false/\W.frozen? ⟨g,6,none⟩=false:=⟨(zab h.out 0).trans rfl,(zab h.out 1).trans rfl,(zab h.out 2).trans rfl,(zab h.out 3).trans rfl,(zab h.out 4).trans rfl,(zab h.out 5).trans rfl,(zab h.out 6).trans rfl,za1 h.out 0,za1 h.out 1,za1 h.out 2,za1 h.out 3,za1 h.out 4,za1 h.out 5,za1 h.out 6⟩
theorem cz8{W:World}{g:Nat}{t:TypeId}{a0 a1 a2 a3 a4 a5 a6 a7:Value}(h:zaa (W.heap[g]? =some (.cells #[a0,a1,a2,a3,a4,a5,a6,a7] t (0,0)))):W.cell? ⟨g,0,none⟩=some a0/\W.cell? ⟨g,1,none⟩=some a1/\W.cell? ⟨g,2,none⟩=some a2/\W.cell? ⟨g,3,none⟩=some a3/\W.cell? ⟨g,4,none⟩=some a4/\W.cell? ⟨g,5,none⟩=some a5/\W.cell? ⟨g,6,none⟩=some a6/\W.cell? ⟨g,7,none⟩=some a7/\W.frozen? ⟨g,0,none⟩=false/\W.frozen? ⟨g,1,none⟩=false/\W.frozen? ⟨g,2,none⟩=false/\W.frozen? ⟨g,3,none⟩=false/\W.frozen? ⟨g,4,none⟩=false/\W.frozen? ⟨g,5,none⟩=false/\W.frozen? ⟨g,6,none⟩=false/\W.frozen? ⟨g,7,none⟩=false:=⟨(zab h.out 0).trans rfl,(zab h.out 1).trans rfl,(zab h.out 2).trans rfl,(zab h.out 3).trans rfl,(zab h.out 4).trans rfl,(zab h.out 5).trans rfl,(zab h.out 6).trans rfl,(zab h.out 7).trans rfl,za1 h.out 0,za1 h.out 1,za1 h.out 2,za1 h.out 3,za1 h.out 4,za1 h.out 5,za1 h.out 6,za1 h.out 7⟩
theorem eT{α:Type}[BEq α][LawfulBEq α]{a b:α}(h:a=b):(a==b)=true/\(a !=b)=false:=⟨beq_iff_eq.mpr h,bne_eq_false_iff_eq.mpr h⟩
theorem eF{α:Type}[BEq α][LawfulBEq α]{a b:α}(h: ¬a=b):(a==b)=false/\(a !=b)=true:=⟨beq_eq_false_iff_ne.mpr h,bne_iff_ne.mpr h⟩
theorem hE{α:Type}{c:Prop}[Decidable c]{a b r:α}(h:(if c then a else b)=r)(hc:c):a=r:=by rw[if_pos hc] at h;exact h
theorem hN{α:Type}{c:Prop}[Decidable c]{a b r:α}(h:(if c then a else b)=r)(hc: ¬c):b=r:=by rw[if_neg hc] at h;exact h
def fnW(c:Int):Value:=if c=0 then .nilFunc else if c=1 then .func (.func 39) #[] #[] else if c=2 then .func (.func 40) #[] #[] else if c=3 then .func (.func 41) #[] #[] else if c=4 then .func (.func 42) #[] #[] else .func (.func 43) #[] #[]
theorem fnW_0:fnW 0= .nilFunc:=rfl
theorem fnW_1:fnW 1= .func (.func 39) #[] #[]:=rfl
theorem fnW_2:fnW 2= .func (.func 40) #[] #[]:=rfl
theorem fnW_3:fnW 3= .func (.func 41) #[] #[]:=rfl
theorem fnW_4:fnW 4= .func (.func 42) #[] #[]:=rfl
theorem fnW_5:fnW 5= .func (.func 43) #[] #[]:=rfl
theorem fnW_guard{op:BinOp}{t:TypeId}{x y:Operand}{v:Value}(n:Int):eqGuard op t x y (fnW n) v=pure ():=by
 unfold fnW;(repeat' split);all_goals(cases op<;>rfl)
theorem fnEqIn(w:World)(d:Nat):(Op.equalIn (d+1) 49 .nilFunc .nilFunc).run Tryz.prog w= .ok true w:=by
 have hu:=run_underlying (P:=Tryz.prog) Tryz.underlying49;simp[Op.equalIn,hu]
theorem fnNeIn(w:World)(d g:Nat):(Op.equalIn (d+1) 49 (.func (.func g) #[] #[]) .nilFunc).run Tryz.prog w= .ok false w:=by
 have hu:=run_underlying (P:=Tryz.prog) Tryz.underlying49;simp[Op.equalIn,hu]
theorem fnEq(w:World):(Op.equal 49 .nilFunc .nilFunc).run Tryz.prog w= .ok true w:=fnEqIn w 9999
theorem fnNe(w:World)(g:Nat):(Op.equal 49 (.func (.func g) #[] #[]) .nilFunc).run Tryz.prog w= .ok false w:=fnNeIn w 9999 g
theorem fnW_eql(w:World)(n:Int):(binOp .eql 49 (fnW n) .nilFunc).run Tryz.prog w= .ok (.bool (n==0)) w:=by
 by_cases h:n=0
 (·subst h;rw[fnW_0];simp only[binOp];simp[fnEq]);have e:(n==0)=false:=beq_eq_false_iff_ne.mpr h;rw[e];obtain⟨g,hg⟩: ∃g,fnW n= .func (.func g) #[] #[]:=by
  unfold fnW;rw[if_neg h];(repeat' split);all_goals exact⟨_,rfl⟩
 rw[hg];simp only[binOp];simp[fnNe]
section
variable {P : Program} {ops : Array Oper} {Q : Exit -> Act -> World -> Prop} {md : Region.Mode} {S : World -> Prop} {ds : List Nat} {T : Bool × List (List Nat × List Nat)}
theorem pz{i N:Nat}{oi:Oper}{v:Value}{fuel:Nat}{l l':Array Bool}{a a':Act}{w:World}(hT:zaa (rtab md ops=T))(h:wpAnyLast P md ops Q S ds fuel l' a' w)
 (hi:ops[i]? =some oi:=by rfl) (hN:oi.dst=some N:=by rfl) (hl:l.setIfInBounds i true=l':=by(simp only[List.setIfInBounds_toArray,List.set_cons_zero,List.set_cons_succ];rfl)) (hc:anyT T l.toList l'.toList i=true:=by kernel_rfl)
 (hQ: ∀c a w,Q (.panic c) (a.put oi.dst v) w->Q (.panic c) a w:=by exact λ_ _ _ h=>h) (hw:Region.wanted oi (yielded ops a.tmps)=true:=by rfl) (hy: ∀w,(execOp a.eval oi).run P w= .ok (.value v) w:=by(intro w';go_simp;with_reducible rfl))
 (ha:a.put (some N) v=a':=by(simp only[Act.put,List.setIfInBounds_toArray,List.set_cons_zero,List.set_cons_succ,zbb,zbo];rfl)):wpAnyLast P md ops Q S ds (fuel+1) l a w:=
 zb9 l' hi hN (zji hT.out hc) hQ (Or.inl ⟨hw,hy⟩) ha h
theorem qz{i N:Nat}{oi:Oper}{fuel:Nat}{l l':Array Bool}{a a':Act}{w:World}(hT:zaa (rtab md ops=T))(h:wpAnyLast P md ops Q S ds fuel l' a' w)
 (hi:ops[i]? =some oi:=by rfl) (hN:oi.dst=some N:=by rfl) (hl:l.setIfInBounds i true=l':=by(simp only[List.setIfInBounds_toArray,List.set_cons_zero,List.set_cons_succ];rfl)) (hc:anyT T l.toList l'.toList i=true:=by kernel_rfl)
 (hQ: ∀c a w,Q (.panic c) (a.put oi.dst undef) w->Q (.panic c) a w:=by exact λ_ _ _ h=>h) (hw:Region.wanted oi (yielded ops a.tmps)=false:=by rfl)
 (ha:a.put (some N) undef=a':=by(simp only[Act.put,List.setIfInBounds_toArray,List.set_cons_zero,List.set_cons_succ,zbb,zbo];rfl)):wpAnyLast P md ops Q S ds (fuel+1) l a w:=
 zb9 l' hi hN (zji hT.out hc) hQ (Or.inr ⟨hw,rfl⟩) ha h
theorem oz{i:Nat}{N:Option Tmp}{oi:Oper}{fuel:Nat}{l l':Array Bool}{a:Act}{w:World}(hT:zaa (rtab md ops=T))
 (h: ∀K:Act->World->Prop,Shut (∀a' w',S w'->(S w'->wpAnyLast P md ops Q S ds fuel l' a' w')->K a' w')->if Region.wanted oi (yielded ops a.tmps)=true then Oper.wp P oi a w K Q else K (a.put N undef) w)
 (hi:ops[i]? =some oi:=by rfl) (hN:oi.dst=N:=by rfl) (hl:l.setIfInBounds i true=l':=by(simp only[List.setIfInBounds_toArray,List.set_cons_zero,List.set_cons_succ];rfl)) (hc:(readyT T.2 l.toList==[i]&&l.toList.set i true==l'.toList)=true:=by kernel_rfl) (hd:i∉ds:=by decide):wpAnyLast P md ops Q S ds (fuel+1) l a w:=
 one_ l' hi hN (zmU hT.out hc) hd h
theorem nz{N:Nat}{v:Value}{fuel:Nat}{l:Array Bool}{a a':Act}{w:World}(h:wpAnyLast P md ops Q S ds fuel l a' w)
 (ha:a.put (some N) v=a':=by(simp only[Act.put,List.setIfInBounds_toArray,List.set_cons_zero,List.set_cons_succ,zbb,zbo];rfl)):wpAnyLast P md ops Q S ds fuel l (a.put (some N) v) w:=zcO ha h
theorem dz{l:Array Bool}{a:Act}{w:World}{n:Nat}(hT:zaa (rtab md ops=T))(h:Q .normal a w)(hr:(readyT T.2 l.toList==[])=true:=by kernel_rfl):wpAnyLast P md ops Q S ds n l a w:=zdO (zlS hT.out hr) h
end
theorem hG{α:Type}{c:Prop}[Decidable c]{a:Option α}{r:α}(h:(if c then a else none)=some r):c/\a=some r:=by
 by_cases d:c
 ·rw[if_pos d] at h;exact⟨d,h⟩
 ·rw[if_neg d] at h;cases h
theorem hG3{α:Type}{c:Prop}[Decidable c]{a:Option α}{r:α}(h:(if c then a else none)=some r):(c=True)/\(decide c=true)/\a=some r:=⟨eq_true (hG h).1,decide_eq_true (hG h).1,(hG h).2⟩
theorem hE3{α:Type}{c:Prop}[Decidable c]{a b r:α}(h:(if c then a else b)=r)(hc:c):(c=True)/\(decide c=true)/\a=r:=⟨eq_true hc,decide_eq_true hc,hE h hc⟩
theorem ex{α:Type}(a:α): ∃j,a=j:=⟨_,rfl⟩
theorem dr{P:Prop}(h:P:=by repeat(first|exact zbi.refl _|apply zbi.step)):P:=h
theorem rd2{P:Prop}(h:P:=by first|rfl|(simp;done)|(simp[*];done)):P:=h
theorem bc{W:World}{g:Nat}{t:TypeId}{cs:Array Value}(h:zaa (W.heap[g]? =some (.cells cs t (0,0))))(j:Nat){v:Value}(hv:cs[j]? =some v:=by rfl):W.cell? ⟨g,j,none⟩=some v:=(zab h.out j).trans hv
theorem d1{W:World}{g:Nat}{t:TypeId}{a0:Value}(h:zaa (W.heap[g]? =some (.cells #[a0] t (0,0)))):W.cell? ⟨g,0,none⟩=some a0:=bc h 0
theorem d2{W:World}{g:Nat}{t:TypeId}{a0 a1:Value}(h:zaa (W.heap[g]? =some (.cells #[a0,a1] t (0,0)))):W.cell? ⟨g,0,none⟩=some a0/\W.cell? ⟨g,1,none⟩=some a1:=⟨bc h 0,bc h 1⟩
theorem d7{W:World}{g:Nat}{t:TypeId}{a0 a1 a2 a3 a4 a5 a6:Value}(h:zaa (W.heap[g]? =some (.cells #[a0,a1,a2,a3,a4,a5,a6] t (0,0)))):W.cell? ⟨g,0,none⟩=some a0/\W.cell? ⟨g,1,none⟩=some a1/\W.cell? ⟨g,2,none⟩=some a2/\W.cell? ⟨g,3,none⟩=some a3/\W.cell? ⟨g,4,none⟩=some a4/\W.cell? ⟨g,5,none⟩=some a5/\W.cell? ⟨g,6,none⟩=some a6:=⟨bc h 0,bc h 1,bc h 2,bc h 3,bc h 4,bc h 5,bc h 6⟩
theorem d8{W:World}{g:Nat}{t:TypeId}{a0 a1 a2 a3 a4 a5 a6 a7:Value}(h:zaa (W.heap[g]? =some (.cells #[a0,a1,a2,a3,a4,a5,a6,a7] t (0,0)))):W.cell? ⟨g,0,none⟩=some a0/\W.cell? ⟨g,1,none⟩=some a1/\W.cell? ⟨g,2,none⟩=some a2/\W.cell? ⟨g,3,none⟩=some a3/\W.cell? ⟨g,4,none⟩=some a4/\W.cell? ⟨g,5,none⟩=some a5/\W.cell? ⟨g,6,none⟩=some a6/\W.cell? ⟨g,7,none⟩=some a7:=⟨bc h 0,bc h 1,bc h 2,bc h 3,bc h 4,bc h 5,bc h 6,bc h 7⟩
section
variable {P : Program} {ops : Array Oper} {Q : Exit -> Act -> World -> Prop} {md : Region.Mode} {S : World -> Prop} {ds : List Nat} {T : Bool × List (List Nat × List Nat)}
theorem gB{rest:List Oper}{oi:Oper}{a:Act}{w:World}{N:Option Tmp}{V:Value}{f:FuncId}{fn:Func}{as_:Array Operand}{ts:Array TypeId}{args:Array Value}(hf:P.funcs[f]? =some fn)(h:Calls P f args w λe w'=>e= .returned V/\Below w.heap.size w w')
 (k: ∀w1,Below w.heap.size w w1->wpList P ops Q rest (a.put N V) w1) (hd:oi.dst=N:=by rfl) (hg:oi.guard=none:=by rfl) (hname:(fn.name== "runtime.NumGoroutine")=false:=by kernel_rfl) (hb:fn.body.isSome=true:=by rfl)
 (hop:oi.op= .call {callee:=.value (.func f),args:=as_,argTypes:=ts}:=by rfl) (hargs:as_.map a.eval=args:=by(try simp only[List.map_toArray,List.map_cons,List.map_nil]);first|done|rfl|(simp only[List.length_drop,List.length_take];rfl)):wpList P ops Q (oi::rest) a w:=
 zbm N hd hg hf hname hb args hop hargs (h.mono λe w' he=>⟨V,he.1,k w' he.2⟩)
theorem gG{oi:Oper}{a:Act}{w:World}{K:Act->World->Prop}{N:Option Tmp}{V:Value}{f:FuncId}{fn:Func}{as_:Array Operand}{ts:Array TypeId}{args:Array Value}(hf:P.funcs[f]? =some fn)(h:Calls P f args w λe w'=>e= .returned V/\Below w.heap.size w w')
 (k: ∀w1,Below w.heap.size w w1->K (a.put N V) w1) (hname:(fn.name== "runtime.NumGoroutine")=false:=by kernel_rfl) (hb:fn.body.isSome=true:=by rfl) (hw:Region.wanted oi (yielded ops a.tmps)=true:=by rfl) (hN:oi.dst=N:=by rfl)
 (hop:oi.op= .call {callee:=.value (.func f),args:=as_,argTypes:=ts}:=by rfl) (hargs:as_.map a.eval=args:=by(try simp only[List.map_toArray,List.map_cons,List.map_nil]);first|done|rfl|(simp only[List.length_drop,List.length_take];rfl)):if Region.wanted oi (yielded ops a.tmps)=true then Oper.wp P oi a w K Q else K (a.put N undef) w:=
 zcD hf hname hb args hw hN hop hargs (h.mono λe w' he=>⟨V,he.1,k w' he.2⟩)
theorem tz{B:List Nat}{i N:Nat}{oi:Oper}{v:Value}{fuel:Nat}{l l':Array Bool}{a a':Act}{w:World}(hi:ops[i]? =some oi)(hT:zaa (rtab md ops=T))(hB:zaa (waitsOk T.2 B=true))(hS:S w)(hy: ∀w,S w->(execOp a.eval oi).run P w= .ok (.value v) w)(h:wpAnyLast P md ops Q S ds fuel l' a' w)
 (hN:oi.dst=some N:=by rfl) (hl:l.setIfInBounds i true=l':=by(simp only[List.setIfInBounds_toArray,List.set_cons_zero,List.set_cons_succ];rfl)) (hc:takeW T B ds l.toList l'.toList i=true:=by kernel_rfl)
 (hQ: ∀c a w,Q (.panic c) (a.put oi.dst v) w->Q (.panic c) a w:=by exact λ_ _ _ h=>h) (hw:Region.wanted oi (yielded ops a.tmps)=true:=by rfl)
 (ha:a.put (some N) v=a':=by(simp only[Act.put,List.setIfInBounds_toArray,List.set_cons_zero,List.set_cons_succ,zbb,zbo];rfl)):wpAnyLast P md ops Q S ds (fuel+1) l a w:=
 zc1 l' hi hN (zkF hT.out hB.out hc) hQ (Or.inl ⟨hw,hy⟩) hS ha h
end
theorem dw{P:Prop}(h:P:=by first|exact⟨rfl,_,World.drewN_drewN _ _ _⟩|exact⟨rfl,_,Eq.trans (World.drewN_drewN _ _ _) (congrArg (World.drewN _) (Nat.add_assoc _ _ _))⟩):P:=h
theorem o2{α β:Type}{a c:α}{b d:β}(h:some (a,b)=some (c,d)):a=c/\b=d:=by simpa using h
theorem o3{α β γ:Type}{a d:α}{b e:β}{c f:γ}(h:some (a,b,c)=some (d,e,f)):a=d/\b=e/\c=f:=by simpa using h
theorem od{p:Prop}[Decidable p](h:decide p=true:=by first|(with_reducible assumption)|assumption):p:=of_decide_eq_true h
theorem sA{α:Type}:(∀(l:List α) (i:Nat) (a:α),l.toArray.setIfInBounds i a=(l.set i a).toArray)/\(∀(x:α) (l:List α) (a:α),(x::l).set 0 a=a::l)/\(∀(x:α) (l:List α) (n:Nat) (a:α),(x::l).set (n+1) a=x::l.set n a):=
 ⟨λl i a=>List.setIfInBounds_toArray l i a,λx l a=>List.set_cons_zero,λx l n a=>List.set_cons_succ⟩
theorem kr{A B:Prop}(h:A)(f:A->B:=by intro h;(with_reducible repeat(first|apply Kd.R_alloc|apply Kd.R_drewN|apply Kd.R_drew));exact h):B:=f h
theorem kv{A B:Prop}(h:A)(f:A->B:=by intro h;(with_reducible repeat(first|apply Kd.V_alloc|apply Kd.V_drewN|apply Kd.V_drew));exact h):B:=f h
theorem kc{A B:Prop}(h:A)(f:A->B:=by intro h;repeat(first|exact h|(with_reducible refine Kd.C_alloc ?_ _)|(with_reducible refine Kd.C_drewN ?_ _)|(with_reducible refine Kd.C_drew ?_))):B:=f h
theorem eP{α:Type}{c:Prop}[Decidable c]{a b:Nat->Option α}{r:α}(h:c)(e:Ev a r):Ev (λk=>if c then a k else b k) r:=Ev.congr (λk=>if_pos h) e
theorem eN{α:Type}{c:Prop}[Decidable c]{a b:Nat->Option α}{r:α}(h: ¬c)(e:Ev b r):Ev (λk=>if c then a k else b k) r:=Ev.congr (λk=>if_neg h) e
section
variable {P : Program} {ops : Array Oper} {Q : Exit -> Act -> World -> Prop}
theorem gM{rest:List Oper}{oi:Oper}{a:Act}{w:World}{N:Option Tmp}{f:FuncId}{fn:Func}{as_:Array Operand}{ts:Array TypeId}{args:Array Value}{Post:Ending->World->Prop}(hf:P.funcs[f]? =some fn)(h:Calls P f args w Post)
 (k: ∀e w1,Post e w1-> ∃V,e= .returned V/\wpList P ops Q rest (a.put N V) w1) (hd:oi.dst=N:=by rfl) (hg:oi.guard=none:=by rfl) (hname:(fn.name== "runtime.NumGoroutine")=false:=by kernel_rfl) (hb:fn.body.isSome=true:=by rfl)
 (hop:oi.op= .call {callee:=.value (.func f),args:=as_,argTypes:=ts}:=by rfl) (hargs:as_.map a.eval=args:=by(try simp only[List.map_toArray,List.map_cons,List.map_nil]);first|done|rfl|(simp only[List.length_drop,List.length_take];rfl)):wpList P ops Q (oi::rest) a w:=
 zbm N hd hg hf hname hb args hop hargs (h.mono k)
end
end Go.Proofs.YtilidabdbhaljaaGreatDoor.Fn
end
section
namespace Go.Proofs.YtilidabdbhaljaaGreatDoor.Pure
open Go.RowKit Go.Proofs.YtilidabdbhaljaaGreatDoorW.PrintWords
def dig(c:UInt8):Nat:=c.toNat-48
def isD(c:UInt8):Bool:=48<=c.toNat&&c.toNat<=57
def AllD(l:List UInt8):Prop:= ∀c∈l,48<=c.toNat/\c.toNat<=57
def val(l:List UInt8):Nat:=l.foldl (λa c=>10*a+dig c) 0
theorem zhi(l:List UInt8)(a:Nat):l.foldl (λa c=>10*a+dig c) a=a*10^l.length+val l:=by
 induction l generalizing a with
 |nil=>simp[val]
 |cons c l ih=>
  unfold val;rw[List.foldl_cons,List.foldl_cons,ih,ih (10*0+dig c),List.length_cons,Nat.pow_succ,Nat.add_mul,Nat.add_mul];(have:10*a*10^l.length=a*(10^l.length*10):=by rw[Nat.mul_comm 10 a,Nat.mul_assoc,Nat.mul_comm 10]);omega
theorem zbP:val []=0:=rfl
theorem zcw(c:UInt8)(l:List UInt8):val (c::l)=dig c*10^l.length+val l:=by
 have:=zhi l (10*0+dig c);unfold val at this ⊢;rw[List.foldl_cons,this];simp
theorem val_append(a b:List UInt8):val (a++b)=val a*10^b.length+val b:=by
 unfold val;rw[List.foldl_append];exact zhi b _
theorem zcB(l:List UInt8)(c:UInt8):val (l++[c])=10*val l+dig c:=by
 rw[val_append,zcw];simp[zbP];omega
theorem zc2{l:List UInt8}(h:AllD l):val l<10^l.length:=by
 induction l with
 |nil=>simp[zbP]
 |cons c l ih=>
  have h1:=ih (λx hx=>h x (List.mem_cons_of_mem _ hx));have h2:=h c List.mem_cons_self;rw[zcw,List.length_cons,Nat.pow_succ];(have h3:dig c<=9:=by unfold dig;omega);have h4:dig c*10^l.length<=9*10^l.length:=Nat.mul_le_mul_right _ h3;omega
theorem AllD.cons{c:UInt8}{l:List UInt8}(h:AllD (c::l)):(48<=c.toNat/\c.toNat<=57)/\AllD l:=⟨h c List.mem_cons_self,λx hx=>h x (List.mem_cons_of_mem _ hx)⟩
theorem AllD.append{a b:List UInt8}(ha:AllD a)(hb:AllD b):AllD (a++b):=λc hc=>(List.mem_append.1 hc).elim (ha c) (hb c)
theorem AllD.left{a b:List UInt8}(h:AllD (a++b)):AllD a:=λc hc=>h c (List.mem_append_left _ hc)
theorem AllD.take{l:List UInt8}(h:AllD l)(n:Nat):AllD (l.take n):=λc hc=>h c (List.mem_of_mem_take hc)
theorem AllD.drop{l:List UInt8}(h:AllD l)(n:Nat):AllD (l.drop n):=λc hc=>h c (List.mem_of_mem_drop hc)
theorem AllD.nil:AllD []:=λc hc=>by cases hc
def ch(n:Nat):UInt8:=UInt8.ofNat (48+n)
theorem zcK{n:Nat}(h:n<10):(ch n).toNat=48+n:=by
 unfold ch;rw[UInt8.toNat_ofNat'];omega
theorem zcP{n:Nat}(h:n<10):dig (ch n)=n:=by unfold dig;rw[zcK h];omega
theorem zm3{c:UInt8}(h:48<=c.toNat/\c.toNat<=57):ch (dig c)=c:=by
 apply UInt8.toNat_inj.1;rw[zcK (by unfold dig;omega)];unfold dig;omega
def digsF:Nat->Nat->List UInt8
  |0,_=>[]
  |f+1,n=>if n=0 then [] else digsF f (n / 10)++[ch (n%10)]
def digs(n:Nat):List UInt8:=digsF n n
theorem ze1: ∀(f g n:Nat),n<=f->n<=g->digsF f n=digsF g n
 |0,0,_,_,_=>rfl
 |0,g+1,n,h,_=>by(obtain rfl:n=0:=by omega);(simp[digsF])
 |f+1,0,n,_,h=>by(obtain rfl:n=0:=by omega);(simp[digsF])
 |f+1,g+1,n,hf,hg=>by
  unfold digsF
  by_cases h:n=0
  ·rw[if_pos h,if_pos h]
  ·rw[if_neg h,if_neg h,ze1 f g (n / 10) (by omega) (by omega)]
theorem zgx:digs 0=[]:=rfl
theorem zdh{n:Nat}(h:n≠0):digs n=digs (n / 10)++[ch (n%10)]:=by
 obtain⟨m,rfl⟩: ∃m,n=m+1:=⟨n-1,by omega⟩;unfold digs;rw[digsF,if_neg h,ze1 m ((m+1) / 10) _ (by omega) (Nat.le_refl _)]
theorem zeD(n:Nat):val (digs n)=n:=by
 induction n using Nat.strongRecOn with
 |_ n ih=>
  by_cases h:n=0
  ·subst h;rfl
  ·rw[zdh h,zcB,ih (n / 10) (by omega),zcP (by omega)];omega
theorem zgy(n:Nat):AllD (digs n):=by
 induction n using Nat.strongRecOn with
 |_ n ih=>
  by_cases h:n=0
  ·subst h;exact AllD.nil
  ·rw[zdh h];refine(ih (n / 10) (by omega)).append ?_;intro c hc;(obtain rfl:c=ch (n%10):=by simpa using hc);rw[zcK (by omega)];omega
def zdD(l:List UInt8):Prop:= ∀c t,l=c::t->c.toNat≠48
theorem zeE(n:Nat):zdD (digs n):=by
 induction n using Nat.strongRecOn with
 |_ n ih=>
  by_cases h:n=0
  ·subst h;intro c t ht;cases ht
  ·rw[zdh h];intro c t ht;by_cases A:n / 10=0
   ·rw[A,zgx,List.nil_append] at ht;(injection ht with h1 _);rw[<-h1,zcK (by omega)];omega
   ·have:=ih (n / 10) (by omega);cases hd:digs (n / 10) with
    |nil=>
     have:=zeD (n / 10);rw[hd,zbP] at this;omega
    |cons c' t'=>
     rw[hd,List.cons_append] at ht;(injection ht with h1 _);rw[<-h1];exact this c' t' hd
theorem zdW{l:List UInt8}(h:AllD l)(h0:zdD l)(hn:l≠[]):val l≠0:=by
 cases l with
 |nil=>exact absurd rfl hn
 |cons c t=>
  rw[zcw];have h1:=h.cons.1;have h2:=h0 c t rfl;have:0<dig c*10^t.length:=Nat.mul_pos (by unfold dig;omega) (Nat.pow_pos (by omega));omega
theorem AllD.last{t:List UInt8}{c:UInt8}(h:AllD (t++[c])):48<=c.toNat/\c.toNat<=57:=h c (by simp)
theorem zhj{l:List UInt8}(h:AllD l)(h0:zdD l):digs (val l)=l:=by
 obtain⟨n,hn⟩: ∃n,l.length=n:=⟨_,rfl⟩;induction n generalizing l with
 |zero=>obtain rfl:=List.eq_nil_of_length_eq_zero hn;rfl
 |succ n ih=>
  rcases List.eq_nil_or_concat l with rfl|⟨t,c,rfl⟩
  ·cases hn
  ·rw[List.concat_eq_append] at*
   have hc:=h.last;(have hd:dig c<10:=by unfold dig;omega);have hv:=zdW h h0 (by simp);rw[zdh hv,zcB];(have e1:(10*val t+dig c) / 10=val t:=by omega);(have e2:(10*val t+dig c)%10=dig c:=by omega);rw[e1,e2,zm3 hc];by_cases ht:t=[]
   ·subst ht;rfl
   ·rw[ih h.left (by
     intro c' t' e
     exact h0 c' (t'++[c]) (by rw[e];rfl)) (by simpa using hn)]
def dz(l:List UInt8):List UInt8:=l.dropWhile (· ==48)
def rz(l:List UInt8):List UInt8:=(l.reverse.dropWhile (· ==48)).reverse
theorem eq48{c:UInt8}:(c==48)=true↔c.toNat=48:=by
 rw[beq_iff_eq];constructor
 ·rintro rfl;rfl
 ·intro h;apply UInt8.toNat_inj.1;exact h
theorem zeF{c:UInt8}{l:List UInt8}(h:c.toNat=48):dz (c::l)=dz l:=by unfold dz;rw[List.dropWhile_cons,if_pos (eq48.2 h)]
theorem zeG{c:UInt8}{l:List UInt8}(h:c.toNat≠48):dz (c::l)=c::l:=by unfold dz;rw[List.dropWhile_cons,if_neg (λe=>h (eq48.1 e))]
theorem zhk:rz []=[]:=rfl
theorem zcH{c:UInt8}{l:List UInt8}(h:c.toNat=48):rz (l++[c])=rz l:=by
 unfold rz;rw[List.reverse_append,List.reverse_singleton,List.singleton_append,List.dropWhile_cons,if_pos (eq48.2 h)]
theorem zc8{c:UInt8}{l:List UInt8}(h:c.toNat≠48):rz (l++[c])=l++[c]:=by
 unfold rz;rw[List.reverse_append,List.reverse_singleton,List.singleton_append,List.dropWhile_cons,if_neg (λe=>h (eq48.1 e))];simp
theorem zkJ(l:List UInt8):zdD (dz l):=by
 induction l with
 |nil=>intro c t h;cases h
 |cons c l ih=>
  by_cases h:c.toNat=48
  ·rw[zeF h];exact ih
  ·rw[zeG h];intro c' t e;(injection e with e1 _);rw[<-e1];exact h
theorem zm4(l:List UInt8):val (dz l)=val l:=by
 induction l with
 |nil=>rfl
 |cons c l ih=>
  by_cases h:c.toNat=48
  ·rw[zeF h,ih,zcw];unfold dig;rw[h];simp
  ·rw[zeG h]
theorem AllD.dz{l:List UInt8}(h:AllD l):AllD (dz l):=λc hc=>h c ((List.dropWhile_sublist _).mem hc)
theorem AllD.rz{l:List UInt8}(h:AllD l):AllD (rz l):=λc hc=>h c (by
 have:=(List.dropWhile_sublist (l:=l.reverse) (· ==48)).mem (List.mem_reverse.1 hc)
 exact List.mem_reverse.1 this)
theorem zgz(l:List UInt8):(dz l).length<=l.length:=(List.dropWhile_sublist _).length_le
theorem zdi(l:List UInt8):(rz l).length<=l.length:=by
 have:=(List.dropWhile_sublist (l:=l.reverse) (· ==48)).length_le;rw[List.length_reverse] at this;unfold rz;rw[List.length_reverse];exact this
theorem zlz{l:List UInt8}(h:AllD l):dz l=digs (val l):=by rw[<-zm4 l,zhj h.dz (zkJ l)]
def decOf(n:Nat)(e:Int):List UInt8×Int:=if n=0 then([],0) else(rz (digs n),(digs n).length+e)
theorem zc9(e:Int):decOf 0 e=([],0):=rfl
theorem zie{n:Nat}(h:n≠0):digs n≠[]:=by
 intro e;have:=zeD n;rw[e,zbP] at this;exact h this.symm
theorem zkK{n:Nat}(h:n≠0):digs (10*n)=digs n++[48]:=by
 rw[zdh (by omega)];(have e1:10*n / 10=n:=by omega);(have e2:10*n%10=0:=by omega);rw[e1,e2];rfl
theorem zjn(n:Nat)(e:Int):decOf (10*n) (e-1)=decOf n e:=by
 unfold decOf;by_cases h:n=0
 ·subst h;rfl
 ·rw[if_neg (by omega),if_neg h,zkK h,zcH rfl,List.length_append];congr 1;simp;omega
theorem zdE(n k:Nat)(e:Int):decOf (n*10^k) (e-k)=decOf n e:=by
 induction k generalizing e with
 |zero=>simp
 |succ k ih=>
  have:=zjn (n*10^k) (e-k);rw[ih] at this;rw[<-this,Nat.pow_succ];congr 1
  ·rw[<-Nat.mul_assoc,Nat.mul_comm]
  ·omega
theorem znB(l:List UInt8):rz (rz l)=rz l:=by
 obtain⟨n,hn⟩: ∃n,l.length=n:=⟨_,rfl⟩;induction n generalizing l with
 |zero=>obtain rfl:=List.eq_nil_of_length_eq_zero hn;rfl
 |succ n ih=>
  rcases List.eq_nil_or_concat l with rfl|⟨t,c,rfl⟩
  ·cases hn
  ·rw[List.concat_eq_append] at*
   by_cases h:c.toNat=48
   ·rw[zcH h];exact ih t (by simpa using hn)
   ·rw[zc8 h,zc8 h]
theorem zed(l:List UInt8): ∃k,l=rz l++List.replicate k 48:=by
 obtain⟨n,hn⟩: ∃n,l.length=n:=⟨_,rfl⟩;induction n generalizing l with
 |zero=>obtain rfl:=List.eq_nil_of_length_eq_zero hn;exact⟨0,rfl⟩
 |succ n ih=>
  rcases List.eq_nil_or_concat l with rfl|⟨t,c,rfl⟩
  ·cases hn
  ·rw[List.concat_eq_append] at*
   by_cases h:c.toNat=48
   ·obtain⟨k,hk⟩:=ih t (by simpa using hn);refine⟨k+1,?_⟩;(have hc:c=48:=by apply UInt8.toNat_inj.1;exact h);rw[zcH h,List.replicate_succ',<-List.append_assoc,<-hk,hc]
   ·exact⟨0,by rw[zc8 h];simp⟩
theorem zlA{l:List UInt8}(h0:zdD l)(hn:l≠[]):rz l≠[]:=by
 intro e;obtain⟨k,hk⟩:=zed l;rw[e,List.nil_append] at hk;cases k with
 |zero=>exact hn hk
 |succ k=>exact h0 48 (List.replicate k 48) (by rw[hk,List.replicate_succ]) rfl
def formL(l:List UInt8)(p:Int):List UInt8×Int:=if rz (dz l)=[] then([],0) else(rz (dz l),p-(l.length-(dz l).length))
theorem zcC{l:List UInt8}(h:AllD l)(p:Int):formL l p=decOf (val l) (p-l.length):=by
 unfold formL decOf;rw[zlz h];by_cases h0:val l=0
 ·rw[if_pos h0,h0,zgx,if_pos zhk]
 ·rw[if_neg h0,if_neg (zlA (zeE _) (zie h0))];congr 1;omega
def InForm(l:List UInt8)(p:Int):Prop:=AllD l/\zdD l/\rz l=l/\(l=[]->p=0)
theorem zee(k:Nat):val (List.replicate k 48)=0:=by
 induction k with
 |zero=>rfl
 |succ k ih=>
  have h:dig 48=0:=rfl;rw[List.replicate_succ,zcw,ih,h];simp
theorem zkL{l:List UInt8}(h:zdD l):zdD (rz l):=by
 obtain⟨k,hk⟩:=zed l;intro c t e;exact h c (t++List.replicate k 48) (by rw[hk,e];rfl)
theorem zbx(n:Nat)(e:Int):InForm (decOf n e).1 (decOf n e).2:=by
 unfold decOf;by_cases h:n=0
 ·rw[if_pos h];exact⟨AllD.nil,(λc t h=>by cases h),rfl,λ_=>rfl⟩
 ·rw[if_neg h];exact⟨(zgy n).rz,zkL (zeE n),znB _,λe=>absurd e (zlA (zeE n) (zie h))⟩
theorem zef{l:List UInt8}{p:Int}(h:InForm l p):decOf (val l) (p-l.length)=(l,p):=by
 obtain⟨h1,h2,h3,h4⟩:=h;unfold decOf;by_cases hn:l=[]
 ·subst hn;rw[h4 rfl];rfl
 ·rw[if_neg (zdW h1 h2 hn),zhj h1 h2,h3];congr 1;omega
end Go.Proofs.YtilidabdbhaljaaGreatDoor.Pure
end
section
namespace Go.Proofs
open Go.Shelf
def Tryz.lays158_ren:Go.Shelf.Ren:=⟨fun|158=>80|165=>83|166=>84|167=>112|169=>86|230=>113|203=>114|240=>117|241=>118|197=>136|118=>137|168=>138|270=>139|262=>140|276=>141|277=>142|260=>155|242=>156|313=>157|278=>166|274=>167|275=>168|n=>n,fun|9=>9|4=>4|3=>3|5=>5|72=>102|0=>0|76=>106|75=>105|107=>137|70=>100|20=>20|37=>67|127=>143|21=>21|105=>159|164=>165|162=>183|203=>181|119=>187|46=>27|139=>190|138=>189|51=>138|160=>191|208=>197|206=>195|80=>65|n=>n,fun|13=>1|3=>2|4=>3|n=>n⟩
theorem Tryz.lays158:Go.Proofs.Lays.n158 Tryz.prog Tryz.lays158_ren:={
 mixed:=by kernel_rfl
 f118:=Tryz.func137.trans (congrArg some (by kernel_rfl))
 f158:=Tryz.func80.trans (congrArg some (by kernel_rfl))
 f165:=Tryz.func83.trans (congrArg some (by kernel_rfl))
 f166:=Tryz.func84.trans (congrArg some (by kernel_rfl))
 f167:=Tryz.func112.trans (congrArg some (by kernel_rfl))
 f168:=Tryz.func138.trans (congrArg some (by kernel_rfl))
 f169:=Tryz.func86.trans (congrArg some (by kernel_rfl))
 f197:=Tryz.func136.trans (congrArg some (by kernel_rfl))
 f203:=Tryz.func114.trans (congrArg some (by kernel_rfl))
 f230:=Tryz.func113.trans (congrArg some (by kernel_rfl))
 f240:=Tryz.func117.trans (congrArg some (by kernel_rfl))
 f241:=Tryz.func118.trans (congrArg some (by kernel_rfl))
 f242:=Tryz.func156.trans (congrArg some (by kernel_rfl))
 f260:=Tryz.func155.trans (congrArg some (by kernel_rfl))
 f262:=Tryz.func140.trans (congrArg some (by kernel_rfl))
 f270:=Tryz.func139.trans (congrArg some (by kernel_rfl))
 f274:=Tryz.func167.trans (congrArg some (by kernel_rfl))
 f275:=Tryz.func168.trans (congrArg some (by kernel_rfl))
 f276:=Tryz.func141.trans (congrArg some (by kernel_rfl))
 f277:=Tryz.func142.trans (congrArg some (by kernel_rfl))
 f278:=Tryz.func166.trans (congrArg some (by kernel_rfl))
 f313:=Tryz.func157.trans (congrArg some (by kernel_rfl))
 t0:=Tryz.underlying0
 a0:=Tryz.isAgg0
 z0:=Tryz.sizeOf0
 v0:=Tryz.zeroValue0
 t3:=Tryz.underlying3
 a3:=Tryz.isAgg3
 z3:=Tryz.sizeOf3
 v3:=Tryz.zeroValue3
 t4:=Tryz.underlying4
 a4:=Tryz.isAgg4
 z4:=Tryz.sizeOf4
 v4:=Tryz.zeroValue4
 t5:=Tryz.underlying5
 a5:=Tryz.isAgg5
 z5:=Tryz.sizeOf5
 v5:=Tryz.zeroValue5
 t9:=Tryz.underlying9
 a9:=Tryz.isAgg9
 z9:=Tryz.sizeOf9
 v9:=Tryz.zeroValue9
 t20:=Tryz.underlying20
 a20:=Tryz.isAgg20
 z20:=Tryz.sizeOf20
 v20:=Tryz.zeroValue20
 t21:=Tryz.underlying21
 a21:=Tryz.isAgg21
 z21:=Tryz.sizeOf21
 v21:=Tryz.zeroValue21
 t37:=Tryz.underlying67
 a37:=Tryz.isAgg67
 z37:=Tryz.sizeOf67
 v37:=Tryz.zeroValue67
 t46:=Tryz.underlying27
 a46:=Tryz.isAgg27
 z46:=Tryz.sizeOf27
 v46:=Tryz.zeroValue27
 t51:=Tryz.underlying138
 a51:=Tryz.isAgg138
 z51:=Tryz.sizeOf138
 v51:=Tryz.zeroValue138
 t70:=Tryz.underlying100
 a70:=Tryz.isAgg100
 z70:=Tryz.sizeOf100
 v70:=Tryz.zeroValue100
 t72:=Tryz.underlying102
 a72:=Tryz.isAgg102
 z72:=Tryz.sizeOf102
 v72:=Tryz.zeroValue102
 t75:=Tryz.underlying105
 a75:=Tryz.isAgg105
 z75:=Tryz.sizeOf105
 v75:=Tryz.zeroValue105
 t76:=Tryz.underlying106
 a76:=Tryz.isAgg106
 z76:=Tryz.sizeOf106
 v76:=Tryz.zeroValue106
 t105:=Tryz.underlying159
 a105:=Tryz.isAgg159
 z105:=Tryz.sizeOf159
 v105:=Tryz.zeroValue159
 t107:=Tryz.underlying137
 a107:=Tryz.isAgg137
 z107:=Tryz.sizeOf137
 v107:=Tryz.zeroValue137
 t119:=Tryz.underlying187
 a119:=Tryz.isAgg187
 z119:=Tryz.sizeOf187
 t127:=Tryz.underlying143
 a127:=Tryz.isAgg143
 z127:=Tryz.sizeOf143
 v127:=Tryz.zeroValue143
 t138:=Tryz.underlying189
 a138:=Tryz.isAgg189
 z138:=Tryz.sizeOf189
 v138:=Tryz.zeroValue189
 t139:=Tryz.underlying190
 a139:=Tryz.isAgg190
 z139:=Tryz.sizeOf190
 v139:=Tryz.zeroValue190
 t160:=Tryz.underlying191
 a160:=Tryz.isAgg191
 z160:=Tryz.sizeOf191
 v160:=Tryz.zeroValue191
 t162:=Tryz.underlying183
 a162:=Tryz.isAgg183
 z162:=Tryz.sizeOf183
 v162:=Tryz.zeroValue183
 t164:=Tryz.underlying165
 a164:=Tryz.isAgg165
 z164:=Tryz.sizeOf165
 v164:=Tryz.zeroValue165
 t203:=Tryz.underlying181
 a203:=Tryz.isAgg181
 z203:=Tryz.sizeOf181
 v203:=Tryz.zeroValue181
 t206:=Tryz.underlying195
 a206:=Tryz.isAgg195
 z206:=Tryz.sizeOf195
 v206:=Tryz.zeroValue195
 t208:=Tryz.underlying197
 a208:=Tryz.isAgg197
 z208:=Tryz.sizeOf197
 v208:=Tryz.zeroValue197
 g3:=by kernel_rfl
 g4:=by kernel_rfl
 g13:=by kernel_rfl}
theorem Tryz.Builder_Extra_158:Builder.Extra Tryz.prog Tryz.lays158_ren:={
 sizeBuilder:=by kernel_rfl
 liesBuilder:=by kernel_rfl
 t5:=Tryz.underlying5
 a5:=Tryz.isAgg5
 z5:=Tryz.sizeOf5
 v5:=Tryz.zeroValue5
 infoByte:=by kernel_rfl
 cellsByte:=by kernel_rfl
 sizeByte:=by kernel_rfl
 neB5:=by decide}
open Go.RowKit in
theorem Tryz.strings_ToUpper_ascii (s : ByteArray) (w : World) (hs : s.size <= 140737488355328) (hascii : ∀ (j : Nat) (b : UInt8), s.data.toList[j]? = some b -> b.toNat < 128) :
 Calls Tryz.prog 80 #[.string s] w λe w' => e = .returned (.string ⟨(Lib.toUpperA s.data.toList).toArray⟩) /\ Below w.heap.size w w' := Any.strings_ToUpper_ascii Tryz.lays158 Tryz.Builder_Extra_158 s w hs hascii
def Tryz.lays156_ren:Go.Shelf.Ren:=⟨fun|156=>106|165=>83|166=>84|169=>86|240=>117|241=>118|276=>141|277=>142|n=>n,fun|31=>125|9=>9|3=>3|4=>4|0=>0|20=>20|72=>102|76=>106|70=>100|37=>67|75=>105|127=>143|164=>165|5=>5|80=>65|n=>n,fun|n=>n⟩
theorem Tryz.lays156:Go.Proofs.Lays.n156 Tryz.prog Tryz.lays156_ren:={
 mixed:=by kernel_rfl
 f156:=Tryz.func106.trans (congrArg some (by kernel_rfl))
 f165:=Tryz.func83.trans (congrArg some (by kernel_rfl))
 f166:=Tryz.func84.trans (congrArg some (by kernel_rfl))
 f169:=Tryz.func86.trans (congrArg some (by kernel_rfl))
 f240:=Tryz.func117.trans (congrArg some (by kernel_rfl))
 f241:=Tryz.func118.trans (congrArg some (by kernel_rfl))
 f276:=Tryz.func141.trans (congrArg some (by kernel_rfl))
 f277:=Tryz.func142.trans (congrArg some (by kernel_rfl))
 t0:=Tryz.underlying0
 a0:=Tryz.isAgg0
 z0:=Tryz.sizeOf0
 v0:=Tryz.zeroValue0
 t3:=Tryz.underlying3
 a3:=Tryz.isAgg3
 z3:=Tryz.sizeOf3
 v3:=Tryz.zeroValue3
 t4:=Tryz.underlying4
 a4:=Tryz.isAgg4
 z4:=Tryz.sizeOf4
 v4:=Tryz.zeroValue4
 t9:=Tryz.underlying9
 a9:=Tryz.isAgg9
 z9:=Tryz.sizeOf9
 v9:=Tryz.zeroValue9
 t20:=Tryz.underlying20
 a20:=Tryz.isAgg20
 z20:=Tryz.sizeOf20
 v20:=Tryz.zeroValue20
 t31:=Tryz.underlying125
 a31:=Tryz.isAgg125
 z31:=Tryz.sizeOf125
 v31:=Tryz.zeroValue125
 t37:=Tryz.underlying67
 a37:=Tryz.isAgg67
 z37:=Tryz.sizeOf67
 v37:=Tryz.zeroValue67
 t70:=Tryz.underlying100
 a70:=Tryz.isAgg100
 z70:=Tryz.sizeOf100
 v70:=Tryz.zeroValue100
 t72:=Tryz.underlying102
 a72:=Tryz.isAgg102
 z72:=Tryz.sizeOf102
 v72:=Tryz.zeroValue102
 t75:=Tryz.underlying105
 a75:=Tryz.isAgg105
 z75:=Tryz.sizeOf105
 v75:=Tryz.zeroValue105
 t76:=Tryz.underlying106
 a76:=Tryz.isAgg106
 z76:=Tryz.sizeOf106
 v76:=Tryz.zeroValue106
 t127:=Tryz.underlying143
 a127:=Tryz.isAgg143
 z127:=Tryz.sizeOf143
 v127:=Tryz.zeroValue143
 t164:=Tryz.underlying165
 a164:=Tryz.isAgg165
 z164:=Tryz.sizeOf165
 v164:=Tryz.zeroValue165}
theorem Tryz.Builder_Extra_156:Builder.Extra Tryz.prog Tryz.lays156_ren:={
 sizeBuilder:=by kernel_rfl
 liesBuilder:=by kernel_rfl
 t5:=Tryz.underlying5
 a5:=Tryz.isAgg5
 z5:=Tryz.sizeOf5
 v5:=Tryz.zeroValue5
 infoByte:=by kernel_rfl
 cellsByte:=by kernel_rfl
 sizeByte:=by kernel_rfl
 neB5:=by decide}
open Go.RowKit in
theorem Tryz.strings_Join_none (a : Option Addr) (c : Nat) (sep : ByteArray) (w : World) :
 Calls Tryz.prog 106 #[.slice a 0 c, .string sep] w λe w' => e = .returned (.string ⟨#[]⟩) /\ w' = w := Any.strings_Join_none Tryz.lays156 Tryz.Builder_Extra_156 a c sep w
open Go.RowKit in
theorem Tryz.strings_Join (bk o c : Nat) (xs : List ByteArray) (sep : ByteArray) (w : World) (hcells : ∀ (j : Nat) x, xs[j]? = some x -> w.cell? ⟨bk, o + j, none⟩ = some (.string x)) (hbk : bk < w.heap.size) (hN : xs.length <= 140737488355328) (hcap : xs.length <= c) (hlen : (Lib.join (xs.map (·.data.toList)) sep.data.toList).length <= 140737488355328) :
 Calls Tryz.prog 106 #[.slice (some ⟨bk, o, none⟩) xs.length c, .string sep] w λe w' => e = .returned (.string ⟨(Lib.join (xs.map (·.data.toList)) sep.data.toList).toArray⟩) /\ Below w.heap.size w w' := Any.strings_Join Tryz.lays156 Tryz.Builder_Extra_156 bk o c xs sep w hcells hbk hN hcap hlen
def Tryz.lays161_ren:Go.Shelf.Ren:=⟨fun|161=>148|231=>159|227=>109|233=>160|235=>161|228=>133|197=>136|151=>135|260=>155|152=>154|137=>23|119=>163|224=>164|225=>165|217=>36|266=>64|n=>n,fun|9=>9|4=>4|3=>3|5=>5|117=>131|116=>130|0=>0|124=>134|105=>159|21=>21|119=>187|46=>27|139=>190|138=>189|n=>n,fun|3=>2|4=>3|n=>n⟩
theorem Tryz.lays161:Go.Proofs.Lays.n161 Tryz.prog Tryz.lays161_ren:={
 mixed:=by kernel_rfl
 f119:=Tryz.func163.trans (congrArg some (by kernel_rfl))
 f137:=Tryz.func23.trans (congrArg some (by kernel_rfl))
 f151:=Tryz.func135.trans (congrArg some (by kernel_rfl))
 f152:=Tryz.func154.trans (congrArg some (by kernel_rfl))
 f161:=Tryz.func148.trans (congrArg some (by kernel_rfl))
 f197:=Tryz.func136.trans (congrArg some (by kernel_rfl))
 f217:=Tryz.func36.trans (congrArg some (by kernel_rfl))
 f224:=Tryz.func164.trans (congrArg some (by kernel_rfl))
 f225:=Tryz.func165.trans (congrArg some (by kernel_rfl))
 f227:=Tryz.func109.trans (congrArg some (by kernel_rfl))
 f228:=Tryz.func133.trans (congrArg some (by kernel_rfl))
 f231:=Tryz.func159.trans (congrArg some (by kernel_rfl))
 f233:=Tryz.func160.trans (congrArg some (by kernel_rfl))
 f235:=Tryz.func161.trans (congrArg some (by kernel_rfl))
 f260:=Tryz.func155.trans (congrArg some (by kernel_rfl))
 f266:=Tryz.func64.trans (congrArg some (by kernel_rfl))
 t0:=Tryz.underlying0
 a0:=Tryz.isAgg0
 z0:=Tryz.sizeOf0
 v0:=Tryz.zeroValue0
 t3:=Tryz.underlying3
 a3:=Tryz.isAgg3
 z3:=Tryz.sizeOf3
 v3:=Tryz.zeroValue3
 t4:=Tryz.underlying4
 a4:=Tryz.isAgg4
 z4:=Tryz.sizeOf4
 v4:=Tryz.zeroValue4
 t5:=Tryz.underlying5
 a5:=Tryz.isAgg5
 z5:=Tryz.sizeOf5
 v5:=Tryz.zeroValue5
 t9:=Tryz.underlying9
 a9:=Tryz.isAgg9
 z9:=Tryz.sizeOf9
 v9:=Tryz.zeroValue9
 t21:=Tryz.underlying21
 a21:=Tryz.isAgg21
 z21:=Tryz.sizeOf21
 v21:=Tryz.zeroValue21
 t46:=Tryz.underlying27
 a46:=Tryz.isAgg27
 z46:=Tryz.sizeOf27
 v46:=Tryz.zeroValue27
 t105:=Tryz.underlying159
 a105:=Tryz.isAgg159
 z105:=Tryz.sizeOf159
 v105:=Tryz.zeroValue159
 t116:=Tryz.underlying130
 a116:=Tryz.isAgg130
 z116:=Tryz.sizeOf130
 t117:=Tryz.underlying131
 a117:=Tryz.isAgg131
 z117:=Tryz.sizeOf131
 v117:=Tryz.zeroValue131
 t119:=Tryz.underlying187
 a119:=Tryz.isAgg187
 z119:=Tryz.sizeOf187
 t124:=Tryz.underlying134
 a124:=Tryz.isAgg134
 z124:=Tryz.sizeOf134
 v124:=Tryz.zeroValue134
 t138:=Tryz.underlying189
 a138:=Tryz.isAgg189
 z138:=Tryz.sizeOf189
 v138:=Tryz.zeroValue189
 t139:=Tryz.underlying190
 a139:=Tryz.isAgg190
 z139:=Tryz.sizeOf190
 v139:=Tryz.zeroValue190
 g3:=by kernel_rfl
 g4:=by kernel_rfl}
open Go.RowKit in
theorem Tryz.strings_TrimLeft_one (s : ByteArray) (c : UInt8) (hc : c.toNat < 128) (w : World) :
 Calls Tryz.prog 148 #[.string s, .string ⟨#[c]⟩] w λe w' => e = .returned (.string ⟨(Lib.trimLeftB s.data.toList c).toArray⟩) /\ w' = w := Any.strings_TrimLeft_one Tryz.lays161 s c hc w
def Tryz.lays162_ren:Go.Shelf.Ren:=⟨fun|162=>78|232=>108|227=>109|234=>110|236=>111|228=>133|271=>134|151=>135|120=>153|197=>136|152=>154|260=>155|137=>23|119=>163|224=>164|225=>165|217=>36|266=>64|n=>n,fun|9=>9|4=>4|3=>3|5=>5|117=>131|116=>130|0=>0|124=>134|21=>21|105=>159|46=>27|119=>187|139=>190|138=>189|n=>n,fun|3=>2|4=>3|n=>n⟩
theorem Tryz.lays162:Go.Proofs.Lays.n162 Tryz.prog Tryz.lays162_ren:={
 mixed:=by kernel_rfl
 f119:=Tryz.func163.trans (congrArg some (by kernel_rfl))
 f120:=Tryz.func153.trans (congrArg some (by kernel_rfl))
 f137:=Tryz.func23.trans (congrArg some (by kernel_rfl))
 f151:=Tryz.func135.trans (congrArg some (by kernel_rfl))
 f152:=Tryz.func154.trans (congrArg some (by kernel_rfl))
 f162:=Tryz.func78.trans (congrArg some (by kernel_rfl))
 f197:=Tryz.func136.trans (congrArg some (by kernel_rfl))
 f217:=Tryz.func36.trans (congrArg some (by kernel_rfl))
 f224:=Tryz.func164.trans (congrArg some (by kernel_rfl))
 f225:=Tryz.func165.trans (congrArg some (by kernel_rfl))
 f227:=Tryz.func109.trans (congrArg some (by kernel_rfl))
 f228:=Tryz.func133.trans (congrArg some (by kernel_rfl))
 f232:=Tryz.func108.trans (congrArg some (by kernel_rfl))
 f234:=Tryz.func110.trans (congrArg some (by kernel_rfl))
 f236:=Tryz.func111.trans (congrArg some (by kernel_rfl))
 f260:=Tryz.func155.trans (congrArg some (by kernel_rfl))
 f266:=Tryz.func64.trans (congrArg some (by kernel_rfl))
 f271:=Tryz.func134.trans (congrArg some (by kernel_rfl))
 t0:=Tryz.underlying0
 a0:=Tryz.isAgg0
 z0:=Tryz.sizeOf0
 v0:=Tryz.zeroValue0
 t3:=Tryz.underlying3
 a3:=Tryz.isAgg3
 z3:=Tryz.sizeOf3
 v3:=Tryz.zeroValue3
 t4:=Tryz.underlying4
 a4:=Tryz.isAgg4
 z4:=Tryz.sizeOf4
 v4:=Tryz.zeroValue4
 t5:=Tryz.underlying5
 a5:=Tryz.isAgg5
 z5:=Tryz.sizeOf5
 v5:=Tryz.zeroValue5
 t9:=Tryz.underlying9
 a9:=Tryz.isAgg9
 z9:=Tryz.sizeOf9
 v9:=Tryz.zeroValue9
 t21:=Tryz.underlying21
 a21:=Tryz.isAgg21
 z21:=Tryz.sizeOf21
 v21:=Tryz.zeroValue21
 t46:=Tryz.underlying27
 a46:=Tryz.isAgg27
 z46:=Tryz.sizeOf27
 v46:=Tryz.zeroValue27
 t105:=Tryz.underlying159
 a105:=Tryz.isAgg159
 z105:=Tryz.sizeOf159
 v105:=Tryz.zeroValue159
 t116:=Tryz.underlying130
 a116:=Tryz.isAgg130
 z116:=Tryz.sizeOf130
 t117:=Tryz.underlying131
 a117:=Tryz.isAgg131
 z117:=Tryz.sizeOf131
 v117:=Tryz.zeroValue131
 t119:=Tryz.underlying187
 a119:=Tryz.isAgg187
 z119:=Tryz.sizeOf187
 t124:=Tryz.underlying134
 a124:=Tryz.isAgg134
 z124:=Tryz.sizeOf134
 v124:=Tryz.zeroValue134
 t138:=Tryz.underlying189
 a138:=Tryz.isAgg189
 z138:=Tryz.sizeOf189
 v138:=Tryz.zeroValue189
 t139:=Tryz.underlying190
 a139:=Tryz.isAgg190
 z139:=Tryz.sizeOf190
 v139:=Tryz.zeroValue190
 g3:=by kernel_rfl
 g4:=by kernel_rfl}
open Go.RowKit in
theorem Tryz.strings_TrimRight_one (s : ByteArray) (c : UInt8) (hc : c.toNat < 128) (w : World) (hs : s.size <= 9223372036854775807) :
 Calls Tryz.prog 78 #[.string s, .string ⟨#[c]⟩] w λe w' => e = .returned (.string ⟨(Lib.trimRightB s.data.toList c).toArray⟩) /\ w' = w := Any.strings_TrimRight_one Tryz.lays162 s c hc w hs
def Tryz.lays213_ren:Go.Shelf.Ren:=⟨fun|213=>169|265=>170|n=>n,fun|9=>9|3=>3|n=>n,fun|n=>n⟩
def Tryz.lays106_ren:Go.Shelf.Ren:=⟨fun|106=>162|213=>169|265=>170|n=>n,fun|9=>9|3=>3|n=>n,fun|n=>n⟩
theorem Tryz.lays106:Go.Proofs.Lays.n106 Tryz.prog Tryz.lays106_ren:={
 mixed:=by kernel_rfl
 f106:=Tryz.func162.trans (congrArg some (by kernel_rfl))
 f213:=Tryz.func169.trans (congrArg some (by kernel_rfl))
 f265:=Tryz.func170.trans (congrArg some (by kernel_rfl))
 t3:=Tryz.underlying3
 a3:=Tryz.isAgg3
 z3:=Tryz.sizeOf3
 v3:=Tryz.zeroValue3
 t9:=Tryz.underlying9
 a9:=Tryz.isAgg9
 z9:=Tryz.sizeOf9
 v9:=Tryz.zeroValue9}
open Go.RowKit in
theorem Tryz.strings_Compare (a b : ByteArray) (w : World) :
 Calls Tryz.prog 162 #[.string a, .string b] w λe w' => e = .returned (.int .i64 (Lib.compareBytes a.data.toList b.data.toList)) /\ w' = w := Any.strings_Compare Tryz.lays106 a b w
def Tryz.lays137_ren:Go.Shelf.Ren:=⟨fun|137=>23|217=>36|266=>64|n=>n,fun|9=>9|5=>5|3=>3|n=>n,fun|n=>n⟩
theorem Tryz.lays137:Go.Proofs.Lays.n137 Tryz.prog Tryz.lays137_ren:={
 mixed:=by kernel_rfl
 f137:=Tryz.func23.trans (congrArg some (by kernel_rfl))
 f217:=Tryz.func36.trans (congrArg some (by kernel_rfl))
 f266:=Tryz.func64.trans (congrArg some (by kernel_rfl))
 t3:=Tryz.underlying3
 a3:=Tryz.isAgg3
 z3:=Tryz.sizeOf3
 v3:=Tryz.zeroValue3
 t5:=Tryz.underlying5
 a5:=Tryz.isAgg5
 z5:=Tryz.sizeOf5
 v5:=Tryz.zeroValue5
 t9:=Tryz.underlying9
 a9:=Tryz.isAgg9
 z9:=Tryz.sizeOf9
 v9:=Tryz.zeroValue9}
open Go.RowKit in
theorem Tryz.strings_IndexByte (s : ByteArray) (c : Int) (w : World) :
 Calls Tryz.prog 23 #[.string s, .int .u8 c] w λe w' => e = .returned (.int .i64 (Lib.indexByte s.data.toList c.toNat.toUInt8)) /\ w' = w := Any.strings_IndexByte Tryz.lays137 s c w
def Tryz.lays103_ren:Go.Shelf.Ren:=⟨fun|103=>21|210=>34|206=>62|n=>n,fun|9=>9|4=>4|24=>35|3=>3|n=>n,fun|n=>n⟩
theorem Tryz.lays103:Go.Proofs.Lays.n103 Tryz.prog Tryz.lays103_ren:={
 mixed:=by kernel_rfl
 f103:=Tryz.func21.trans (congrArg some (by kernel_rfl))
 f206:=Tryz.func62.trans (congrArg some (by kernel_rfl))
 f210:=Tryz.func34.trans (congrArg some (by kernel_rfl))
 t3:=Tryz.underlying3
 a3:=Tryz.isAgg3
 z3:=Tryz.sizeOf3
 v3:=Tryz.zeroValue3
 t4:=Tryz.underlying4
 a4:=Tryz.isAgg4
 z4:=Tryz.sizeOf4
 v4:=Tryz.zeroValue4
 t9:=Tryz.underlying9
 a9:=Tryz.isAgg9
 z9:=Tryz.sizeOf9
 v9:=Tryz.zeroValue9
 t24:=Tryz.underlying35
 a24:=Tryz.isAgg35
 z24:=Tryz.sizeOf35
 v24:=Tryz.zeroValue35}
open Go.RowKit in
theorem Tryz.strings_CutPrefix (s p : ByteArray) (w : World) :
 Calls Tryz.prog 21 #[.string s, .string p] w λe w' => e = .returned (.tuple #[.string ⟨(Lib.trimPrefix s.data.toList p.data.toList).toArray⟩, .bool (Lib.hasPrefix s.data.toList p.data.toList)]) /\ w' = w := Any.strings_CutPrefix Tryz.lays103 s p w
def Tryz.lays104_ren:Go.Shelf.Ren:=⟨fun|104=>22|211=>35|207=>63|n=>n,fun|9=>9|4=>4|24=>35|3=>3|n=>n,fun|n=>n⟩
theorem Tryz.lays104:Go.Proofs.Lays.n104 Tryz.prog Tryz.lays104_ren:={
 mixed:=by kernel_rfl
 f104:=Tryz.func22.trans (congrArg some (by kernel_rfl))
 f207:=Tryz.func63.trans (congrArg some (by kernel_rfl))
 f211:=Tryz.func35.trans (congrArg some (by kernel_rfl))
 t3:=Tryz.underlying3
 a3:=Tryz.isAgg3
 z3:=Tryz.sizeOf3
 v3:=Tryz.zeroValue3
 t4:=Tryz.underlying4
 a4:=Tryz.isAgg4
 z4:=Tryz.sizeOf4
 v4:=Tryz.zeroValue4
 t9:=Tryz.underlying9
 a9:=Tryz.isAgg9
 z9:=Tryz.sizeOf9
 v9:=Tryz.zeroValue9
 t24:=Tryz.underlying35
 a24:=Tryz.isAgg35
 z24:=Tryz.sizeOf35
 v24:=Tryz.zeroValue35}
open Go.RowKit in
theorem Tryz.strings_CutSuffix (s p : ByteArray) (w : World) (hs : s.size <= 9223372036854775807) :
 Calls Tryz.prog 22 #[.string s, .string p] w λe w' => e = .returned (.tuple #[.string ⟨(Lib.trimSuffix s.data.toList p.data.toList).toArray⟩, .bool (Lib.hasSuffix s.data.toList p.data.toList)]) /\ w' = w := Any.strings_CutSuffix Tryz.lays104 s p w hs
def Tryz.lays129_ren:Go.Shelf.Ren:=⟨fun|129=>77|n=>n,fun|53=>22|3=>3|4=>4|46=>27|5=>5|9=>9|n=>n,fun|n=>n⟩
theorem Tryz.lays129:Go.Proofs.Lays.n129 Tryz.prog Tryz.lays129_ren:={
 mixed:=by kernel_rfl
 f129:=Tryz.func77.trans (congrArg some (by kernel_rfl))
 t3:=Tryz.underlying3
 a3:=Tryz.isAgg3
 z3:=Tryz.sizeOf3
 v3:=Tryz.zeroValue3
 t4:=Tryz.underlying4
 a4:=Tryz.isAgg4
 z4:=Tryz.sizeOf4
 v4:=Tryz.zeroValue4
 t5:=Tryz.underlying5
 a5:=Tryz.isAgg5
 z5:=Tryz.sizeOf5
 v5:=Tryz.zeroValue5
 t9:=Tryz.underlying9
 a9:=Tryz.isAgg9
 z9:=Tryz.sizeOf9
 v9:=Tryz.zeroValue9
 t46:=Tryz.underlying27
 a46:=Tryz.isAgg27
 z46:=Tryz.sizeOf27
 v46:=Tryz.zeroValue27
 t53:=Tryz.underlying22
 a53:=Tryz.isAgg22
 z53:=Tryz.sizeOf22
 v53:=Tryz.zeroValue22}
theorem Tryz.bits_Len64(x:Int)(w:World)(h0:0<=x)(h1:x<=18446744073709551615):
 Calls Tryz.prog 77 #[.int .u64 x] w λe w'=>e= .returned (.int .i64 (Lib.bitLen x.toNat))/\w'=w:=Any.bits_Len64 Tryz.lays129 x w h0 h1
def Tryz.lays105_ren:Go.Shelf.Ren:=⟨fun|105=>44|212=>81|99=>82|165=>83|166=>84|170=>85|169=>86|263=>115|264=>116|206=>62|240=>117|241=>118|276=>141|277=>142|n=>n,fun|9=>9|3=>3|4=>4|20=>20|0=>0|46=>27|109=>98|5=>5|72=>102|76=>106|51=>138|146=>139|53=>22|148=>141|70=>100|37=>67|75=>105|127=>143|164=>165|80=>65|n=>n,fun|n=>n⟩
theorem Tryz.lays105:Go.Proofs.Lays.n105 Tryz.prog Tryz.lays105_ren:={
 mixed:=by kernel_rfl
 f99:=Tryz.func82.trans (congrArg some (by kernel_rfl))
 f105:=Tryz.func44.trans (congrArg some (by kernel_rfl))
 f165:=Tryz.func83.trans (congrArg some (by kernel_rfl))
 f166:=Tryz.func84.trans (congrArg some (by kernel_rfl))
 f169:=Tryz.func86.trans (congrArg some (by kernel_rfl))
 f170:=Tryz.func85.trans (congrArg some (by kernel_rfl))
 f206:=Tryz.func62.trans (congrArg some (by kernel_rfl))
 f212:=Tryz.func81.trans (congrArg some (by kernel_rfl))
 f240:=Tryz.func117.trans (congrArg some (by kernel_rfl))
 f241:=Tryz.func118.trans (congrArg some (by kernel_rfl))
 f263:=Tryz.func115.trans (congrArg some (by kernel_rfl))
 f264:=Tryz.func116.trans (congrArg some (by kernel_rfl))
 f276:=Tryz.func141.trans (congrArg some (by kernel_rfl))
 f277:=Tryz.func142.trans (congrArg some (by kernel_rfl))
 t0:=Tryz.underlying0
 a0:=Tryz.isAgg0
 z0:=Tryz.sizeOf0
 v0:=Tryz.zeroValue0
 t3:=Tryz.underlying3
 a3:=Tryz.isAgg3
 z3:=Tryz.sizeOf3
 v3:=Tryz.zeroValue3
 t4:=Tryz.underlying4
 a4:=Tryz.isAgg4
 z4:=Tryz.sizeOf4
 v4:=Tryz.zeroValue4
 t5:=Tryz.underlying5
 a5:=Tryz.isAgg5
 z5:=Tryz.sizeOf5
 v5:=Tryz.zeroValue5
 t9:=Tryz.underlying9
 a9:=Tryz.isAgg9
 z9:=Tryz.sizeOf9
 v9:=Tryz.zeroValue9
 t20:=Tryz.underlying20
 a20:=Tryz.isAgg20
 z20:=Tryz.sizeOf20
 v20:=Tryz.zeroValue20
 t37:=Tryz.underlying67
 a37:=Tryz.isAgg67
 z37:=Tryz.sizeOf67
 v37:=Tryz.zeroValue67
 t46:=Tryz.underlying27
 a46:=Tryz.isAgg27
 z46:=Tryz.sizeOf27
 v46:=Tryz.zeroValue27
 t51:=Tryz.underlying138
 a51:=Tryz.isAgg138
 z51:=Tryz.sizeOf138
 v51:=Tryz.zeroValue138
 t53:=Tryz.underlying22
 a53:=Tryz.isAgg22
 z53:=Tryz.sizeOf22
 v53:=Tryz.zeroValue22
 t70:=Tryz.underlying100
 a70:=Tryz.isAgg100
 z70:=Tryz.sizeOf100
 v70:=Tryz.zeroValue100
 t72:=Tryz.underlying102
 a72:=Tryz.isAgg102
 z72:=Tryz.sizeOf102
 v72:=Tryz.zeroValue102
 t75:=Tryz.underlying105
 a75:=Tryz.isAgg105
 z75:=Tryz.sizeOf105
 v75:=Tryz.zeroValue105
 t76:=Tryz.underlying106
 a76:=Tryz.isAgg106
 z76:=Tryz.sizeOf106
 v76:=Tryz.zeroValue106
 t109:=Tryz.underlying98
 a109:=Tryz.isAgg98
 z109:=Tryz.sizeOf98
 v109:=Tryz.zeroValue98
 t127:=Tryz.underlying143
 a127:=Tryz.isAgg143
 z127:=Tryz.sizeOf143
 v127:=Tryz.zeroValue143
 t146:=Tryz.underlying139
 a146:=Tryz.isAgg139
 z146:=Tryz.sizeOf139
 v146:=Tryz.zeroValue139
 t148:=Tryz.underlying141
 a148:=Tryz.isAgg141
 z148:=Tryz.sizeOf141
 v148:=Tryz.zeroValue141
 t164:=Tryz.underlying165
 a164:=Tryz.isAgg165
 z164:=Tryz.sizeOf165
 v164:=Tryz.zeroValue165}
theorem Tryz.Builder_Extra_105:Builder.Extra Tryz.prog Tryz.lays105_ren:={
 sizeBuilder:=by kernel_rfl
 liesBuilder:=by kernel_rfl
 t5:=Tryz.underlying5
 a5:=Tryz.isAgg5
 z5:=Tryz.sizeOf5
 v5:=Tryz.zeroValue5
 infoByte:=by kernel_rfl
 cellsByte:=by kernel_rfl
 sizeByte:=by kernel_rfl
 neB5:=by decide}
open Go.RowKit Go.Lib in
theorem Tryz.strings_Repeat (s : ByteArray) (c : Nat) (w : World) (hc : c <= 9223372036854775807) (hlen : s.size * c <= 140737488355328) :
 Calls Tryz.prog 44 #[.string s, .int .i64 c] w λe w' => e = .returned (.string ⟨(Lib.repeatL s.data.toList c).toArray⟩) /\ Below w.heap.size w w' := Any.strings_Repeat Tryz.lays105 Tryz.Builder_Extra_105 s c w hc hlen
end Go.Proofs
end
section
namespace Go.Proofs.YtilidabdbhaljaaGreatDoor.Fn
open Go.RowKit Go.Proofs.YtilidabdbhaljaaGreatDoorW.PrintWords
def zbQ.f(s c:ByteArray):Option ByteArray:=
  match c.data.toList with
  |[b]=>if b.toNat<128 then some ⟨(Lib.trimLeftB s.data.toList b).toArray⟩ else none
  |_=>none
def zbV.f(s c:ByteArray):Option ByteArray:=
  match c.data.toList with
  |[b]=>if b.toNat<128/\s.size<=9223372036854775807 then some ⟨(Lib.trimRightB s.data.toList b).toArray⟩ else none
  |_=>none
def strings_Compare.f(a b:ByteArray):Option Int:=some (Lib.compareBytes a.data.toList b.data.toList)
theorem one_byte{c:ByteArray}{b:UInt8}(h:c.data.toList=[b]):c=⟨#[b]⟩:=by
 (rcases c with⟨⟨l⟩⟩);simp at h;rw[h]
theorem zbQ.calls(a0 a1 r:ByteArray)(w:World)(h:zbQ.f a0 a1=some r):
 Calls Tryz.prog 148 #[.string a0,.string a1] w λe w'=>e= .returned (.string r)/\Below w.heap.size w w':=by
 unfold zbQ.f at h;split at h
 ·rename_i b hb;split at h
  ·rename_i hlt;obtain rfl:=one_byte hb;obtain rfl:=Option.some.inj h;refine(Tryz.strings_TrimLeft_one a0 b hlt w).mono ?_;rintro e w' ⟨rfl,rfl⟩;exact⟨rfl,Below.refl _ _⟩
  ·cases h
 ·cases h
theorem zbV.calls(a0 a1 r:ByteArray)(w:World)(h:zbV.f a0 a1=some r):
 Calls Tryz.prog 78 #[.string a0,.string a1] w λe w'=>e= .returned (.string r)/\Below w.heap.size w w':=by
 unfold zbV.f at h;split at h
 ·rename_i b hb;split at h
  ·rename_i hlt;obtain rfl:=one_byte hb;obtain rfl:=Option.some.inj h;refine(Tryz.strings_TrimRight_one a0 b hlt.1 w hlt.2).mono ?_;rintro e w' ⟨rfl,rfl⟩;exact⟨rfl,Below.refl _ _⟩
  ·cases h
 ·cases h
theorem strings_Compare.calls(a0 a1:ByteArray)(r:Int)(w:World)(h:strings_Compare.f a0 a1=some r):
 Calls Tryz.prog 162 #[.string a0,.string a1] w λe w'=>e= .returned (.int .i64 r)/\Below w.heap.size w w':=by
 obtain rfl:=Option.some.inj h;refine(Tryz.strings_Compare a0 a1 w).mono ?_;rintro e w' ⟨rfl,rfl⟩;exact⟨rfl,Below.refl _ _⟩
end Go.Proofs.YtilidabdbhaljaaGreatDoor.Fn
end
section
namespace Go.Proofs.YtilidabdbhaljaaGreatDoor.Fn
open Go.RowKit Go.Proofs.YtilidabdbhaljaaGreatDoorW.PrintWords Go.Proofs.YtilidabdbhaljaaGreatDoorW.PrintLast Go.Proofs.YtilidabdbhaljaaGreatDoorW.PrintMore
set_option maxHeartbeats 8000000
set_option maxRecDepth 100000
section
attribute [local go_sem] fnW_0 fnW_1 fnW_2 fnW_3 fnW_4 fnW_5 fnW_guard fnW_eql zaC zaD zaI zaJ
def zbH.f(A:ByteArray)(E:Int):Option (ByteArray×Int):=(zbQ.f A (⟨#[48]⟩:ByteArray)).bind λB=>((zbV.f B (⟨#[48]⟩:ByteArray)).bind λD=>(if D.toList=([]:List UInt8) then(some ((⟨#[]⟩:ByteArray),0)) else(some (D,wrap64 (E-(wrap64 ((A.size:Int)-(B.size:Int))))))))
theorem zbH.calls(E:ByteArray)(X:Int)(r1:ByteArray)(r2:Int)(w:World)(h:zbH.f E X=some (r1,r2)):
 Calls Tryz.prog 127 #[.agg #[.string E,.int .i64 X]] w λe w'=>e= .returned (.agg #[.string r1,.int .i64 r2])/\Below w.heap.size w w':=by
 have aA:=Tryz.underlying74;have HB:=zaa.mk (Below.refl w.heap.size w);have H:((zbQ.f E (⟨#[48]⟩:ByteArray)).bind λM=>((zbV.f M (⟨#[48]⟩:ByteArray)).bind λA=>(if A.toList=([]:List UInt8) then(some ((⟨#[]⟩:ByteArray),0)) else(some (A,wrap64 (X-(wrap64 ((E.size:Int)-(M.size:Int)))))))))=some (r1,r2):=h;clear h;replace H:=bs H;obtain⟨M,A2,H⟩:=H;replace H:=bs H;obtain⟨A,A3,H⟩:=H;go_enter Tryz.func127,Tryz.ntmps127;(go_upto_if 20 with(first|((with_reducible refine zae (N:=1) rfl ?_);refine zaf rfl (N:=1) rfl (cs:=#[.string E,.int .i64 X]) (t:=74) gz ?_;intro I hg w4 hbox hb;have au:=gN bz hg;have J:=zaa.mk hbox;replace HB:=bN bz hb;clear hb hbox hg)|((with_reducible refine zae (N:=2) rfl ?_);refine zaf rfl (N:=2) rfl (cs:=#[.string (⟨#[]⟩:ByteArray),.int .i64 0]) (t:=74) gz ?_;intro O hg w5 hbox hb;have av:=gN bz hg;have B:=lN (g:=I) hg bk;have D:=rN (g:=I) hg bk;replace J:=kN (g:=I) hb bk;have U:=zaa.mk hbox;replace HB:=bN bz hb;clear hb hbox hg;have aB:=B.out;have aC:=D.out;obtain⟨aj,ak,al,am⟩:=cz2 J)|((with_reducible refine zac (f:=148) rfl ?_);refine gB Tryz.func148 (zbQ.calls E (⟨#[48]⟩:ByteArray) M _ A2.out) ?_;intro w8 hb;replace J:=kN (g:=I) hb bk;replace U:=kN (g:=O) hb bk;replace HB:=bN bz hb;clear hb;obtain⟨an,ao,ap,ar⟩:=cz2 J)|((with_reducible refine zac (f:=78) rfl ?_);refine gB Tryz.func78 (zbV.calls M (⟨#[48]⟩:ByteArray) A _ A3.out) ?_;intro aD hb;replace J:=kN (g:=I) hb bk;replace U:=kN (g:=O) hb bk;replace HB:=bN bz hb;clear hb)));(try simp only[Act.put,sA]);by_cases Y:A.toList=([]:List UInt8)
 (·replace H:=hE H Y;have K:(A.toList==([]:List UInt8))=true:=beq_iff_eq.mpr Y;have Z:(A.toList !=([]:List UInt8))=false:=bne_eq_false_iff_eq.mpr Y;(have aa:A.toList.isEmpty=true:=by simpa using K);clear Y;(try first|rw[K]|rw[Z]|rw[aa]);obtain⟨rfl,rfl⟩:=o2 H;have aw:=D.out;have ax:=B.out;obtain⟨ab,ac,ad,ae⟩:=cz2 U;go_wp2;refine bodyPost_ret (results_cell_row rfl _ _ O 74 #[.string (⟨#[]⟩:ByteArray),.int .i64 0] (0,0) _ rfl bk Tryz.underlying74 rfl (by kernel_rfl)) rfl ?_;exact⟨ez,bz⟩);replace H:=hN H Y;have K:(A.toList==([]:List UInt8))=false:=beq_eq_false_iff_ne.mpr Y;have Z:(A.toList !=([]:List UInt8))=true:=bne_iff_ne.mpr Y;(have aa:A.toList.isEmpty=false:=by simpa using K);(try first|rw[K]|rw[Z]|rw[aa]);obtain⟨rfl,rfl⟩:=o2 H;have ay:=D.out;have az:=B.out;obtain⟨af,ag,ah,ai⟩:=cz2 U;go_wp2;refine bodyPost_ret (results_cell_row rfl _ _ O 74 #[.string A,.int .i64 (wrap64 (X-(wrap64 ((E.size:Int)-(M.size:Int)))))] (0,0) _ rfl bk Tryz.underlying74 rfl (by kernel_rfl)) rfl ?_;exact⟨ez,bz⟩
end
end Go.Proofs.YtilidabdbhaljaaGreatDoor.Fn
end
