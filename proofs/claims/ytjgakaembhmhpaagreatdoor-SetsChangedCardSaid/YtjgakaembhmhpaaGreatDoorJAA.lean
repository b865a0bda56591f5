/- Part of the proof of SetsChanged: words printed by the kit's print.sh, struck. It holds without further conditions. -/
import Derived.WalkKit
import Derived.Laws.Strings
import Derived.Below
import Derived.Deep.Draws
import Derived.Deep.AppendLies
import Derived.Maps.AppendAt
import Derived.OwnWalk
import Derived.Laws.BytesArg
import Derived.Laws.MakeOwn
import Derived.Laws.OwnMore
import Derived.Deep.OwnRows
import Derived.Tactics
import Derived.Lib.ConvBytes
import Derived.Laws.Slices
import Derived.KernelRfl
import Derived.RowKit3
import Derived.Deep.LoopGhost
import Derived.Deep.QuietTactic
import Derived.BigQuiet
import Derived.WideLaws
import Derived.Deep.DeepCutAuto
import Derived.Deep.CutBlock
import Derived.Deep.RegionHeld3
import Derived.Laws.Rows
import Derived.Lib.AppendStr
import Derived.ArgAppend
import Derived.Laws.IdiomCopy
import Derived.RowKit
import Derived.OrdersHeld
import Derived.Laws.BitsLemmas
set_option linter.unusedVariables false
set_option linter.unusedSimpArgs false
set_option maxHeartbeats 16000000
set_option maxRecDepth 100000
namespace Go.Proofs.YtjgakaembhmhpaaGreatDoorM
theorem Ui:∀x y:List UInt8,(Op.bytesLess x y||x==y)= !(Op.bytesLess y x)
 | [],[]=>by simp[Op.bytesLess]
 | _::_,[]=>by simp[Op.bytesLess]
 | [],_::_=>by simp[Op.bytesLess]
 | a::x,b::y=>by
  have ih:=Ui x y
  simp only[Op.bytesLess]
  by_cases h1:a<b
  ·have h2:¬ b<a:=by
    rw[UInt8.lt_iff_toNat_lt]at *
    omega
   have h3:(b==a)=false:=by
    rw[beq_eq_false_iff_ne]
    rintro rfl
    exact h2 h1
   simp[h1,h2,h3]
  ·by_cases h2:b<a
   ·have h3:(a==b)=false:=by
     rw[beq_eq_false_iff_ne]
     rintro rfl
     exact h1 h2
    have h4:((a::x)==(b::y))=false:=by
     rw[beq_eq_false_iff_ne]
     intro e
     injection e with e _
     subst e
     exact h1 h2
    simp[h1,h2,h3,h4]
   ·have h3:a=b:=by
     rw[UInt8.lt_iff_toNat_lt]at h1 h2
     exact UInt8.toNat_inj.1 (by omega)
    subst h3
    simp only[h1,decide_false,Bool.false_or,beq_self_eq_true,Bool.true_and]
    rw[<- ih]
    congr 1
    simp
theorem str_leq (t:TypeId)(a b:ByteArray):binOp .leq t (.string a) (.string b)=pure (.bool (!(Op.bytesLess b.toList a.toList))):=by
 rw[<- Ui]
 simp[binOp,Op.stringOp]
theorem str_gtr (t:TypeId)(a b:ByteArray):binOp .gtr t (.string a) (.string b)=pure (.bool (Op.bytesLess b.toList a.toList)):=by
 have h:=Ui a.toList b.toList
 simp[binOp,Op.stringOp,h]
theorem str_geq (t:TypeId)(a b:ByteArray):binOp .geq t (.string a) (.string b)=pure (.bool (!(Op.bytesLess a.toList b.toList))):=by simp[binOp,Op.stringOp]
def idxFrom {α:Type}(p:α->Bool):List α->Int->Int
 | [],_=> -1
 | x::l,i=>if p x then i else idxFrom p l (i+1)
theorem T2 {α:Type}(p:α->Bool)(l:List α)(z:α)(k:Nat)(h:k<l.length):idxFrom p (l.drop k) k=if p (l.getD k z)then(k:Int)else idxFrom p (l.drop (k+1)) ((k+1:Nat):Int):=by
 rw[List.drop_eq_getElem_cons h,idxFrom]
 have e:l.getD k z=l[k]:=by simp[List.getD,List.getElem?_eq_getElem h]
 rw[e]
 simp
end Go.Proofs.YtjgakaembhmhpaaGreatDoorM
namespace Go.Proofs.YtjgakaembhmhpaaGreatDoorW.PrintWords
open Go.RowKit
structure af (p:Prop):Prop where mk::(o:p)
theorem ae {p:Prop}(h:p):af p:=⟨h⟩
structure aR (w w':World):Prop where mk::(o:∃n,w'=w.drewN n)
theorem aR.refl (w:World):aR w w:=⟨⟨0,rfl⟩⟩
theorem aR.step {w w':World}(h:aR w w')(n:Nat):aR w (w'.drewN n):=by
 obtain⟨m,rfl⟩:=h
 exact⟨⟨m+n,World.drewN_drewN ..⟩⟩
def rd (xs:List Int)(i:Int):Int:=xs.getD i.toNat 0
def bG (s:ByteArray)(i:Int):Int:=if h:i.toNat<s.size then((s[i.toNat]'h).toNat:Int)else 0
theorem kt (s:ByteArray)(i:Int):∀h:i.toNat<s.size,((s[i.toNat]'h).toNat:Int)=bG s i:=fun h=>by simp[bG,h]
theorem Yz (s:ByteArray)(i:Int):0<=bG s i/\bG s i<=255:=by
 unfold bG
 split
 ·rename_i h
  have:=(s[i.toNat]'h).toNat_lt
  omega
 ·omega
def nums (k:IntKind)(xs:List Int):List Value:=xs.map fun x=> .int k x
theorem ax {w W:World}(h:Below w.heap.size w W)(o:Obj):Below w.heap.size w (W.alloc o):=h.alloc h.size o
theorem cB {B:Nat}{w W:World}(h:Below B w W):Below B w W.drew:=⟨h.os,h.tape,h.output,h.size,h.block⟩
theorem eG {B:Nat}{w W:World}(h:Below B w W)(n:Nat):Below B w (W.drewN n):=⟨h.os,h.tape,h.output,h.size,h.block⟩
theorem cm {B:Nat}{w w1 w2:World}(h:Below B w w1)(hB:B<=w1.heap.size)(k:Below w1.heap.size w1 w2):Below B w w2:=
 h.trans ⟨k.os,k.tape,k.output,k.size,fun i hi=>k.block i (Nat.lt_of_lt_of_le hi hB)⟩
theorem alZ {w w1:World}(h:Below w.heap.size w w1)(row:Option Nat):w.grownBy w1 row:=⟨h.os,h.tape,h.output,h.size,fun i hi _=>h.block i hi⟩
theorem bw {w w1:World}(h:Below w.heap.size w w1){a:Addr}{v:Value}(hc:w.cell? a=some v):w1.cell? a=some v:=(h.cell (World.block_lt_of_cell? w a hc)).trans hc
theorem add_plain (g j:Nat):(⟨g,0,none⟩:Addr).add j=⟨g,j,none⟩:=by unfold Addr.add;split<;>simp_all
def xR (w:World)(k:IntKind)(A:Option Addr)(n:Nat)(xs:List Int):Prop:=
 xs.length=n/\n<=9223372036854775807/\(0<n->∃ad,A=some ad/\∀j,j<n->w.cell? (ad.add j)=some (.int k (xs.getD j 0)))
theorem aqq (W:World)(base:Nat)(e:TypeId)(size:Nat):W.ownsRow base e size (.slice none 0 0) 0 []:=⟨by simp,.inl ⟨rfl,rfl⟩⟩
theorem CU {w:World}{base:Nat}{e:TypeId}{size n:Nat}{v:Value}{xs:List Value}(h:w.ownsRow base e size v n xs)(k:Nat)(hk:v.ownBlock=some k):base<=k:=by
 rcases h.2 with⟨rfl,_⟩|⟨g,cap,cur,rfl,hb,_⟩
 ·simp[Value.ownBlock]at hk
 ·have:g=k:=by simpa[Value.ownBlock]using hk
  omega
theorem acT {w:World}{base:Nat}{e:TypeId}{size n:Nat}{v:Value}{xs:List Value}(h:w.ownsRow base e size v n xs)(k:Nat)(hk:v.ownBlock=some k):k<w.heap.size:=by
 rcases h.2 with⟨rfl,_⟩|⟨g,cap,cur,rfl,hb,hh,_⟩
 ·simp[Value.ownBlock]at hk
 ·have:g=k:=by simpa[Value.ownBlock]using hk
  subst this
  exact(Array.getElem?_eq_some_iff.1 hh).1
theorem aqt {w:World}{base n:Nat}{e:TypeId}{size:Nat}{v:Value}{xs:List Value}(h:w.ownsRow base e size v n xs):∃A c,v= .slice A n c:=by
 rcases h.2 with⟨rfl,rfl⟩|⟨g,cap,cur,rfl,_⟩
 ·exact⟨none,0,rfl⟩
 ·exact⟨_,cap,rfl⟩
section
variable {P:Program}
theorem ac1 (t e:TypeId)(k:IntKind)(bytes:Nat)(ht:P.underlying t=some (.slice e))(gP:(P.info? e).map (fun i=>(i.zero,i.size,i.bytes))=some (some (.int k 0),1,bytes))(hb0:0<bytes)
  (m:Nat) (hn:m * bytes<=281474976710656):
  ∀W:World,(Instr.makeSlice t (.int .i64 (m:Int)) (.int .i64 (m:Int))).run P W= .ok (.slice (some ⟨W.heap.size,0,none⟩) m m) (W.alloc (.cells (madeCells #[.int k 0] m) e)):=by
 intro W
 have hm:m<=281474976710656:=Nat.le_trans (Nat.le_mul_of_pos_right _ hb0) hn
 exact run_make_row' t e (.int k 0) bytes ht gP rfl .i64 .i64 m (by rw[Nat.mul_comm];exact hn) (by omega) W
end
def XX {α:Type}(a b:Option α):Prop:=∀r,a=some r->b=some r
theorem XX.none {α:Type}(b:Option α):XX Option.none b:=fun _ h=>by cases h
def bU {α:Type}(R:α->List Value->Prop)(size:Nat)(ps:List α)(cs:List Value):Prop:=
 cs.length=ps.length * size/\∀j p,ps[j]?=some p->R p ((cs.drop (j * size)).take size)
theorem bU.none {α:Type}(R:α->List Value->Prop)(size:Nat):bU R size [] []:=⟨by simp,fun j p h=>by simp at h⟩
theorem bU.snoc {α:Type}{R:α->List Value->Prop}{size:Nat}{ps:List α}{cs c:List Value}{p:α}(h:bU R size ps cs)(hp:R p c)(hc:c.length=size):bU R size (ps++[p]) (cs++c):=by
 refine⟨by rw[List.length_append,h.1,hc,List.length_append,List.length_singleton,Nat.add_mul,Nat.one_mul],fun j q hq=>?_⟩
 rcases Nat.lt_or_ge j ps.length with hj|hj
 ·rw[List.getElem?_append_left hj]at hq
  have h1:j * size+size<=cs.length:=by rw[h.1,<- Nat.succ_mul];exact Nat.mul_le_mul_right _ hj
  have h2:=h.2 j q hq
  rw[List.drop_append_of_le_length (by omega),List.take_append_of_le_length (by rw[List.length_drop];omega)]
  exact h2
 ·have hj':j=ps.length:=by
   have:=(List.getElem?_eq_some_iff.1 hq).1
   rw[List.length_append,List.length_singleton]at this
   omega
  subst hj'
  have hq':p=q:=by simpa using hq
  subst hq'
  rw[<- h.1,List.drop_left,<- hc,List.take_length]
  exact hp
theorem bU.k9 {α:Type}{R R':α->List Value->Prop}{size:Nat}{ps:List α}{cs:List Value}(h:bU R size ps cs)(hR:∀p c,R p c->R' p c):bU R' size ps cs:=⟨h.1,fun j p hj=>hR _ _ (h.2 j p hj)⟩
def lC {α:Type}(R:α->List Value->Prop)(size:Nat)(w:World)(A:Option Addr)(n:Nat)(ps:List α):Prop:=
 ps.length=n/\n<=9223372036854775807/\(0<n->∃ad,A=some ad/\∀j p,ps[j]?=some p->∃c,c.length=size/\R p c/\∀i u,c[i]?=some u->w.cell? (ad.add (j * size+i))=some u)
theorem lC.alV {α:Type}{R:α->List Value->Prop}{size:Nat}{w:World}{A:Option Addr}{n:Nat}{ps:List α}(h:lC R size w A n ps)(d:α)(i:Int)(h0:0<=i)(h1:i<n):
  ∃ad c,A=some ad/\c.length=size/\R (ps.getD i.toNat d) c/\∀j u,c[j]?=some u->w.cell? (ad.add (i.toNat * size+j))=some u:=by
 obtain⟨ad,e,hc⟩:=h.2.2 (by omega)
 have hl:i.toNat<ps.length:=by have:=h.1;omega
 obtain⟨c,hs,hr,hcell⟩:=hc i.toNat _ (List.getElem?_eq_getElem hl)
 refine⟨ad,c,e,hs,?_,hcell⟩
 rw[List.getD_eq_getElem?_getD,List.getElem?_eq_getElem hl]
 exact hr
theorem lC.k9 {α:Type}{R R':α->List Value->Prop}{size:Nat}{w w1:World}{A:Option Addr}{n:Nat}{ps:List α}(h:lC R size w A n ps)(hb:Below w.heap.size w w1)(hR:∀p c,R p c->R' p c):lC R' size w1 A n ps:=
 ⟨h.1,h.2.1,fun hn=>by
  obtain⟨ad,e,hc⟩:=h.2.2 hn
  refine⟨ad,e,fun j p hj=>?_⟩
  obtain⟨c,hs,hr,hcell⟩:=hc j p hj
  exact⟨c,hs,hR _ _ hr,fun i u hu=>bw hb (hcell i u hu)⟩⟩
theorem aqs {α:Type}{R:α->List Value->Prop}{w:World}{base n size:Nat}{e:TypeId}{v:Value}{ps:List α}{cs:List Value}(h:w.ownsRow base e size v n cs)(hR:bU R size ps cs)(hn:ps.length=n):
  ∃A c,v= .slice A n c/\lC R size w A n ps:=by
 rcases Nat.eq_zero_or_pos n with h0|h0
 ·rcases h.2 with⟨rfl,rfl⟩|⟨g,cap,cur,rfl,_⟩
  ·exact⟨none,0,rfl,hn,by omega,fun hp=>absurd hp (by omega)⟩
  ·exact⟨_,cap,rfl,hn,by omega,fun hp=>absurd hp (by omega)⟩
 ·obtain⟨g,cap,rfl,_,_⟩:=h.form h0
  have hm:n<=9223372036854775807:=by
   rcases h.2 with⟨_,h1⟩|⟨g',cap',cur,he,_,_,h1,h2,_⟩
   ·omega
   ·simp only[maxLen]at h2
    omega
  refine⟨_,cap,rfl,hn,hm,fun _=>⟨_,rfl,fun j p hj=>⟨(cs.drop (j * size)).take size,?_,hR.2 j p hj,fun i u hu=>?_⟩⟩⟩
  ·have gQ:=(List.getElem?_eq_some_iff.1 hj).1
   have h1:j * size+size<=cs.length:=by rw[hR.1,<- Nat.succ_mul];exact Nat.mul_le_mul_right _ gQ
   rw[List.length_take,List.length_drop]
   omega
  ·refine h.cells (g:=g) rfl _ u ?_
   rw[List.getElem?_take]at hu
   split at hu
   ·rw[List.getElem?_drop]at hu
    exact hu
   ·cases hu
theorem LL (ad:Addr)(m j:Nat)(hj:0<j):ad.add (m+j)=⟨(ad.add m).block,(ad.add m).off+j,none⟩:=by
 unfold Addr.add
 by_cases hm:m=0
 ·subst hm
  simp[Nat.ne_of_gt hj]
 ·simp[hm,Nat.add_assoc]
section
variable {P:Program}{ops:Array Oper}{rest:List Oper}{o:Oper}{a:Act}{Q:Exit->Act->World->Prop}
theorem aqP {w0 W:World}(base:Nat)(hgd:o.guard=none)(s x:Operand)(t e:TypeId)(z:Value)(size bytes:Nat)
  (ho:o.op= .call { callee:= .builtin .append,args:=#[s,x],argTypes:=#[t,t]})
  (ht:P.underlying t=some (.slice e)) (gP:(P.info? e).map (fun i=>(i.zero,i.size,i.bytes))=some (some z,size,bytes)) (hz:z.cells.size=size) (hs0:0<size) (hb0:0<bytes)
  (v:Value) (n:Nat) (xs ys:List Value) (hs:a.eval s=v) (hx:a.eval x= .slice (some ⟨W.heap.size,0,none⟩) 1 1) (CI:ys.length=size) (h1:∀u∈ys,u.oneCell'=true)
  (HO:W.ownsRow base e size v n xs) (ak:Below base w0 W) (hbase:base<=W.heap.size) (hl:(n+1) * bytes<=140737488355328)
  (h:∀v1 w1,w1.ownsRow base e size v1 (n+1) (xs++ys)->Below base w0 w1->W.grownBy w1 v.ownBlock->(v1.ownBlock=v.ownBlock\/∃b,v1.ownBlock=some b/\W.heap.size<=b)->wpList P ops Q rest (a.put o.dst v1) w1):
  wpList P ops Q (o::rest) a (W.alloc (.cells ys.toArray e)):=by
 obtain⟨i0,hi,hzz⟩:=Option.map_eq_some_iff.1 gP
 simp only[Prod.mk.injEq]at hzz
 obtain⟨hz0,hz1,hz2⟩:=hzz
 have hlen:n+1<=140737488355328:=Nat.le_trans (Nat.le_mul_of_pos_right _ hb0) hl
 refine wpList_append_own_at (W.alloc (.cells ys.toArray e)) hgd s x t ho base e i0 z size bytes ht hi hz0 hz1 hz2 hz hs0 v n xs hs (HO.alloc _) ⟨W.heap.size,0,none⟩ 1 1 ys hx (by rw[CI];simp)
  (by simpa using World.news_of_block (cs:=ys.toArray) (t:=e) (fr:=(0,0)) (heap_alloc_new W (.cells ys.toArray e))) h1 (by simp only[maxLen];omega) hl (by simp;omega) ?_
 intro v1 w1 hown hg _ hat
 refine h v1 w1 hown ((ak.alloc hbase _).grown hg (by simp;omega) (CU HO)) (World.grownBy.trans (World.grownBy_alloc W _ _) hg) ?_
 rcases hat with hat|hat
 ·exact .inl hat
 ·exact .inr ⟨_,hat,by simp⟩
end
theorem UD {w:World}{base:Nat}{e t:TypeId}{size n g:Nat}{v:Value}{xs:List Value}{cs:Array Value}(h:w.ownsRow base e size v n xs)(hg:w.heap[g]?=some (.cells cs t (0,0)))(hne:e≠t):some g≠v.ownBlock:=by
 rcases h.2 with⟨rfl,_⟩|⟨g',cap,cur,rfl,_,hh,_⟩
 ·simp[Value.ownBlock]
 ·intro he
  have:g=g':=by simpa[Value.ownBlock]using he
  subst this
  rw[hg]at hh
  injection hh with hh
  injection hh with _ ht
  exact hne ht.symm
theorem uV {w:World}{g:Nat}{t:TypeId}{cs:Array Value}(h:w.heap[g]?=some (.cells cs t (0,0)))(i:Nat)(u:Value):(w.setCell ⟨g,i,none⟩ u).heap[g]?=some (.cells (cs.setIfInBounds i u) t (0,0)):=by
 simp[World.setCell,Array.getElem?_modify,h]
theorem lH {w:World}{g:Nat}{t:TypeId}{cs:Array Value}(h:w.heap[g]?=some (.cells cs t (0,0))){p:Addr}(hp:g≠p.block)(u:Value):(w.setCell p u).heap[g]?=some (.cells cs t (0,0)):=(Below.heap_setCell w p u g hp).trans h
theorem az {w:World}{g:Nat}{o:Obj}(h:w.heap[g]?=some o):g<w.heap.size:=(Array.getElem?_eq_some_iff.1 h).1
theorem mj {w:World}{g:Nat}{t:TypeId}{cs:Array Value}(h:w.heap[g]?=some (.cells cs t (0,0)))(i:Nat):w.cell? ⟨g,i,none⟩=cs[i]?:=cell_of_row w g i cs t (0,0) h
theorem ah {w:World}{g:Nat}{t:TypeId}{cs:Array Value}(h:w.heap[g]?=some (.cells cs t (0,0)))(i:Nat){v:Value}(e:cs[i]?=some v:=by exact rfl):w.cell? ⟨g,i,none⟩=some v:=(mj h i).trans e
theorem ar {w:World}{g:Nat}{t:TypeId}{cs:Array Value}(h:w.heap[g]?=some (.cells cs t (0,0)))(i:Nat):w.frozen? ⟨g,i,none⟩=false:=by simp[World.frozen?,h]
theorem gf {w w1:World}{g:Nat}{o:Obj}{row:Option Nat}(h:w.heap[g]?=some o)(hg:w.grownBy w1 row)(hne:some g≠row):w1.heap[g]?=some o:=(hg.block g (az h) hne).trans h
theorem EP {w:World}{g g':Nat}{t t':TypeId}{cs cs':Array Value}(h:w.heap[g]?=some (.cells cs t (0,0)))(h':w.heap[g']?=some (.cells cs' t' (0,0)))(hne:t≠t'):g≠g':=by
 rintro rfl
 rw[h]at h'
 injection h' with h'
 injection h' with _ ht
 exact hne ht
def bF (w w':World)(g:Nat)(row:Option Nat):Prop:=w.heap.size<=w'.heap.size/\∀i,i<w.heap.size->i≠g->some i≠row->w'.heap[i]?=w.heap[i]?
theorem bF.refl (w:World)(g:Nat)(row:Option Nat):bF w w g row:=⟨Nat.le_refl _,fun _ _ _ _=>rfl⟩
theorem bF.Al {w w1:World}{row:Option Nat}(h:w.grownBy w1 row)(g:Nat):bF w w1 g row:=⟨h.size,fun i hi _ hr=>h.block i hi hr⟩
theorem bF.gF {w w1:World}(h:Below w.heap.size w w1)(g:Nat)(row:Option Nat):bF w w1 g row:=⟨h.size,fun i hi _ _=>h.block i hi⟩
theorem bF.ni {w w1:World}{g:Nat}{row:Option Nat}(h:bF w w1 g row)(j:Nat)(u:Value):bF w (w1.setCell ⟨g,j,none⟩ u) g row:=
 ⟨by simpa[World.setCell]using h.1,fun i hi hg hr=>(Below.heap_setCell w1 ⟨g,j,none⟩ u i hg).trans (h.2 i hi hg hr)⟩
theorem bF.trans {w w1 w2:World}{g:Nat}{row U1:Option Nat}(h:bF w w1 g row)(k:bF w1 w2 g U1)(hr:U1=row\/∃b,U1=some b/\w.heap.size<=b):bF w w2 g row:=
 ⟨Nat.le_trans h.1 k.1,fun i hi hg hn=>by
  refine(k.2 i (Nat.lt_of_lt_of_le hi h.1) hg ?_).trans (h.2 i hi hg hn)
  rcases hr with rfl|⟨b,rfl,hb⟩
  ·exact hn
  ·intro e
   injection e with e
   omega⟩
theorem bF.blk {w w1:World}{g g':Nat}{row:Option Nat}{o:Obj}(h:bF w w1 g row)(hb:w.heap[g']?=some o)(hg:g'≠g)(hr:some g'≠row):w1.heap[g']?=some o:=(h.2 g' (az hb) hg hr).trans hb
section
variable {P:Program}{ops:Array Oper}{o:Oper}{a:Act}{Q:Exit->Act->World->Prop}{K:Act->World->Prop}
theorem asw {w0 W:World}(base:Nat)(hw:Region.wanted o (yielded ops a.tmps)=true)(s x:Operand)(t e:TypeId)(z:Value)(size bytes:Nat)
  (ho:o.op= .call { callee:= .builtin .append,args:=#[s,x],argTypes:=#[t,t]})
  (ht:P.underlying t=some (.slice e)) (gP:(P.info? e).map (fun i=>(i.zero,i.size,i.bytes))=some (some z,size,bytes)) (hz:z.cells.size=size) (hs0:0<size) (hb0:0<bytes)
  (v:Value) (n:Nat) (xs ys:List Value) (hs:a.eval s=v) (hx:a.eval x= .slice (some ⟨W.heap.size,0,none⟩) 1 1) (CI:ys.length=size) (h1:∀u∈ys,u.oneCell'=true)
  (HO:W.ownsRow base e size v n xs) (ak:Below base w0 W) (hbase:base<=W.heap.size) (hl:(n+1) * bytes<=140737488355328)
  (h:∀v1 w1,w1.ownsRow base e size v1 (n+1) (xs++ys)->Below base w0 w1->W.grownBy w1 v.ownBlock->(v1.ownBlock=v.ownBlock\/∃b,v1.ownBlock=some b/\W.heap.size<=b)->K (a.put o.dst v1) w1):
  if Region.wanted o (yielded ops a.tmps)=true then Oper.wp P o a (W.alloc (.cells ys.toArray e)) K Q else K (a.put o.dst undef) (W.alloc (.cells ys.toArray e)):=by
 obtain⟨i0,hi,hzz⟩:=Option.map_eq_some_iff.1 gP
 simp only[Prod.mk.injEq]at hzz
 obtain⟨hz0,hz1,hz2⟩:=hzz
 have hlen:n+1<=140737488355328:=Nat.le_trans (Nat.le_mul_of_pos_right _ hb0) hl
 rw[if_pos hw]
 obtain⟨v1,w1,hr,hown,hg,_,hat⟩:=run_append_own_at (P:=P) (W.alloc (.cells ys.toArray e)) base t o.type e i0 z size bytes ht hi hz0 hz1 hz2 hz hs0 v n xs (HO.alloc _) ⟨W.heap.size,0,none⟩ 1 1 ys (by rw[CI];simp)
  (by simpa using World.news_of_block (cs:=ys.toArray) (t:=e) (fr:=(0,0)) (heap_alloc_new W (.cells ys.toArray e))) h1 (by simp only[maxLen];omega) hl (by simp;omega)
 unfold Oper.wp execOp
 simp only[ho,resolve,invoke,builtin,Sem.run_bind,Sem.run_pure,Result.andThen_ok,List.map_toArray,List.map_cons,List.map_nil,hs,hx,hr]
 refine h v1 w1 hown ((ak.alloc hbase _).grown hg (by simp;omega) (CU HO)) (World.grownBy.trans (World.grownBy_alloc W _ _) hg) ?_
 rcases hat with hat|hat
 ·exact .inl hat
 ·exact .inr ⟨_,hat,by simp⟩
end
theorem aqv {w:World}{base base':Nat}{e:TypeId}{size n:Nat}{v:Value}{xs:List Value}(h:w.ownsRow base e size v n xs)(hb:base'<=base):w.ownsRow base' e size v n xs:=by
 obtain⟨h1,h2⟩:=h
 refine⟨h1,?_⟩
 rcases h2 with h2|⟨g,cap,cur,rfl,hg,r⟩
 ·exact .inl h2
 ·exact .inr ⟨g,cap,cur,rfl,Nat.le_trans hb hg,r⟩
section
variable {α:Type}{enc:α->Value}{d:α}
def kL (enc:α->Value)(xs:List α):List Value:=xs.map enc
def gg (d:α)(xs:List α)(i:Int):α:=xs.getD i.toNat d
theorem Zi (xs:List α):(kL enc xs).length=xs.length:=by simp[kL]
theorem ala (xs:List α)(j:Nat)(h:j<xs.length):(kL enc xs)[j]?=some (enc (xs.getD j d)):=by
 simp[kL,List.getElem?_eq_getElem h,List.getD_eq_getElem?_getD]
def BI (enc:α->Value)(d:α)(w:World)(A:Option Addr)(n:Nat)(xs:List α):Prop:=
 xs.length=n/\n<=9223372036854775807/\(0<n->∃ad,A=some ad/\∀j,j<n->w.cell? (ad.add j)=some (enc (xs.getD j d)))
theorem BI.at_ {w:World}{A:Option Addr}{n:Nat}{xs:List α}(h:BI enc d w A n xs)(i:Int)(h0:0<=i)(h1:i<n):∃ad,A=some ad/\w.cell? (ad.add i.toNat)=some (enc (gg d xs i)):=by
 obtain⟨ad,e,hc⟩:=h.2.2 (by omega)
 exact⟨ad,e,hc _ (by omega)⟩
end
section
variable {α:Type}{P:Program}{ops:Array Oper}{rest:List Oper}{o:Oper}{a:Act}{Q:Exit->Act->World->Prop}
theorem aqQ {w0 W:World}(enc:α->Value)(d:α)(base:Nat)(hgd:o.guard=none)(s x:Operand)(t e:TypeId)(z:Value)(bytes:Nat)
  (ho:o.op= .call { callee:= .builtin .append,args:=#[s,x],argTypes:=#[t,t]})
  (ht:P.underlying t=some (.slice e)) (gP:(P.info? e).map (fun i=>(i.zero,i.size,i.bytes))=some (some z,1,bytes)) (hz:z.cells.size=1) (hb0:0<bytes) (h1:∀x:α,(enc x).oneCell'=true)
  (v:Value) (xs ys:List α) (A:Option Addr) (m c:Nat) (hs:a.eval s=v) (hx:a.eval x= .slice A m c)
  (HO:W.ownsRow base e 1 v xs.length (kL enc xs)) (bT:BI enc d W A m ys) (ak:Below base w0 W) (hbase:base<=W.heap.size) (hl:(xs.length+m) * bytes<=140737488355328)
  (h:∀v1 w1,w1.ownsRow base e 1 v1 (xs++ys).length (kL enc (xs++ys))->Below base w0 w1->W.grownBy w1 v.ownBlock->(v1.ownBlock=v.ownBlock\/∃b,v1.ownBlock=some b/\W.heap.size<=b)->wpList P ops Q rest (a.put o.dst v1) w1):
  wpList P ops Q (o::rest) a W:=by
 obtain⟨i0,hi,hzz⟩:=Option.map_eq_some_iff.1 gP
 simp only[Prod.mk.injEq]at hzz
 obtain⟨hz0,hz1,hz2⟩:=hzz
 have hm:ys.length=m:=bT.1
 have hlen:xs.length+m<=140737488355328:=Nat.le_trans (Nat.le_mul_of_pos_right _ hb0) hl
 have hrun:∃v1 w1,(Builtin.append_ #[t,t] o.type #[v,.slice A m c]).run P W= .ok v1 w1/\w1.ownsRow base e 1 v1 (xs++ys).length (kL enc (xs++ys))/\W.grownBy w1 v.ownBlock/\(v1.ownBlock=v.ownBlock\/v1.ownBlock=some W.heap.size):=by
  rcases A with _|ad
  ·have h0:m=0:=by
    rcases Nat.eq_zero_or_pos m with h0|h0
    ·exact h0
    ·obtain⟨ad,h,_⟩:=bT.2.2 h0
     cases h
   subst h0
   obtain rfl:ys=[]:=List.eq_nil_of_length_eq_zero hm
   refine⟨v,W,?_,by simpa using HO,World.grownBy.refl W _,.inl rfl⟩
   rcases HO.2 with⟨rfl,hn⟩|⟨g,cap,cur,rfl,_,_,nS,_⟩
   ·simp[Builtin.append_,run_underlying ht,sizeOf,typeInfo,hi,Builtin.lenOf,Builtin.firstCells]
   ·simp[Builtin.append_,run_underlying ht,sizeOf,typeInfo,hi,Builtin.lenOf,Builtin.firstCells,nS,storeCells]
  ·have qx:∀j u,(kL enc ys)[j]?=some u->W.cell? (ad.add j)=some u:=by
    intro j u hu
    have hj:j<ys.length:=by
     rcases Nat.lt_or_ge j ys.length with h|h
     ·exact h
     ·simp[kL,List.getElem?_eq_none h]at hu
    obtain⟨EK,h',hc⟩:=bT.2.2 (by omega)
    injection h' with h'
    subst h'
    rw[ala (d:=d) ys j hj]at hu
    rw[<- hu]
    exact hc j (by omega)
   obtain⟨v1,w1,hr,h2,h3,_,h5⟩:=run_append_own_at (P:=P) W base t o.type e i0 z 1 bytes ht hi hz0 hz1 hz2 hz (by omega) v xs.length (kL enc xs) HO ad m c (kL enc ys) (by simp[kL,hm]) qx
    (by intro u hu;simp only[kL,List.mem_map]at hu;obtain⟨q,_,rfl⟩:=hu;exact h1 q) (by simp only[maxLen];omega) hl hbase
   exact⟨v1,w1,hr,by simpa[kL,hm]using h2,h3,h5⟩
 obtain⟨v1,w1,hr,hown,hg,hat⟩:=hrun
 refine wpList_plain hgd fun K hK=>?_
 unfold Oper.wp execOp
 simp only[ho,resolve,invoke,builtin,Sem.run_bind,Sem.run_pure,Result.andThen_ok,List.map_toArray,List.map_cons,List.map_nil,hs,hx,hr]
 refine hK _ _ (h v1 w1 hown (ak.grown hg hbase (CU HO)) hg ?_)
 rcases hat with hat|hat
 ·exact .inl hat
 ·exact .inr ⟨_,hat,Nat.le_refl _⟩
end
theorem aH {w:World}{g:Nat}{o:Obj}(h:w.heap[g]?=some o)(o':Obj):(w.alloc o').heap[g]?=some o:=(Below.heap_alloc w o' g (az h)).trans h
theorem bz {w:World}{g:Nat}{o:Obj}(h:w.heap[g]?=some o):w.drew.heap[g]?=some o:=h
theorem bD {w:World}{g:Nat}{o:Obj}(h:w.heap[g]?=some o)(n:Nat):(w.drewN n).heap[g]?=some o:=h
theorem av {w w1:World}{g:Nat}{o:Obj}(h:w.heap[g]?=some o)(hb:Below w.heap.size w w1):w1.heap[g]?=some o:=(hb.block g (az h)).trans h
theorem a8 (w:World)(o:Obj):(w.alloc o).heap[w.heap.size]?=some o:=heap_alloc_new w o
theorem aqo {w:World}{base n m c size:Nat}{e:TypeId}{A:Option Addr}{xs:List Value}(h:w.ownsRow base e size (.slice A m c) n xs):m<=c:=by
 rcases h.2 with⟨he,_⟩|⟨g,cap,cur,he,_,_,nS,_⟩
 ·injection he with _ h2 h3
  omega
 ·injection he with _ h2 h3
  omega
def r7 {α:Type}(R:α->List Value->Prop)(e:TypeId)(size:Nat)(w:World)(base:Nat)(v:Value)(ps:List α):Prop:=
 ∃inner,w.ownsRow base e size v ps.length inner/\bU R size ps inner
section
variable {α:Type}{R R':α->List Value->Prop}{e:TypeId}{size:Nat}{w w1:World}{base:Nat}{v:Value}{ps:List α}
theorem r7.none_ (R:α->List Value->Prop)(e:TypeId)(size:Nat)(w:World)(base:Nat):r7 R e size w base (.slice none 0 0) []:=⟨[],aqq _ _ _ _,bU.none _ _⟩
theorem r7.k9 (h:r7 R e size w base v ps)(hR:∀p c,R p c->R' p c):r7 R' e size w base v ps:=by
 obtain⟨inner,ho,hr⟩:=h
 exact⟨inner,ho,hr.k9 hR⟩
theorem r7.reads (h:r7 R e size w base v ps):∃A c,v= .slice A ps.length c/\ps.length<=c/\lC R size w A ps.length ps:=by
 obtain⟨inner,ho,hr⟩:=h
 obtain⟨A,c,rfl,hrow⟩:=aqs ho hr rfl
 exact⟨A,c,rfl,aqo ho,hrow⟩
theorem r7.ap4 (h:r7 R e size w base v ps){g:Nat}{t:TypeId}{cells:Array Value}(hb:w.heap[g]?=some (.cells cells t (0,0)))(ht:e≠t):some g≠v.ownBlock:=by
 obtain⟨inner,ho,hr⟩:=h
 exact UD ho hb ht
end
theorem lC.Nj {α:Type}{R:α->List Value->Prop}{size:Nat}{w:World}{ad:Addr}{n:Nat}{ps:List α}(h:lC R size w (some ad) n ps):
  ∃inner,bU R size ps inner/\∀j u,inner[j]?=some u->w.cell? (ad.add j)=some u:=by
 have key:∀m,m<=ps.length->∃inner,bU R size (ps.take m) inner/\∀j u,inner[j]?=some u->w.cell? (ad.add j)=some u:=by
  intro m
  induction m with
  | zero=>exact fun _=>⟨[],bU.none _ _,fun j u hu=>by simp at hu⟩
  | succ m ih=>
   intro hm
   obtain⟨inner,hr,hc⟩:=ih (by omega)
   obtain⟨EK,he,hcell⟩:=h.2.2 (by have:=h.1;omega)
   injection he with he
   subst he
   obtain⟨c,gN,hp,hcc⟩:=hcell m _ (List.getElem?_eq_getElem (show m<ps.length by omega))
   refine⟨inner++c,?_,fun j u hu=>?_⟩
   ·rw[List.take_succ_eq_append_getElem (show m<ps.length by omega)]
    exact hr.snoc hp gN
   ·have mJ:inner.length=m * size:=by rw[hr.1,List.length_take,Nat.min_eq_left (by omega)]
    rcases Nat.lt_or_ge j inner.length with hj|hj
    ·rw[List.getElem?_append_left hj]at hu
     exact hc j u hu
    ·rw[List.getElem?_append_right hj]at hu
     have:=hcc (j-inner.length) u hu
     rwa[mJ,Nat.add_sub_cancel' (by omega)]at this
 obtain⟨inner,hr,hc⟩:=key ps.length (Nat.le_refl _)
 rw[List.take_length]at hr
 exact⟨inner,hr,hc⟩
structure Kd (α:Type) where
 sz:Nat
 E:List Nat
 K:World->α->List Value->Prop
 M:World->Nat->(Nat->Prop)->α->List Value->Prop
 oC:∀{w x cs},K w x cs->cs.length=sz
 lA:∀{w x cs},K w x cs->∀u∈cs,u.oneCell'=true
 xL:∀{w w1:World} {x cs},Below w.heap.size w w1->K w x cs->K w1 x cs
 lz:∀{w base ok x cs},M w base ok x cs->K w x cs
 lB:∀{w base ok ok' x cs},(∀k,ok k->ok' k)->M w base ok x cs->M w base ok' x cs
 pq:∀{w:World} {base ok x cs},M w base ok x cs->M w base (fun k=>ok k/\base<=k/\k<w.heap.size/\∃q,q∈E/\∃cells,w.heap[k]?=some (.cells cells q (0,0))) x cs
 oD:∀{w w1:World} {base ok x cs},(∀k,ok k->w1.heap[k]?=w.heap[k]?)->M w base ok x cs->M w1 base ok x cs
 xM:∀{w base base' ok x cs},base'<=base->M w base ok x cs->M w base' ok x cs
theorem aqp {w w1:World}{base:Nat}{e:TypeId}{size n:Nat}{v:Value}{xs:List Value}(h:w.ownsRow base e size v n xs)(hm:∀k,v.ownBlock=some k->w1.heap[k]?=w.heap[k]?):w1.ownsRow base e size v n xs:=by
 obtain⟨h1,h2⟩:=h
 refine⟨h1,?_⟩
 rcases h2 with h2|⟨g,cap,cur,rfl,hg,hh,r⟩
 ·exact .inl h2
 ·exact .inr ⟨g,cap,cur,rfl,hg,(hm g (by simp[Value.ownBlock])).trans hh,r⟩
theorem UE {w:World}{base:Nat}{e:TypeId}{size n:Nat}{v:Value}{xs:List Value}(h:w.ownsRow base e size v n xs)(k:Nat)(hk:v.ownBlock=some k):∃cells,w.heap[k]?=some (.cells cells e (0,0)):=by
 rcases h.2 with⟨rfl,_⟩|⟨g,cap,cur,rfl,hg,hh,r⟩
 ·simp[Value.ownBlock]at hk
 ·have:g=k:=by simpa[Value.ownBlock]using hk
  subst this
  exact⟨cur,hh⟩
namespace Kd
def C {α:Type}(d:Kd α)(w:World)(A:Option Addr)(n:Nat)(xs:List α):Prop:=lC (d.K w) d.sz w A n xs
def R {α:Type}(d:Kd α)(e:Nat)(w:World)(base:Nat)(ok:Nat->Prop)(v:Value)(xs:List α):Prop:=
 (∀k,v.ownBlock=some k->ok k)/\r7 (d.M w base (fun k=>ok k/\some k≠v.ownBlock)) e d.sz w base v xs
section
variable {α:Type}{d:Kd α}{e:Nat}{w w1:World}{base:Nat}{ok ok':Nat->Prop}{v:Value}{xs:List α}
theorem bN {A:Option Addr}{n:Nat}(h:d.C w A n xs)(hb:Below w.heap.size w w1):d.C w1 A n xs:=lC.k9 h hb (fun _ _ hp=>d.xL hb hp)
theorem LG (d:Kd α)(e:Nat)(w:World)(base:Nat)(ok:Nat->Prop):d.R e w base ok (.slice none 0 0) []:=⟨fun k hk=>by simp[Value.ownBlock]at hk,r7.none_ _ _ _ _ _⟩
theorem pw (h:d.R e w base ok v xs)(bX:∀k,ok k->ok' k):d.R e w base ok' v xs:=⟨fun k hk=>bX k (h.1 k hk),h.2.k9 (fun _ _ hp=>d.lB (fun k hk=>⟨bX k hk.1,hk.2⟩) hp)⟩
theorem LF (h:d.R e w base ok v xs):d.R e w base (fun k=>ok k/\base<=k/\k<w.heap.size/\∃q,q∈e::d.E/\∃cells,w.heap[k]?=some (.cells cells q (0,0))) v xs:=by
 obtain⟨h0,inner,ho,hr⟩:=h
 refine⟨fun k hk=>?_,inner,ho,hr.k9 (fun _ _ hp=>d.lB (fun k hk=>?_) (d.pq hp))⟩
 ·obtain⟨cells,hc⟩:=UE ho k hk
  exact⟨h0 k hk,CU ho k hk,acT ho k hk,e,List.mem_cons_self,cells,hc⟩
 ·obtain⟨⟨h1,h2⟩,h3,h4,q,hq,hc⟩:=hk
  exact⟨⟨h1,h3,h4,q,List.mem_cons_of_mem _ hq,hc⟩,h2⟩
theorem Yd (h:d.R e w base ok v xs)(hm:∀k,ok k->w1.heap[k]?=w.heap[k]?):d.R e w1 base ok v xs:=by
 obtain⟨h0,inner,ho,hr⟩:=h
 exact⟨h0,inner,aqp ho (fun k hk=>hm k (h0 k hk)),hr.k9 (fun _ _ hp=>d.oD (fun k hk=>hm k hk.1) hp)⟩
theorem BH {base':Nat}(h:d.R e w base ok v xs)(hb:base'<=base):d.R e w base' ok v xs:=by
 obtain⟨h0,inner,ho,hr⟩:=h
 exact⟨h0,inner,aqv ho hb,hr.k9 (fun _ _ hp=>d.xM hb hp)⟩
theorem Ia (h:d.R e w base ok v xs)(hm:∀k,ok k->k<w.heap.size->w1.heap[k]?=w.heap[k]?):d.R e w1 base ok v xs:=
 pw (Yd (LF h) (fun k hk=>hm k hk.1 hk.2.2.1)) (fun _ hk=>hk.1)
theorem XZ {x:α}{cs:List Value}(h:d.M w base ok x cs)(hm:∀k,ok k->k<w.heap.size->w1.heap[k]?=w.heap[k]?):d.M w1 base ok x cs:=
 d.lB (fun _ hk=>hk.1) (d.oD (fun k hk=>hm k hk.1 hk.2.2.1) (d.pq h))
theorem oG (h:d.R e w base ok v xs)(hb:Below w.heap.size w w1):d.R e w1 base ok v xs:=Ia h (fun k _ hk=>hb.block k hk)
theorem air {x:α}{cs:List Value}(h:d.M w base ok x cs)(hb:Below w.heap.size w w1):d.M w1 base ok x cs:=XZ h (fun k _ hk=>hb.block k hk)
theorem jN (h:d.R e w base ok v xs){p:Addr}(bX:∀k,ok k->k≠p.block)(u:Value):d.R e (w.setCell p u) base ok v xs:=Ia h (fun k ho _=>Below.heap_setCell w p u k (bX k ho))
theorem aiX (h:d.R e w base ok v xs){g:Nat}(hk:bF w w1 g none)(bX:∀k,ok k->k≠g):d.R e w1 base ok v xs:=Ia h (fun k ho hlt=>hk.2 k hlt (bX k ho) (by simp))
theorem uT (h:d.R e w base ok v xs){g t:Nat}{cells:Array Value}(hb:w.heap[g]?=some (.cells cells t (0,0)))(ht:∀q,q∈e::d.E->q≠t):d.R e w base (fun k=>ok k/\k≠g) v xs:=
 pw (LF h) (fun k hk=>⟨hk.1,by
  obtain⟨_,_,_,q,hq,cells',hc⟩:=hk
  rintro rfl
  rw[hc]at hb
  injection hb with hb
  injection hb with _ hb
  exact ht q hq hb⟩)
theorem QX (h:d.R e w base ok v xs):∃A c,v= .slice A xs.length c/\xs.length<=c/\d.C w A xs.length xs:=by
 obtain⟨A,c,he,hl,hr⟩:=r7.reads h.2
 exact⟨A,c,he,hl,hr.k9 (Below.refl _ _) (fun _ _ hp=>d.lz hp)⟩
theorem r9 (h:d.R e w base ok v xs):∃A c,v= .slice A xs.length c:=by
 obtain⟨A,c,he,_⟩:=QX h
 exact⟨A,c,he⟩
theorem LH (h:d.R e w base ok v xs):∃inner,w.ownsRow base e d.sz v xs.length inner:=by
 obtain⟨_,inner,ho,_⟩:=h
 exact⟨inner,ho⟩
theorem Ey (h:d.R e w base ok v xs){g t:Nat}{cells:Array Value}(hb:w.heap[g]?=some (.cells cells t (0,0)))(ht:e≠t):some g≠v.ownBlock:=r7.ap4 h.2 hb ht
end
def scalar {α:Type}(enc:α->Value)(h1:∀x,(enc x).oneCell'=true):Kd α where
 sz:=1
 E:=[]
 K:=fun _ x cs=>cs=[enc x]
 M:=fun _ _ _ x cs=>cs=[enc x]
 oC:=fun h=>by rw[h];rfl
 lA:=fun h u hu=>by
  rw[h]at hu
  rw[List.mem_singleton.1 hu]
  exact h1 _
 xL:=fun _ h=>h
 lz:=fun h=>h
 lB:=fun _ h=>h
 pq:=fun h=>h
 oD:=fun _ h=>h
 xM:=fun _ h=>h
def int (k:IntKind):Kd Int:=scalar (Value.int k) (fun _=>rfl)
def string:Kd ByteArray:=scalar Value.string (fun _=>rfl)
def slice {α:Type}(e:Nat)(d:Kd α):Kd (List α) where
 sz:=1
 E:=e::d.E
 K:=fun w xs cs=>∃A c,cs=[.slice A xs.length c]/\xs.length<=c/\d.C w A xs.length xs
 M:=fun w base ok xs cs=>∃v,cs=[v]/\d.R e w base ok v xs
 oC:=by
  rintro w x cs ⟨A,c,rfl,_⟩
  rfl
 lA:=by
  rintro w x cs ⟨A,c,rfl,_⟩ u hu
  rw[List.mem_singleton.1 hu]
  rfl
 xL:=by
  rintro w w1 x cs hb ⟨A,c,rfl,hl,hr⟩
  exact⟨A,c,rfl,hl,bN hr hb⟩
 lz:=by
  rintro w base ok x cs ⟨v,rfl,h⟩
  obtain⟨A,c,rfl,hl,hr⟩:=QX h
  exact⟨A,c,rfl,hl,hr⟩
 lB:=by
  rintro w base ok ok' x cs bX ⟨v,rfl,h⟩
  exact⟨v,rfl,pw h bX⟩
 pq:=by
  rintro w base ok x cs ⟨v,rfl,h⟩
  exact⟨v,rfl,LF h⟩
 oD:=by
  rintro w w1 base ok x cs hm ⟨v,rfl,h⟩
  exact⟨v,rfl,Yd h hm⟩
 xM:=by
  rintro w base base' ok x cs hb ⟨v,rfl,h⟩
  exact⟨v,rfl,BH h hb⟩
def pair {α β:Type}(a:Kd α)(b:Kd β):Kd (α×β) where
 sz:=a.sz+b.sz
 E:=a.E++b.E
 K:=fun w x cs=>∃bf c1,cs=bf++c1/\a.K w x.1 bf/\b.K w x.2 c1
 M:=fun w base ok x cs=>∃bf c1,cs=bf++c1/\a.M w base ok x.1 bf/\b.M w base ok x.2 c1
 oC:=by
  rintro w x cs ⟨bf,c1,rfl,h0,h1⟩
  rw[List.length_append,a.oC h0,b.oC h1]
 lA:=by
  rintro w x cs ⟨bf,c1,rfl,h0,h1⟩ u hu
  rcases List.mem_append.1 hu with hu|hu
  ·exact a.lA h0 u hu
  ·exact b.lA h1 u hu
 xL:=by
  rintro w w1 x cs hb ⟨bf,c1,rfl,h0,h1⟩
  exact⟨bf,c1,rfl,a.xL hb h0,b.xL hb h1⟩
 lz:=by
  rintro w base ok x cs ⟨bf,c1,rfl,h0,h1⟩
  exact⟨bf,c1,rfl,a.lz h0,b.lz h1⟩
 lB:=by
  rintro w base ok ok' x cs bX ⟨bf,c1,rfl,h0,h1⟩
  exact⟨bf,c1,rfl,a.lB bX h0,b.lB bX h1⟩
 pq:=by
  rintro w base ok x cs ⟨bf,c1,rfl,h0,h1⟩
  refine⟨bf,c1,rfl,a.lB ?_ (a.pq h0),b.lB ?_ (b.pq h1)⟩
  ·rintro k ⟨h2,h3,h4,q,hq,hc⟩
   exact⟨h2,h3,h4,q,List.mem_append_left _ hq,hc⟩
  ·rintro k ⟨h2,h3,h4,q,hq,hc⟩
   exact⟨h2,h3,h4,q,List.mem_append_right _ hq,hc⟩
 oD:=by
  rintro w w1 base ok x cs hm ⟨bf,c1,rfl,h0,h1⟩
  exact⟨bf,c1,rfl,a.oD hm h0,b.oD hm h1⟩
 xM:=by
  rintro w base base' ok x cs hb ⟨bf,c1,rfl,h0,h1⟩
  exact⟨bf,c1,rfl,a.xM hb h0,b.xM hb h1⟩
def Nl {α β:Type}(d:Kd α)(f:β->α):Kd β where
 sz:=d.sz
 E:=d.E
 K:=fun w x cs=>d.K w (f x) cs
 M:=fun w base ok x cs=>d.M w base ok (f x) cs
 oC:=d.oC
 lA:=d.lA
 xL:=d.xL
 lz:=d.lz
 lB:=d.lB
 pq:=d.pq
 oD:=d.oD
 xM:=d.xM
theorem AR {α:Type}{d:Kd α}{w:World}{A:Option Addr}{n:Nat}{xs:List α}(h:d.C w A n xs)(z:α)(i:Int)(h0:0<=i)(h1:i<n):
 ∃ad c,A=some ad/\c.length=d.sz/\d.K w (xs.getD i.toNat z) c/\∀j u,c[j]?=some u->w.cell? (ad.add (i.toNat * d.sz+j))=some u:=lC.alV h z i h0 h1
theorem Yc {α:Type}{d:Kd α}{e base:Nat}{ok okp:Nat->Prop}{W w1:World}{v v1:Value}{xs:List α}{p:α}{inner cs:List Value}(h0:∀k,v.ownBlock=some k->ok k)(hr:bU (d.M W base (fun k=>ok k/\some k≠v.ownBlock)) d.sz xs inner)(hp:d.M W base okp p cs)(jF:∀k,okp k->ok k/\some k≠v.ownBlock)(iu:∀k,W.heap.size<=k->ok k)
  (hown:w1.ownsRow base e d.sz v1 (xs.length+1) (inner++cs)) (hg:W.grownBy w1 v.ownBlock) (hat:v1.ownBlock=v.ownBlock\/∃b,v1.ownBlock=some b/\W.heap.size<=b):d.R e w1 base ok v1 (xs++[p]):=by
 have hne:∀k,some k≠v.ownBlock->k<W.heap.size->some k≠v1.ownBlock:=by
  intro k hk hlt
  rcases hat with hat|⟨b,hb,hle⟩
  ·rw[hat];exact hk
  ·rw[hb]
   intro he
   injection he with he
   omega
 have step:∀{q:α} {c:List Value} {o:Nat->Prop},d.M W base o q c->(∀k,o k->ok k/\some k≠v.ownBlock)->d.M w1 base (fun k=>ok k/\some k≠v1.ownBlock) q c:=by
  intro q c o hq ho
  have h1:=d.oD (w1:=w1) (fun k hk=>hg.block k hk.2.2.1 (ho k hk.1).2) (d.pq hq)
  exact d.lB (fun k hk=>⟨(ho k hk.1).1,hne k (ho k hk.1).2 hk.2.2.1⟩) h1
 refine⟨fun k hk=>?_,inner++cs,by rw[List.length_append,List.length_singleton];exact hown,?_⟩
 ·rcases hat with hat|⟨b,hb,hle⟩
  ·exact h0 k (hat▸hk)
  ·rw[hb]at hk
   injection hk with hk
   exact iu k (by omega)
 ·exact(hr.k9 (fun _ _ hq=>step hq (fun _ hk=>hk))).snoc (step hp jF) (d.oC (d.lz hp))
section
variable {P:Program}{ops:Array Oper}{rest:List Oper}{o:Oper}{a:Act}{Q:Exit->Act->World->Prop}{α:Type}
theorem LC (d:Kd α){w0 W:World}(base:Nat)(hgd:o.guard=none)(s x:Operand)(t e:TypeId)(z:Value)(bytes:Nat)
  (ho:o.op= .call { callee:= .builtin .append,args:=#[s,x],argTypes:=#[t,t]})
  (ht:P.underlying t=some (.slice e)) (gP:(P.info? e).map (fun i=>(i.zero,i.size,i.bytes))=some (some z,d.sz,bytes)) (hz:z.cells.size=d.sz) (hs0:0<d.sz) (hb0:0<bytes)
  (v:Value) (xs:List α) (p:α) (cs:List Value) (ok okp:Nat->Prop) (hs:a.eval s=v) (hx:a.eval x= .slice (some ⟨W.heap.size,0,none⟩) 1 1) (hp:d.M W base okp p cs) (jF:∀k,okp k->ok k/\some k≠v.ownBlock) (iu:∀k,W.heap.size<=k->ok k)
  (HO:d.R e W base ok v xs) (ak:Below base w0 W) (hbase:base<=W.heap.size) (hl:(xs.length+1) * bytes<=140737488355328)
  (h:∀v1 w1,d.R e w1 base ok v1 (xs++[p])->Below base w0 w1->W.grownBy w1 v.ownBlock->(v1.ownBlock=v.ownBlock\/∃b,v1.ownBlock=some b/\W.heap.size<=b)->wpList P ops Q rest (a.put o.dst v1) w1):
  wpList P ops Q (o::rest) a (W.alloc (.cells cs.toArray e)):=by
 obtain⟨h0,inner,hown,hr⟩:=HO
 refine aqP base hgd s x t e z d.sz bytes ho ht gP hz hs0 hb0 v xs.length inner cs hs hx (d.oC (d.lz hp)) (d.lA (d.lz hp)) hown ak hbase hl ?_
 intro v1 w1 hown1 hb1 hg1 ym
 exact h v1 w1 (Yc h0 hr hp jF iu hown1 hg1 ym) hb1 hg1 ym
end
section
variable {P:Program}{ops:Array Oper}{o:Oper}{a:Act}{Q:Exit->Act->World->Prop}{kX:Act->World->Prop}{α:Type}
theorem aiS (d:Kd α){w0 W:World}(base:Nat)(hw:Region.wanted o (yielded ops a.tmps)=true)(s x:Operand)(t e:TypeId)(z:Value)(bytes:Nat)
  (ho:o.op= .call { callee:= .builtin .append,args:=#[s,x],argTypes:=#[t,t]})
  (ht:P.underlying t=some (.slice e)) (gP:(P.info? e).map (fun i=>(i.zero,i.size,i.bytes))=some (some z,d.sz,bytes)) (hz:z.cells.size=d.sz) (hs0:0<d.sz) (hb0:0<bytes)
  (v:Value) (xs:List α) (p:α) (cs:List Value) (ok okp:Nat->Prop) (hs:a.eval s=v) (hx:a.eval x= .slice (some ⟨W.heap.size,0,none⟩) 1 1) (hp:d.M W base okp p cs) (jF:∀k,okp k->ok k/\some k≠v.ownBlock) (iu:∀k,W.heap.size<=k->ok k)
  (HO:d.R e W base ok v xs) (ak:Below base w0 W) (hbase:base<=W.heap.size) (hl:(xs.length+1) * bytes<=140737488355328)
  (h:∀v1 w1,d.R e w1 base ok v1 (xs++[p])->Below base w0 w1->W.grownBy w1 v.ownBlock->(v1.ownBlock=v.ownBlock\/∃b,v1.ownBlock=some b/\W.heap.size<=b)->kX (a.put o.dst v1) w1):
  if Region.wanted o (yielded ops a.tmps)=true then Oper.wp P o a (W.alloc (.cells cs.toArray e)) kX Q else kX (a.put o.dst undef) (W.alloc (.cells cs.toArray e)):=by
 obtain⟨h0,inner,hown,hr⟩:=HO
 refine asw base hw s x t e z d.sz bytes ho ht gP hz hs0 hb0 v xs.length inner cs hs hx (d.oC (d.lz hp)) (d.lA (d.lz hp)) hown ak hbase hl ?_
 intro v1 w1 hown1 hb1 hg1 ym
 exact h v1 w1 (Yc h0 hr hp jF iu hown1 hg1 ym) hb1 hg1 ym
end
theorem arb {α:Type}{enc:α->Value}(xs:List α):bU (fun(x:α) (cs:List Value)=>cs=[enc x]) 1 xs (kL enc xs):=by
 refine⟨by simp[kL],fun j p hj=>?_⟩
 obtain⟨hl,hp⟩:=List.getElem?_eq_some_iff.1 hj
 have hl':j< (kL enc xs).length:=by rw[Zi];exact hl
 rw[Nat.mul_one,List.drop_eq_getElem_cons hl']
 simp[kL,hp]
theorem aiZ {α:Type}{enc:α->Value}{h1:∀x,(enc x).oneCell'=true}{e:Nat}{w:World}{base:Nat}{ok:Nat->Prop}{v:Value}{xs:List α}(ho:w.ownsRow base e 1 v xs.length (kL enc xs))(bX:∀k,v.ownBlock=some k->ok k):(scalar enc h1).R e w base ok v xs:=⟨bX,kL enc xs,ho,arb xs⟩
theorem aqr {α:Type}{enc:α->Value}{h1:∀x,(enc x).oneCell'=true}{e:Nat}{w:World}{base:Nat}{ok:Nat->Prop}{v:Value}{xs:List α}(h:(scalar enc h1).R e w base ok v xs):w.ownsRow base e 1 v xs.length (kL enc xs):=by
 obtain⟨_,inner,ho,hr⟩:=h
 have:inner=kL enc xs:=by
  apply List.ext_getElem?
  intro j
  rcases Nat.lt_or_ge j xs.length with hj|hj
  ·have h2:=hr.2 j _ (List.getElem?_eq_getElem hj)
   have hl:j<inner.length:=by have:=hr.1;simp[scalar]at this;omega
   have h3:(inner.drop (j * 1)).take 1=[enc xs[j]]:=h2
   rw[Nat.mul_one,List.drop_eq_getElem_cons hl]at h3
   have h4:inner[j]=enc xs[j]:=by
    have h5:=congrArg List.head? h3
    rw[List.take_succ_cons]at h5
    exact Option.some.inj h5
   rw[List.getElem?_eq_getElem hl,h4]
   simp[kL,List.getElem?_eq_getElem hj]
  ·have h3:inner.length=xs.length:=by have:=hr.1;simp[scalar]at this;omega
   rw[List.getElem?_eq_none (by omega),List.getElem?_eq_none (by rw[Zi];omega)]
 rw[<- this]
 exact ho
theorem ae3 {α:Type}{enc:α->Value}{d:α}{h1:∀x,(enc x).oneCell'=true}{w:World}{A:Option Addr}{n:Nat}{xs:List α}(h:BI enc d w A n xs):(scalar enc h1).C w A n xs:=by
 refine⟨h.1,h.2.1,fun hn=>?_⟩
 obtain⟨ad,e,hc⟩:=h.2.2 hn
 refine⟨ad,e,fun j p hj=>⟨[enc p],rfl,rfl,fun i u hu=>?_⟩⟩
 obtain⟨hl,hp⟩:=List.getElem?_eq_some_iff.1 hj
 have h2:=hc j (by have:=h.1;omega)
 rw[List.getD_eq_getElem?_getD,hj]at h2
 cases i with
 | zero=>
  have:enc p=u:=by simpa using hu
  subst this
  simpa[scalar]using h2
 | succ i=>simp at hu
theorem UZ {α:Type}{enc:α->Value}{d:α}{h1:∀x,(enc x).oneCell'=true}{w:World}{A:Option Addr}{n:Nat}{xs:List α}(h:(scalar enc h1).C w A n xs):BI enc d w A n xs:=by
 refine⟨h.1,h.2.1,fun hn=>?_⟩
 obtain⟨ad,e,hc⟩:=h.2.2 hn
 refine⟨ad,e,fun j hj=>?_⟩
 have hl:j<xs.length:=by have:=h.1;omega
 obtain⟨c,_,hK,hcell⟩:=hc j _ (List.getElem?_eq_getElem hl)
 have hK':c=[enc xs[j]]:=hK
 subst hK'
 have:=hcell 0 _ rfl
 simpa[scalar,List.getD_eq_getElem?_getD,List.getElem?_eq_getElem hl]using this
end Kd
namespace Kd
theorem ais {α:Type}{d:Kd α}{e base:Nat}{ok:Nat->Prop}{w:World}{v:Value}{xs:List α}(h:d.R e w base ok v xs):(slice e d).M w base ok xs [v]:=⟨v,rfl,h⟩
end Kd
namespace Kd
section
variable {α β:Type}{d:Kd α}{d':Kd β}{e e':Nat}{w w1 W:World}{base b b':Nat}{ok ok' aqg aqf:Nat->Prop}{v u:Value}{xs:List α}{ys:List β}
theorem jX (h:d.R e w base ok v xs)(m:Nat):d.R e (w.drewN m) base ok v xs:=oG h (eG (Below.refl _ _) m)
theorem yY (d:Kd α)(w:World):d.C w none ([]:List α).length []:=⟨rfl,by simp,fun h=>absurd h (Nat.lt_irrefl 0)⟩
theorem OH {A:Option Addr}{n:Nat}(h:d.C w A n xs):n<=9223372036854775807:=h.2.1
theorem jY {A:Option Addr}{n c:Nat}(h:d.R e w base ok (.slice A n c) xs):n=xs.length/\n<=c/\d.C w A xs.length xs:=by
 obtain⟨A',c',he,hl,hr⟩:=QX h
 injection he with h1 h2 h3
 subst h1
 exact⟨h2,by omega,hr⟩
theorem aiY (h:d.R e w base ok v xs):∀k,v.ownBlock=some k->k<w.heap.size:=by
 obtain⟨inner,ho⟩:=LH h
 exact acT ho
theorem LD (h:d.R e w base ok v xs):∀k,v.ownBlock=some k->base<=k:=by
 obtain⟨inner,ho⟩:=LH h
 exact CU ho
theorem aiW (h:d.R e w base ok v xs)(hp:0<xs.length):∃g cap,v= .slice (some ⟨g,0,none⟩) xs.length cap/\base<=g/\g<w.heap.size/\∃cells,w.heap[g]?=some (.cells cells e (0,0)):=by
 obtain⟨inner,ho⟩:=LH h
 obtain⟨g,cap,he,hb,hl⟩:=ho.form hp
 obtain⟨cells,hc⟩:=UE ho g (by rw[he];simp[Value.ownBlock])
 exact⟨g,cap,he,hb,hl,cells,hc⟩
end
section
variable {w W:World}{A:Option Addr}{n:Nat}
theorem uU {k:IntKind}{xs:List Int}(h:(Kd.int k).C w A n xs)(i:Int)(h0:0<=i)(h1:i<n):∃ad,A=some ad/\w.cell? (ad.add i.toNat)=some (.int k (rd xs i)):=
 BI.at_ (UZ (enc:=Value.int k) (d:=(0:Int)) (h1:=fun _=>rfl) h) i h0 h1
theorem EM {xs:List ByteArray}(h:Kd.string.C w A n xs)(i:Int)(h0:0<=i)(h1:i<n):∃ad,A=some ad/\w.cell? (ad.add i.toNat)=some (.string (gg ByteArray.empty xs i)):=
 BI.at_ (UZ (enc:=Value.string) (d:=ByteArray.empty) (h1:=fun _=>rfl) h) i h0 h1
variable {α:Type}{enc:α->Value}{h1:∀x,(enc x).oneCell'=true}{e base g cap:Nat}{ok:Nat->Prop}{xs:List α}
end
section
variable {P:Program}{ops:Array Oper}{rest:List Oper}{o:Oper}{a:Act}{Q:Exit->Act->World->Prop}
theorem Zq {W w1:World}{v:Value}(hgd:o.guard=none)(hrun:(execOp a.eval o).run P W= .ok (.value v) w1)(h:wpList P ops Q rest (a.put o.dst v) w1):wpList P ops Q (o::rest) a W:=by
 refine wpList_plain hgd fun K hK=>?_
 unfold Oper.wp
 rw[hrun]
 exact hK _ _ h
variable {α:Type}
theorem H9 (d:Kd α){w0 W:World}(base e:Nat)(hgd:o.guard=none){N:Tmp}(aju:o.dst=some N){xs:List α}{inner:List Value}{ok okp:Nat->Prop}
  (hrun:(execOp a.eval o).run P W= .ok (.value (.slice (some ⟨W.heap.size,0,none⟩) xs.length xs.length)) (W.alloc (.cells inner.toArray e)))
  (yx:bU (d.M W base okp) d.sz xs inner) (bX:∀k,okp k->ok k) (iu:ok W.heap.size) (ak:Below base w0 W) (hbase:base<=W.heap.size) (hm:xs.length<=9223372036854775807)
  (h:∀v1 w1,d.R e w1 base ok v1 xs->Below base w0 w1->W.grownBy w1 none->(∃b,v1.ownBlock=some b/\W.heap.size<=b)->wpList P ops Q rest (a.put o.dst v1) w1):wpList P ops Q (o::rest) a W:=by
 refine Zq hgd hrun (h _ _ ⟨fun k hk=>?_,inner,?_,?_⟩ (ak.alloc hbase _) (World.grownBy_alloc W _ none) ⟨W.heap.size,by simp[Value.ownBlock],Nat.le_refl _⟩)
 ·have:W.heap.size=k:=by simpa[Value.ownBlock]using hk
  subst this
  exact iu
 ·have h2:=World.ownsRow_lit (base:=base) (e:=e) (size:=d.sz) W inner.toArray xs.length hbase (by simpa[maxLen]using hm) (by simpa using yx.1)
  simpa using h2
 ·refine yx.k9 (fun p c hp=>d.lB (fun k hk=>⟨bX k hk.1,fun he=>?_⟩) (air (d.pq hp) (ax (Below.refl _ _) _)))
  have h3:k=W.heap.size:=by simpa[Value.ownBlock]using he
  have:=hk.2.2.1
  omega
theorem aq9 {α:Type}{R:α->List Value->Prop}{z:Value}{size:Nat}{z0:α}(hz:z.cells.size=size)(hs:0<size)(h0:R z0 z.cells.toList)(m:Nat):bU R size (List.replicate m z0) (madeCells z.cells (m * size)).toList:=by
 refine⟨by simp[size_madeCells],fun j p hj=>?_⟩
 obtain⟨gQ,hp⟩:=List.getElem?_eq_some_iff.1 hj
 have Tj:j<m:=by simpa using gQ
 have oV:z0=p:=by simpa using hp
 subst oV
 have hle:j * size+size<=m * size:=by rw[<- Nat.succ_mul];exact Nat.mul_le_mul_right _ Tj
 have:((madeCells z.cells (m * size)).toList.drop (j * size)).take size=z.cells.toList:=by
  apply List.ext_getElem
  ·simp[size_madeCells,hz]
   omega
  ·intro i h1 h2
   have hi:i<size:=by rw[Array.length_toList,hz]at h2;exact h2
   have anN:(j * size+i) % size=i:=by
    rw[Nat.mul_comm,Nat.mul_add_mod]
    exact Nat.mod_eq_of_lt hi
   simp[madeCells,hz,anN]
   rw[getElem!_pos z.cells i (by omega)]
 rw[this]
 exact h0
end
end Kd
theorem aqu {w:World}{base n m c size:Nat}{e:TypeId}{A:Option Addr}{xs:List Value}(h:w.ownsRow base e size (.slice A n c) n xs)(hm:m<=n):w.ownsRow base e size (.slice A m c) m (xs.take (m * size)):=by
 obtain⟨h1,h2⟩:=h
 refine⟨by rw[List.length_take,h1];exact Nat.min_eq_left (Nat.mul_le_mul_right _ hm),?_⟩
 rcases h2 with⟨he,h0⟩|⟨g,cap,cur,he,hb,hh,nS,hcm,hcs,ht⟩
 ·injection he with ha _ hc
  subst ha;subst hc
  exact .inl ⟨by rw[show m=0 by omega],by omega⟩
 ·injection he with ha _ hc
  subst ha;subst hc
  refine .inr ⟨g,c,cur,rfl,hb,hh,by omega,hcm,hcs,?_⟩
  rw[<- ht,List.take_take,Nat.min_eq_left (Nat.mul_le_mul_right _ hm)]
section
variable {w w1:World}{base n size:Nat}{e:TypeId}{v:Value}{xs:List Value}
theorem ajI (g o j:Nat):(⟨g,o,none⟩:Addr).add j=⟨g,o+j,none⟩:=by unfold Addr.add;split<;>simp_all
theorem NZ {g:Nat}:∀(vs:List Value) (o:Nat) {w:World} (k:Nat),k≠g->(w.setCells g o vs).heap[k]?=w.heap[k]?
 | [],_,_,_,_=>rfl
 | v::r,o,w,k,hk=>by
  rw[World.setCells,NZ r (o+1) k hk]
  exact Below.heap_setCell w ⟨g,o,none⟩ v k hk
theorem N1 (g:Nat):∀(vs:List Value) (o:Nat) (w:World),(w.setCells g o vs).os=w.os/\(w.setCells g o vs).tape=w.tape/\(w.setCells g o vs).output=w.output/\(w.setCells g o vs).heap.size=w.heap.size
 | [],_,_=>⟨rfl,rfl,rfl,rfl⟩
 | v::r,o,w=>by
  obtain⟨h1,h2,h3,h4⟩:=N1 g r (o+1) (w.setCell ⟨g,o,none⟩ v)
  rw[World.setCells]
  exact⟨h1,h2,h3,by rw[h4];simp[World.setCell]⟩
theorem N0 {g:Nat}{e:TypeId}:∀(vs:List Value) (o:Nat) (w:World) (cur:Array Value),w.heap[g]?=some (.cells cur e (0,0))->o+vs.length<=cur.size->
  ∃cur',(w.setCells g o vs).heap[g]?=some (.cells cur' e (0,0))/\cur'.size=cur.size/\cur'.toList=cur.toList.take o++vs++cur.toList.drop (o+vs.length)
 | [],o,w,cur,h,_=>⟨cur,h,rfl,by simp⟩
 | v::r,o,w,cur,h,hl=>by
  have h2:=uV h o v
  simp only[List.length_cons]at hl
  obtain⟨cur',h3,h4,h5⟩:=N0 r (o+1) (w.setCell ⟨g,o,none⟩ v) _ h2 (by simp;omega)
  refine⟨cur',h3,by rw[h4];simp,?_⟩
  rw[h5,Array.toList_setIfInBounds]
  have ho:o<cur.toList.length:=by rw[Array.length_toList];omega
  rw[List.take_set,List.drop_set_of_lt (by omega)]
  simp only[List.length_cons]
  rw[show o+1+r.length=o+(r.length+1) by omega]
  congr 1
  rw[List.take_succ_eq_append_getElem ho,List.set_append_right _ _ (by rw[List.length_take];omega)]
  have M0:o<cur.size:=by omega
  simp[Nat.min_eq_left (Nat.le_of_lt M0)]
end
namespace Kd
theorem adf {α:Type}{R:α->List Value->Prop}{size m:Nat}{ps:List α}{cs:List Value}(h:bU R size ps cs)(hm:m<=ps.length):bU R size (ps.take m) (cs.take (m * size)):=by
 refine⟨by rw[List.length_take,List.length_take,h.1,Nat.min_eq_left hm,Nat.min_eq_left (Nat.mul_le_mul_right _ hm)],fun j p hj=>?_⟩
 rw[List.getElem?_take]at hj
 split at hj
 ·rename_i Tj
  have:=h.2 j p hj
  have hle:j * size+size<=m * size:=by rw[<- Nat.succ_mul];exact Nat.mul_le_mul_right _ Tj
  rw[List.drop_take,List.take_take,Nat.min_eq_left (by omega)]
  exact this
 ·cases hj
theorem aq8 {α:Type}{R:α->List Value->Prop}{size m:Nat}{ps:List α}{cs:List Value}(h:bU R size ps cs):bU R size (ps.drop m) (cs.drop (m * size)):=by
 refine⟨by rw[List.length_drop,List.length_drop,h.1,Nat.sub_mul],fun j p hj=>?_⟩
 rw[List.getElem?_drop]at hj
 have:=h.2 (m+j) p hj
 rw[List.drop_drop,<- Nat.add_mul]
 exact this
theorem ai1 {α:Type}{d:Kd α}{e m n c:Nat}{w:World}{base:Nat}{ok:Nat->Prop}{A:Option Addr}{xs:List α}(h:d.R e w base ok (.slice A n c) xs)(hm:m<=xs.length):d.R e w base ok (.slice A m c) (xs.take m):=by
 obtain⟨h0,inner,ho,hr⟩:=h
 have hn:n=xs.length:=by
  obtain⟨A',c',he⟩:=aqt ho
  injection he
 subst hn
 have hb:∀x y:Nat,(Value.slice A x c).ownBlock=(Value.slice A y c).ownBlock:=by
  intro x y
  cases A<;>rfl
 refine⟨fun k hk=>h0 k (by rw[hb _ m];exact hk),inner.take (m * d.sz),?_,?_⟩
 ·rw[List.length_take,Nat.min_eq_left hm]
  exact aqu ho hm
 ·rw[hb m xs.length]
  exact adf hr hm
end Kd
namespace Kd
section
variable {α:Type}{d:Kd α}{e e':Nat}{w w1 W:World}{base:Nat}{ok:Nat->Prop}{u v:Value}{xs:List α}
theorem ai3 (h:d.R e w base ok v xs):∀k,v.ownBlock=some k->∃cells,w.heap[k]?=some (.cells cells e (0,0)):=by
 obtain⟨inner,ho⟩:=LH h
 exact fun k hk=>UE ho k hk
end
end Kd
theorem alB {n c g:Nat}{A:Option Addr}(hne:some g≠(Value.slice A n c).ownBlock):∀ad,A=some ad->0<n->ad.block≠g:=by
 rintro ad rfl _ rfl
 exact hne (by simp[Value.ownBlock])
theorem JZ {α:Type}(a seg:List α)(o:Nat)(h:o+seg.length<=a.length)(q:Nat):
  (a.take o++seg++a.drop (o+seg.length))[q]?=if q<o then a[q]? else if q<o+seg.length then seg[q-o]? else a[q]?:=by
 have hl:(a.take o).length=o:=by rw[List.length_take];omega
 rw[List.append_assoc]
 by_cases h1:q<o
 ·rw[if_pos h1,List.getElem?_append_left (by omega),List.getElem?_take,if_pos h1]
 ·rw[if_neg h1,List.getElem?_append_right (by omega),hl]
  by_cases h2:q<o+seg.length
  ·rw[if_pos h2,List.getElem?_append_left (by omega)]
  ·rw[if_neg h2,List.getElem?_append_right (by omega),List.getElem?_drop]
   congr 1
   omega
namespace Kd
section
variable {α:Type}{d:Kd α}{e base g n cap:Nat}{ok okp:Nat->Prop}{W:World}{xs:List α}
theorem ai0 (h:d.R e W base ok (.slice (some ⟨g,0,none⟩) n cap) xs)(i:Int)(h0:0<=i)(h1:i<n){c seg:List Value}{j:Nat}(gN:c.length=d.sz)(hcc:∀j u,c[j]?=some u->W.cell? ⟨g,i.toNat * d.sz+j,none⟩=some u)
  (hj:j+seg.length<=d.sz) {x':α} (hM:d.M W base okp x' (c.take j++seg++c.drop (j+seg.length))) (jF:∀k,okp k->ok k/\k≠g):
  d.R e (W.setCells g (i.toNat * d.sz+j) seg) base ok (.slice (some ⟨g,0,none⟩) n cap) (xs.set i.toNat x')/\W.grownBy (W.setCells g (i.toNat * d.sz+j) seg) (some g):=by
 obtain⟨hn,nS,_⟩:=jY h
 obtain⟨bX,inner,ho,hr⟩:=h
 have mJ:i.toNat<xs.length:=by omega
 have abE:i.toNat * d.sz+d.sz<=inner.length:=by rw[hr.1,<- Nat.succ_mul];exact Nat.mul_le_mul_right _ mJ
 have gO:inner.length=n * d.sz:=by rw[hr.1,hn]
 obtain⟨aya,aoa⟩:=ho
 rcases aoa with⟨hv,_⟩|⟨g',cap',cur,hv,hb,hh,anZ,hcm,hcs,ht⟩
 ·cases hv
 injection hv with ha _ hc
 injection ha with ha
 injection ha with hg
 subst hg;subst hc
 have zQ:i.toNat * d.sz+j+seg.length<=cur.size:=by
  have:n * d.sz<=cap * d.sz:=Nat.mul_le_mul_right _ nS
  omega
 obtain⟨cur',h3,h4,h5⟩:=N0 seg (i.toNat * d.sz+j) W cur hh zQ
 obtain⟨s1,s2,kD,sS⟩:=N1 g seg (i.toNat * d.sz+j) W
 have Fu:∀k,k≠g->(W.setCells g (i.toNat * d.sz+j) seg).heap[k]?=W.heap[k]?:=fun k hk=>NZ seg _ k hk
 have amp:∀q,q<d.sz->c[q]?=inner[i.toNat * d.sz+q]?:=by
  intro q hq
  have hq':q<c.length:=by omega
  have h6:=hcc q _ (List.getElem?_eq_getElem hq')
  rw[cell_of_row W g _ cur e (0,0) hh]at h6
  rw[List.getElem?_eq_getElem hq',<- h6,<- ht,List.getElem?_take,if_pos (by rw[<- hn];omega),Array.getElem?_toList]
 refine⟨⟨bX,inner.take (i.toNat * d.sz+j)++seg++inner.drop (i.toNat * d.sz+j+seg.length),⟨?_,.inr ⟨g,cap,cur',by rw[List.length_set,hn],hb,h3,by rw[List.length_set,<- hn];exact nS,hcm,by rw[h4,hcs],?_⟩⟩,?_⟩,
  ⟨s1,s2,kD,by rw[sS];exact Nat.le_refl _,fun k _ hk=>Fu k (fun he=>hk (by rw[he]))⟩⟩
 ·rw[List.length_set]
  simp only[List.length_append,List.length_take,List.length_drop]
  rw[hr.1]at abE ⊢
  omega
 ·rw[List.length_set,<- hn]
  apply List.ext_getElem?
  intro q
  rw[List.getElem?_take,h5]
  rw[JZ cur.toList seg (i.toNat * d.sz+j) (by rw[Array.length_toList];omega) q,JZ inner seg (i.toNat * d.sz+j) (by omega) q]
  have oO:∀q,q<n * d.sz->cur.toList[q]?=inner[q]?:=by
   intro q hq
   rw[<- ht,List.getElem?_take,if_pos (by rw[<- hn];exact hq)]
  by_cases hq:q<n * d.sz
  ·rw[if_pos hq,oO q hq]
  ·rw[if_neg hq,if_neg (by omega),if_neg (by omega),List.getElem?_eq_none (by omega)]
 ·refine⟨?_,fun m p hm=>?_⟩
  ·rw[List.length_set]
   simp only[List.length_append,List.length_take,List.length_drop]
   rw[hr.1]at abE ⊢
   omega
  ·have anM:m<xs.length:=by
    have:=(List.getElem?_eq_some_iff.1 hm).1
    rwa[List.length_set]at this
   have axh:m * d.sz+d.sz<=inner.length:=by rw[hr.1,<- Nat.succ_mul];exact Nat.mul_le_mul_right _ anM
   have hgo:some g=(Value.slice (some ⟨g,0,none⟩) n cap).ownBlock:=by simp[Value.ownBlock]
   by_cases abf:m=i.toNat
   ·subst abf
    rw[List.getElem?_set_self (by omega)]at hm
    injection hm with hm
    subst hm
    have qx:((inner.take (i.toNat * d.sz+j)++seg++inner.drop (i.toNat * d.sz+j+seg.length)).drop (i.toNat * d.sz)).take d.sz=c.take j++seg++c.drop (j+seg.length):=by
     apply List.ext_getElem?
     intro q
     rw[List.getElem?_take,List.getElem?_drop,JZ inner seg _ (by omega),JZ c seg j (by omega) q]
     by_cases hq:q<d.sz
     ·rw[if_pos hq,amp q hq]
      by_cases TG:q<j
      ·rw[if_pos (by omega),if_pos TG]
      ·rw[if_neg (by omega),if_neg TG]
       by_cases TH:q<j+seg.length
       ·rw[if_pos (by omega),if_pos TH]
        congr 1
        omega
       ·rw[if_neg (by omega),if_neg TH]
     ·rw[if_neg hq,if_neg (by omega),if_neg (by omega),List.getElem?_eq_none (by omega)]
    rw[qx]
    refine d.lB (fun k hk=>?_) (d.oD (w1:=W.setCells g (i.toNat * d.sz+j) seg) (fun k hk=>Fu k (jF k hk).2) hM)
    exact⟨(jF k hk).1,fun he=>(jF k hk).2 (by rw[<- hgo]at he;injection he)⟩
   ·rw[List.getElem?_set_ne (by omega)]at hm
    have hold:=hr.2 m p hm
    have qx:((inner.take (i.toNat * d.sz+j)++seg++inner.drop (i.toNat * d.sz+j+seg.length)).drop (m * d.sz)).take d.sz=(inner.drop (m * d.sz)).take d.sz:=by
     apply List.ext_getElem?
     intro q
     rw[List.getElem?_take,List.getElem?_take,List.getElem?_drop,List.getElem?_drop,JZ inner seg _ (by omega)]
     by_cases hq:q<d.sz
     ·rw[if_pos hq,if_pos hq]
      rcases Nat.lt_or_gt_of_ne abf with hlt|wz
      ·have:m * d.sz+d.sz<=i.toNat * d.sz:=by rw[<- Nat.succ_mul];exact Nat.mul_le_mul_right _ hlt
       rw[if_pos (by omega)]
      ·have:i.toNat * d.sz+d.sz<=m * d.sz:=by rw[<- Nat.succ_mul];exact Nat.mul_le_mul_right _ wz
       rw[if_neg (by omega),if_neg (by omega)]
     ·rw[if_neg hq,if_neg hq]
    rw[qx]
    refine d.oD (fun k hk=>Fu k (fun he=>hk.2 (by rw[he];exact hgo))) hold
end
end Kd
namespace Kd
theorem NR {α:Type}{R:α->List Value->Prop}{size:Nat}{ps ac9:List α}{cs ds:List Value}(h:bU R size ps cs)(h':bU R size ac9 ds):bU R size (ps++ac9) (cs++ds):=by
 refine⟨by rw[List.length_append,List.length_append,h.1,h'.1,Nat.add_mul],fun j p hj=>?_⟩
 rcases Nat.lt_or_ge j ps.length with hlt|zS
 ·rw[List.getElem?_append_left hlt]at hj
  have hle:j * size+size<=cs.length:=by rw[h.1,<- Nat.succ_mul];exact Nat.mul_le_mul_right _ hlt
  rw[List.drop_append_of_le_length (by omega),List.take_append_of_le_length (by rw[List.length_drop];omega)]
  exact h.2 j p hj
 ·rw[List.getElem?_append_right zS]at hj
  have h2:=h'.2 (j-ps.length) p hj
  have hle:ps.length * size<=j * size:=Nat.mul_le_mul_right _ zS
  rw[List.drop_append,List.drop_eq_nil_of_le (by rw[h.1];exact hle),List.nil_append,h.1,<- Nat.sub_mul]
  exact h2
section
variable {P:Program}{ops:Array Oper}{rest:List Oper}{o:Oper}{a:Act}{Q:Exit->Act->World->Prop}{α:Type}
theorem aiQ (d:Kd α){Rr:α->List Value->Prop}{w0 W:World}(base:Nat)(hgd:o.guard=none)(s x:Operand)(t e:TypeId)(z:Value)(bytes:Nat)
  (ho:o.op= .call { callee:= .builtin .append,args:=#[s,x],argTypes:=#[t,t]})
  (ht:P.underlying t=some (.slice e)) (gP:(P.info? e).map (fun i=>(i.zero,i.size,i.bytes))=some (some z,d.sz,bytes)) (hz:z.cells.size=d.sz) (hs0:0<d.sz) (hb0:0<bytes)
  (v:Value) (xs ys:List α) (A:Option Addr) (m c:Nat) (ok okp:Nat->Prop) (hs:a.eval s=v) (hx:a.eval x= .slice A m c)
  (HO:d.R e W base ok v xs) (bT:lC Rr d.sz W A m ys) (SD:∀x cs,Rr x cs->d.M W base okp x cs) (jF:∀k,okp k->ok k/\some k≠v.ownBlock) (iu:∀k,W.heap.size<=k->ok k)
  (ak:Below base w0 W) (hbase:base<=W.heap.size) (hl:(xs.length+m) * bytes<=140737488355328)
  (h:∀v1 w1,d.R e w1 base ok v1 (xs++ys)->Below base w0 w1->W.grownBy w1 v.ownBlock->(v1.ownBlock=v.ownBlock\/∃b,v1.ownBlock=some b/\W.heap.size<=b)->wpList P ops Q rest (a.put o.dst v1) w1):
  wpList P ops Q (o::rest) a W:=by
 obtain⟨i0,hi,hzz⟩:=Option.map_eq_some_iff.1 gP
 simp only[Prod.mk.injEq]at hzz
 obtain⟨hz0,hz1,hz2⟩:=hzz
 have hm:ys.length=m:=bT.1
 have hlen:xs.length+m<=140737488355328:=Nat.le_trans (Nat.le_mul_of_pos_right _ hb0) hl
 obtain⟨bX,inner,hown,hr⟩:=HO
 have hrun:∃v1 w1,(Builtin.append_ #[t,t] o.type #[v,.slice A m c]).run P W= .ok v1 w1/\d.R e w1 base ok v1 (xs++ys)/\W.grownBy w1 v.ownBlock/\(v1.ownBlock=v.ownBlock\/∃b,v1.ownBlock=some b/\W.heap.size<=b):=by
  rcases A with _|ad
  ·have h0:m=0:=by
    rcases Nat.eq_zero_or_pos m with h0|h0
    ·exact h0
    ·obtain⟨ad,h,_⟩:=bT.2.2 h0
     cases h
   subst h0
   obtain rfl:ys=[]:=List.eq_nil_of_length_eq_zero hm
   refine⟨v,W,?_,by rw[List.append_nil];exact⟨bX,inner,hown,hr⟩,World.grownBy.refl W _,.inl rfl⟩
   rcases hown.2 with⟨rfl,hn⟩|⟨g,cap,cur,rfl,_,_,nS,_⟩
   ·simp[Builtin.append_,run_underlying ht,sizeOf,typeInfo,hi,Builtin.lenOf,Builtin.firstCells]
   ·simp[Builtin.append_,run_underlying ht,sizeOf,typeInfo,hi,Builtin.lenOf,Builtin.firstCells,nS,storeCells]
  ·obtain⟨news,Cg,nS⟩:=lC.Nj bT
   have tI:bU (d.M W base okp) d.sz ys news:=Cg.k9 (fun p c hp=>SD p c hp)
   have sH:∀u∈news,u.oneCell'=true:=by
    intro u hu
    obtain⟨q,hq,rfl⟩:=List.mem_iff_getElem.1 hu
    have Ch:q / d.sz<ys.length:=by
     rw[Nat.div_lt_iff_lt_mul hs0]
     rw[<- tI.1]
     exact hq
    have hc:=tI.2 (q / d.sz) _ (List.getElem?_eq_getElem Ch)
    refine d.lA (d.lz hc) _ ?_
    rw[List.mem_iff_getElem?]
    refine⟨q % d.sz,?_⟩
    rw[List.getElem?_take,if_pos (Nat.mod_lt _ hs0),List.getElem?_drop,Nat.mul_comm,Nat.div_add_mod,List.getElem?_eq_getElem hq]
   obtain⟨v1,w1,hrun,h2,hg,_,hat⟩:=run_append_own_at (P:=P) W base t o.type e i0 z d.sz bytes ht hi hz0 hz1 hz2 hz hs0 v xs.length inner hown ad m c news (by rw[tI.1,hm]) nS sH (by simp only[maxLen];omega) hl hbase
   have hat':v1.ownBlock=v.ownBlock\/∃b,v1.ownBlock=some b/\W.heap.size<=b:=by
    rcases hat with hat|hat
    ·exact .inl hat
    ·exact .inr ⟨_,hat,Nat.le_refl _⟩
   have hne:∀k,some k≠v.ownBlock->k<W.heap.size->some k≠v1.ownBlock:=by
    intro k hk hlt
    rcases hat' with hat|⟨b,hb,hle⟩
    ·rw[hat];exact hk
    ·rw[hb]
     intro he
     injection he with he
     omega
   have step:∀{q:α} {c:List Value} {o:Nat->Prop},d.M W base o q c->(∀k,o k->ok k/\some k≠v.ownBlock)->d.M w1 base (fun k=>ok k/\some k≠v1.ownBlock) q c:=by
    intro q c o hq ho
    have h1:=d.oD (w1:=w1) (fun k hk=>hg.block k hk.2.2.1 (ho k hk.1).2) (d.pq hq)
    exact d.lB (fun k hk=>⟨(ho k hk.1).1,hne k (ho k hk.1).2 hk.2.2.1⟩) h1
   refine⟨v1,w1,hrun,⟨fun k hk=>?_,inner++news,by rw[List.length_append,hm];exact h2,NR (hr.k9 (fun _ _ hq=>step hq (fun _ hk=>hk))) (tI.k9 (fun _ _ hq=>step hq jF))⟩,hg,hat'⟩
   rcases hat' with hat|⟨b,hb,hle⟩
   ·exact bX k (hat▸hk)
   ·rw[hb]at hk
    injection hk with hk
    exact iu k (by omega)
 obtain⟨v1,w1,hr1,h1,hg,hat⟩:=hrun
 refine wpList_plain hgd fun K hK=>?_
 unfold Oper.wp execOp
 simp only[ho,resolve,invoke,builtin,Sem.run_bind,Sem.run_pure,Result.andThen_ok,List.map_toArray,List.map_cons,List.map_nil,hs,hx,hr1]
 exact hK _ _ (h v1 w1 h1 (ak.grown hg hbase (CU hown)) hg hat)
end
end Kd
theorem add_add (a:Addr)(i j:Nat):(a.add i).add j=a.add (i+j):=by
 unfold Addr.add
 by_cases h1:i=0<;>by_cases h2:j=0<;>simp[h1,h2,Nat.add_assoc]
namespace Kd
section
variable {α:Type}{k:Kd α}{w:World}{A:Option Addr}{xs:List α}{m c:Nat}
theorem V1 (h:k.C w A xs.length xs)(hm:m<=xs.length):k.C w A (xs.take m).length (xs.take m):=by
 have hl:(xs.take m).length=m:=by rw[List.length_take];omega
 refine⟨rfl,by rw[hl];have:=h.2.1;omega,fun hp=>?_⟩
 obtain⟨ad,e,hc⟩:=h.2.2 (by omega)
 refine⟨ad,e,fun j p hj=>hc j p ?_⟩
 rw[List.getElem?_take]at hj
 split at hj
 ·exact hj
 ·cases hj
end
end Kd
theorem EN {w W:World}(h:Below w.heap.size w W):w.heap.size<=W.heap.size:=h.size
theorem au {w W w2:World}(h:Below w.heap.size w W)(k:Below W.heap.size W w2):Below w.heap.size w w2:=cm h h.size k
theorem xR.nil (W:World)(k:IntKind):xR W k none ([]:List Int).length []:=⟨rfl,by simp,fun h=>absurd h (Nat.lt_irrefl 0)⟩
theorem xR.ofRow {k:IntKind}{w:World}{a:Option Addr}{len cap:Nat}{zs:List Int}(h:(a=none/\len=0/\cap=0/\zs=[])\/∃x,a=some x/\len<=cap/\cap<=maxLen/\zs.length=cap/\(∀i,i<zs.length->w.cell? (x.add i)=some (.int k (zs.getD i 0)))/\∀n∈zs,(Lit.int k n).wf=true):
  ∃l:List Int,len=l.length/\xR w k a l.length l/\l.length<=maxLen/\∀x∈l,(Lit.int k x).wf=true:=by
 rcases h with⟨rfl,rfl,rfl,rfl⟩|⟨x,rfl,hl,hm,hz,hc,hw⟩
 ·exact⟨[],rfl,xR.nil _ _,Nat.zero_le _,fun x hx=>by simp at hx⟩
 ·have e:(zs.take len).length=len:=by simp;omega
  have MT:len<=maxLen:=Nat.le_trans hl hm
  refine⟨zs.take len,e.symm,⟨rfl,by rw[e];simpa[maxLen]using MT,fun _=>⟨x,rfl,fun j hj=>?_⟩⟩,by rw[e];exact MT,fun y hy=>hw y (List.mem_of_mem_take hy)⟩
  rw[e]at hj
  rw[hc j (by omega)]
  simp[List.getD,List.getElem?_take,hj]
theorem vZ {w W:World}{g j:Nat}{v:Value}(h:Below w.heap.size w W)(hg:w.heap.size<=g):Below w.heap.size w (W.setCell ⟨g,j,none⟩ v):=h.setCell hg _
theorem mV {w W:World}{g:Nat}{row:Option Nat}(h:bF w W g row)(m:Nat):bF w (W.drewN m) g row:=h
theorem ab4 {w W:World}{g:Nat}(h:bF w W g none){a:Addr}{v:Value}(hc:w.cell? a=some v)(hne:a.block≠g):W.cell? a=some v:=by
 have:=h.2 a.block (World.block_lt_of_cell? w a hc) hne (by simp)
 simpa[World.cell?,this]using hc
theorem add_block (a:Addr)(i:Nat):(a.add i).block=a.block:=by unfold Addr.add;split<;>rfl
theorem apl {w W:World}{g:Nat}{row:Option Nat}(h:bF w W g row):w.heap.size<=W.heap.size:=h.1
theorem cell_far {W:World}{p a:Addr}(h:a.block≠p.block)(u:Value):(W.setCell p u).cell? a=W.cell? a:=by
 have:=Below.heap_setCell W p u a.block h
 simp[World.cell?,this]
theorem a6 {w:World}{g:Nat}{t:TypeId}{cs cs':Array Value}(h:w.heap[g]?=some (.cells cs t (0,0)))(i:Nat)(u:Value)(e:cs.setIfInBounds i u=cs'):(w.setCell ⟨g,i,none⟩ u).heap[g]?=some (.cells cs' t (0,0)):=e▸uV h i u
theorem Nq {w W:World}{g:Nat}{row:Option Nat}(h:bF w W g row){p:Addr}(hp:w.heap.size<=p.block)(u:Value):bF w (W.setCell p u) g row:=
 ⟨by simpa[World.setCell]using h.1,fun i hi hg hr=>(Below.heap_setCell W p u i (by omega)).trans (h.2 i hi hg hr)⟩
theorem xR.aqb {k:IntKind}{w:World}{a:Option Addr}{len cap:Nat}{zs:List Int}(h:(a=none/\len=0/\cap=0/\zs=[])\/∃x,a=some x/\len<=cap/\cap<=maxLen/\zs.length=cap/\(∀i,i<zs.length->w.cell? (x.add i)=some (.int k (zs.getD i 0)))/\∀n∈zs,(Lit.int k n).wf=true):
  ∃l:List Int,len=l.length/\xR w k a l.length l/\l.length<=maxLen/\(∀x∈l,(Lit.int k x).wf=true)/\l.length<=cap:=by
 have hl:len<=cap:=by
  rcases h with⟨_,rfl,rfl,_⟩|⟨_,_,h,_⟩
  ·exact Nat.le_refl _
  ·exact h
 obtain⟨l,e,h1,h2,h3⟩:=xR.ofRow h
 exact⟨l,e,h1,h2,h3,e▸hl⟩
section
variable {P:Program}{ops:Array Oper}{rest:List Oper}{o:Oper}{a:Act}{Q:Exit->Act->World->Prop}
theorem dD {W:World}(hgd:o.guard=none){N:Tmp}(aju:o.dst=some N){cs:Array Value}{t:TypeId}
  (hrun:(execOp a.eval o).run P W= .ok (.value (.pointer (some ⟨W.heap.size,0,none⟩))) (W.alloc (.cells cs t (0,0))))
  (h:∀g,g=W.heap.size->∀w1,w1.heap[g]?=some (.cells cs t (0,0))->Below W.heap.size W w1->wpList P ops Q rest (a.put o.dst (.pointer (some ⟨g,0,none⟩))) w1):wpList P ops Q (o::rest) a W:=
 Kd.Zq hgd hrun (h _ rfl _ (a8 W _) (ax (Below.refl _ _) _))
theorem Kd.aiP {α:Type}(enc:α->Value)(d:α){h1:∀x:α,(enc x).oneCell'=true}{w0 W:World}(base:Nat)(hgd:o.guard=none)(s x:Operand)(t e:TypeId)(z:Value)(bytes:Nat)
  (ho:o.op= .call { callee:= .builtin .append,args:=#[s,x],argTypes:=#[t,t]})
  (ht:P.underlying t=some (.slice e)) (gP:(P.info? e).map (fun i=>(i.zero,i.size,i.bytes))=some (some z,1,bytes)) (hz:z.cells.size=1) (hb0:0<bytes)
  (v:Value) (xs ys:List α) (A:Option Addr) (m c:Nat) (ok:Nat->Prop) (hs:a.eval s=v) (hx:a.eval x= .slice A m c) (iu:∀k,W.heap.size<=k->ok k)
  (HO:(Kd.scalar enc h1).R e W base ok v xs) (bT:(Kd.scalar enc h1).C W A m ys) (ak:Below base w0 W) (hbase:base<=W.heap.size) (hl:(xs.length+m) * bytes<=140737488355328)
  (h:∀v1 w1,(Kd.scalar enc h1).R e w1 base ok v1 (xs++ys)->Below base w0 w1->W.grownBy w1 v.ownBlock->(v1.ownBlock=v.ownBlock\/∃b,v1.ownBlock=some b/\W.heap.size<=b)->wpList P ops Q rest (a.put o.dst v1) w1):
  wpList P ops Q (o::rest) a W:=by
 refine aqQ (w0:=w0) enc d base hgd s x t e z bytes ho ht gP hz hb0 h1 v xs ys A m c hs hx (Kd.aqr HO) (Kd.UZ (d:=d) bT) ak hbase hl ?_
 intro v1 w1 hown hb hg hat
 refine h v1 w1 (Kd.aiZ hown (fun k hk=>?_)) hb hg hat
 rcases hat with e1|⟨b,e1,yn⟩
 ·exact HO.1 k (by rw[<- e1];exact hk)
 ·rw[e1]at hk
  injection hk with hk
  subst hk
  exact iu _ yn
end
section
variable {P:Program}{ops:Array Oper}{rest:List Oper}{o:Oper}{a:Act}{Q:Exit->Act->World->Prop}{W:World}
theorem c5 {N:Tmp}(atM:o.dst=some N)(h:wpList P ops Q (o::rest) a W):wpList P ops Q (o::rest) a W:=h
end
section
variable {P:Program}{ops:Array Oper}{o:Oper}{a:Act}{Q:Exit->Act->World->Prop}{kX:Act->World->Prop}
namespace Kd
variable {α:Type}
theorem aiR (d:Kd α){Rr:α->List Value->Prop}{w0 W:World}(base:Nat)(hw:Region.wanted o (yielded ops a.tmps)=true)(s x:Operand)(t e:TypeId)(z:Value)(bytes:Nat)
  (ho:o.op= .call { callee:= .builtin .append,args:=#[s,x],argTypes:=#[t,t]})
  (ht:P.underlying t=some (.slice e)) (gP:(P.info? e).map (fun i=>(i.zero,i.size,i.bytes))=some (some z,d.sz,bytes)) (hz:z.cells.size=d.sz) (hs0:0<d.sz) (hb0:0<bytes)
  (v:Value) (xs ys:List α) (A:Option Addr) (m c:Nat) (ok okp:Nat->Prop) (hs:a.eval s=v) (hx:a.eval x= .slice A m c)
  (HO:d.R e W base ok v xs) (bT:lC Rr d.sz W A m ys) (SD:∀x cs,Rr x cs->d.M W base okp x cs) (jF:∀k,okp k->ok k/\some k≠v.ownBlock) (iu:∀k,W.heap.size<=k->ok k)
  (ak:Below base w0 W) (hbase:base<=W.heap.size) (hl:(xs.length+m) * bytes<=140737488355328)
  (h:∀v1 w1,d.R e w1 base ok v1 (xs++ys)->Below base w0 w1->W.grownBy w1 v.ownBlock->(v1.ownBlock=v.ownBlock\/∃b,v1.ownBlock=some b/\W.heap.size<=b)->kX (a.put o.dst v1) w1):
  if Region.wanted o (yielded ops a.tmps)=true then Oper.wp P o a W kX Q else kX (a.put o.dst undef) W:=by
 obtain⟨i0,hi,hzz⟩:=Option.map_eq_some_iff.1 gP
 simp only[Prod.mk.injEq]at hzz
 obtain⟨hz0,hz1,hz2⟩:=hzz
 have hm:ys.length=m:=bT.1
 have hlen:xs.length+m<=140737488355328:=Nat.le_trans (Nat.le_mul_of_pos_right _ hb0) hl
 obtain⟨bX,inner,hown,hr⟩:=HO
 have hrun:∃v1 w1,(Builtin.append_ #[t,t] o.type #[v,.slice A m c]).run P W= .ok v1 w1/\d.R e w1 base ok v1 (xs++ys)/\W.grownBy w1 v.ownBlock/\(v1.ownBlock=v.ownBlock\/∃b,v1.ownBlock=some b/\W.heap.size<=b):=by
  rcases A with _|ad
  ·have h0:m=0:=by
    rcases Nat.eq_zero_or_pos m with h0|h0
    ·exact h0
    ·obtain⟨ad,h,_⟩:=bT.2.2 h0
     cases h
   subst h0
   obtain rfl:ys=[]:=List.eq_nil_of_length_eq_zero hm
   refine⟨v,W,?_,by rw[List.append_nil];exact⟨bX,inner,hown,hr⟩,World.grownBy.refl W _,.inl rfl⟩
   rcases hown.2 with⟨rfl,hn⟩|⟨g,cap,cur,rfl,_,_,nS,_⟩
   ·simp[Builtin.append_,run_underlying ht,sizeOf,typeInfo,hi,Builtin.lenOf,Builtin.firstCells]
   ·simp[Builtin.append_,run_underlying ht,sizeOf,typeInfo,hi,Builtin.lenOf,Builtin.firstCells,nS,storeCells]
  ·obtain⟨news,Cg,nS⟩:=lC.Nj bT
   have tI:bU (d.M W base okp) d.sz ys news:=Cg.k9 (fun p c hp=>SD p c hp)
   have sH:∀u∈news,u.oneCell'=true:=by
    intro u hu
    obtain⟨q,hq,rfl⟩:=List.mem_iff_getElem.1 hu
    have Ch:q / d.sz<ys.length:=by
     rw[Nat.div_lt_iff_lt_mul hs0]
     rw[<- tI.1]
     exact hq
    have hc:=tI.2 (q / d.sz) _ (List.getElem?_eq_getElem Ch)
    refine d.lA (d.lz hc) _ ?_
    rw[List.mem_iff_getElem?]
    refine⟨q % d.sz,?_⟩
    rw[List.getElem?_take,if_pos (Nat.mod_lt _ hs0),List.getElem?_drop,Nat.mul_comm,Nat.div_add_mod,List.getElem?_eq_getElem hq]
   obtain⟨v1,w1,hrun,h2,hg,_,hat⟩:=run_append_own_at (P:=P) W base t o.type e i0 z d.sz bytes ht hi hz0 hz1 hz2 hz hs0 v xs.length inner hown ad m c news (by rw[tI.1,hm]) nS sH (by simp only[maxLen];omega) hl hbase
   have hat':v1.ownBlock=v.ownBlock\/∃b,v1.ownBlock=some b/\W.heap.size<=b:=by
    rcases hat with hat|hat
    ·exact .inl hat
    ·exact .inr ⟨_,hat,Nat.le_refl _⟩
   have hne:∀k,some k≠v.ownBlock->k<W.heap.size->some k≠v1.ownBlock:=by
    intro k hk hlt
    rcases hat' with hat|⟨b,hb,hle⟩
    ·rw[hat];exact hk
    ·rw[hb]
     intro he
     injection he with he
     omega
   have step:∀{q:α} {c:List Value} {o:Nat->Prop},d.M W base o q c->(∀k,o k->ok k/\some k≠v.ownBlock)->d.M w1 base (fun k=>ok k/\some k≠v1.ownBlock) q c:=by
    intro q c o hq ho
    have h1:=d.oD (w1:=w1) (fun k hk=>hg.block k hk.2.2.1 (ho k hk.1).2) (d.pq hq)
    exact d.lB (fun k hk=>⟨(ho k hk.1).1,hne k (ho k hk.1).2 hk.2.2.1⟩) h1
   refine⟨v1,w1,hrun,⟨fun k hk=>?_,inner++news,by rw[List.length_append,hm];exact h2,NR (hr.k9 (fun _ _ hq=>step hq (fun _ hk=>hk))) (tI.k9 (fun _ _ hq=>step hq jF))⟩,hg,hat'⟩
   rcases hat' with hat|⟨b,hb,hle⟩
   ·exact bX k (hat▸hk)
   ·rw[hb]at hk
    injection hk with hk
    exact iu k (by omega)
 obtain⟨v1,w1,hr1,h1,hg,hat⟩:=hrun
 rw[if_pos hw]
 unfold Oper.wp execOp
 simp only[ho,resolve,invoke,builtin,Sem.run_bind,Sem.run_pure,Result.andThen_ok,List.map_toArray,List.map_cons,List.map_nil,hs,hx,hr1]
 exact h v1 w1 h1 (ak.grown hg hbase (CU hown)) hg hat
end Kd
end
namespace Kd
section
variable {P:Program}{α:Type}
theorem aiU (d:Kd α){W:World}(base:Nat)(t ty e:TypeId)(i:TypeInfo)(ht:P.underlying t=some (.slice e))(hi:P.info? e=some i)(hsz:i.size=d.sz)
  {g n c k:Nat} {xs:List α} {ok:Nat->Prop} (HO:d.R e W base ok (.slice (some ⟨g,0,none⟩) n c) xs) (hk:k<n) {A:Option Addr} (hA:A=if c=k+1 then some ⟨g,0,none⟩else(some (⟨g,0,none⟩:Addr)).map (·.add ((k+1) * d.sz))) (bb:Nat):
  ∃w1,(Builtin.append_ #[t,t] ty #[.slice (some ⟨g,0,none⟩) k c,.slice A (n- (k+1)) bb]).run P W= .ok (.slice (some ⟨g,0,none⟩) (n-1) c) w1/\d.R e w1 base ok (.slice (some ⟨g,0,none⟩) (n-1) c) (xs.eraseIdx k)/\W.grownBy w1 (some g):=by
 obtain⟨hn,nS,_⟩:=jY HO
 obtain⟨bX,inner,hown,hr⟩:=HO
 have gO:inner.length=n * d.sz:=by rw[hr.1,hn]
 rcases hown.2 with⟨hv,_⟩|⟨g',cap',cur,hv,hb,hh,_,hcm,hcs,Jg⟩
 ·cases hv
 injection hv with ha _ hc
 injection ha with ha
 injection ha with hg
 subst hg;subst hc
 rw[<- hn]at Jg
 obtain⟨news,hnews⟩:∃news,news=inner.drop ((k+1) * d.sz):=⟨_,rfl⟩
 have pG:news.length=(n- (k+1)) * d.sz:=by rw[hnews,List.length_drop,gO,Nat.sub_mul]
 have hle:(k+1) * d.sz<=n * d.sz:=Nat.mul_le_mul_right _ hk
 have zU:(k+1) * d.sz=k * d.sz+d.sz:=Nat.succ_mul _ _
 have anZ:n * d.sz<=c * d.sz:=Nat.mul_le_mul_right _ nS
 have aye:(n- (k+1)) * d.sz=n * d.sz- (k+1) * d.sz:=Nat.sub_mul _ _ _
 have oO:∀q,q<n * d.sz->cur.toList[q]?=inner[q]?:=by
  intro q hq
  rw[<- Jg,List.getElem?_take,if_pos hq]
 obtain⟨a,rfl,hcell⟩:∃a,A=some a/\∀j u,news[j]?=some u->W.cell? (a.add j)=some u:=by
  by_cases aak:c=k+1
  ·rw[if_pos aak]at hA
   refine⟨_,hA,fun j u hu=>?_⟩
   have h0:news=[]:=List.eq_nil_of_length_eq_zero (by rw[pG,show n- (k+1)=0 by omega,Nat.zero_mul])
   rw[h0]at hu
   simp at hu
  ·rw[if_neg aak,Option.map_some]at hA
   refine⟨_,hA,fun j u hu=>?_⟩
   have hj:j<news.length:=(List.getElem?_eq_some_iff.1 hu).1
   rw[add_add,ajI,cell_of_row W g _ cur e (0,0) hh,<- Array.getElem?_toList]
   rw[hnews,List.getElem?_drop]at hu
   rw[<- hu,Nat.zero_add]
   exact oO _ (by omega)
 have sH:∀u∈news,u.oneCell'=true:=by
  intro u hu
  have Jh:u∈inner:=by rw[hnews]at hu;exact List.mem_of_mem_drop hu
  obtain⟨q,hq,rfl⟩:=List.mem_iff_getElem.1 Jh
  have hs0:0<d.sz:=by
   rcases Nat.eq_zero_or_pos d.sz with h|h
   ·rw[h,Nat.mul_zero]at gO;omega
   ·exact h
  have Ch:q / d.sz<xs.length:=by
   rw[Nat.div_lt_iff_lt_mul hs0,<- hr.1]
   exact hq
  refine d.lA (d.lz (hr.2 (q / d.sz) _ (List.getElem?_eq_getElem Ch))) _ ?_
  rw[List.mem_iff_getElem?]
  refine⟨q % d.sz,?_⟩
  rw[List.getElem?_take,if_pos (Nat.mod_lt _ hs0),List.getElem?_drop,Nat.mul_comm,Nat.div_add_mod,List.getElem?_eq_getElem hq]
 have zQ:0+k * d.sz+news.length<=cur.size:=by omega
 have hrun:=run_append_room_cells (P:=P) (w:=W) t ty e i ht hi g 0 k c a (n- (k+1)) bb news (by rw[pG,hsz]) hcell sH (by omega)
  (fun j hj=>by rw[hsz,cell_of_row W g _ cur e (0,0) hh];simp;omega) (fun j _=>ar hh _)
 rw[hsz,show k+(n- (k+1))=n-1 by omega]at hrun
 obtain⟨cur',h3,h4,h5⟩:=N0 news (0+k * d.sz) W cur hh zQ
 obtain⟨s1,s2,kD,sS⟩:=N1 g news (0+k * d.sz) W
 have Fu:∀k',k'≠g->(W.setCells g (0+k * d.sz) news).heap[k']?=W.heap[k']?:=fun k' fP=>NZ news _ k' fP
 have hgo:∀m,some g=(Value.slice (some ⟨g,0,none⟩) m c).ownBlock:=fun m=>by simp[Value.ownBlock]
 have MJ:(xs.eraseIdx k).length=n-1:=by rw[List.length_eraseIdx_of_lt (by omega),hn]
 refine⟨_,hrun,⟨fun k' fP=>bX k' (by rw[<- hgo]at fP ⊢;exact fP),inner.take (k * d.sz)++news,⟨?_,.inr ⟨g,c,cur',by rw[MJ],hb,h3,by rw[MJ];omega,hcm,by rw[h4,hcs],?_⟩⟩,?_⟩,⟨s1,s2,kD,by rw[sS];exact Nat.le_refl _,fun k' _ fP=>Fu k' (fun he=>fP (by rw[he]))⟩⟩
 ·rw[List.length_append,List.length_take,pG,MJ]
  have:(n-1) * d.sz=n * d.sz-d.sz:=by rw[Nat.sub_mul,Nat.one_mul]
  omega
 ·rw[MJ,h5,Nat.zero_add]
  have h6:(n-1) * d.sz=n * d.sz-d.sz:=by rw[Nat.sub_mul,Nat.one_mul]
  have h7:cur.toList.take (k * d.sz)=inner.take (k * d.sz):=by
   rw[<- Jg,List.take_take,Nat.min_eq_left (by omega)]
  rw[h7]
  exact List.take_left' (by rw[List.length_append,List.length_take,pG];omega)
 ·rw[List.eraseIdx_eq_take_drop_succ]
  have abh:∀p q,d.M W base (fun k'=>ok k'/\some k'≠(Value.slice (some ⟨g,0,none⟩) n c).ownBlock) p q->d.M (W.setCells g (0+k * d.sz) news) base (fun k'=>ok k'/\some k'≠(Value.slice (some ⟨g,0,none⟩) (n-1) c).ownBlock) p q:=fun p q hp=>
   d.lB (fun k' fP=>⟨fP.1,by rw[<- hgo];rw[<- hgo]at fP;exact fP.2⟩) (d.oD (fun k' fP=>Fu k' (fun he=>fP.2 (by rw[<- hgo,he]))) hp)
  subst hnews
  exact NR ((adf hr (by omega)).k9 abh) ((aq8 hr).k9 abh)
end
section
variable {P:Program}{ops:Array Oper}{rest:List Oper}{o:Oper}{a:Act}{Q:Exit->Act->World->Prop}{kX:Act->World->Prop}{α:Type}
theorem aiV (d:Kd α){w0 W:World}(base:Nat)(hw:Region.wanted o (yielded ops a.tmps)=true)(s x:Operand)(t e:TypeId)(ho:o.op= .call { callee:= .builtin .append,args:=#[s,x],argTypes:=#[t,t]})
  (ht:P.underlying t=some (.slice e)) (gP:(P.info? e).map (·.size)=some d.sz) {g n c k m bb:Nat} {A:Option Addr} {xs:List α} {ok:Nat->Prop}
  (hs:a.eval s= .slice (some ⟨g,0,none⟩) k c) (hx:a.eval x= .slice A m bb) (hA:A=if c=k+1 then some ⟨g,0,none⟩else(some (⟨g,0,none⟩:Addr)).map (·.add ((k+1) * d.sz))) (hm:m=n- (k+1))
  (HO:d.R e W base ok (.slice (some ⟨g,0,none⟩) n c) xs) (hk:k<n) (ak:Below base w0 W) (hbase:base<=W.heap.size)
  (h:∀w1,d.R e w1 base ok (.slice (some ⟨g,0,none⟩) (n-1) c) (xs.eraseIdx k)->Below base w0 w1->W.grownBy w1 (some g)->kX (a.put o.dst (.slice (some ⟨g,0,none⟩) (n-1) c)) w1):
  if Region.wanted o (yielded ops a.tmps)=true then Oper.wp P o a W kX Q else kX (a.put o.dst undef) W:=by
 obtain⟨i0,hi,hsz⟩:=Option.map_eq_some_iff.1 gP
 subst hm
 obtain⟨w1,hr,h1,h2⟩:=aiU (P:=P) d base t o.type e i0 ht hi hsz HO hk hA bb
 rw[if_pos hw]
 unfold Oper.wp execOp
 simp only[ho,resolve,invoke,builtin,Sem.run_bind,Sem.run_pure,Result.andThen_ok,List.map_toArray,List.map_cons,List.map_nil,hs,hx,hr]
 exact h w1 h1 (ak.grown h2 hbase (fun k hk=>by injection hk with hk;subst hk;exact LD HO _ (by simp[Value.ownBlock]))) h2
end
end Kd
end Go.Proofs.YtjgakaembhmhpaaGreatDoorW.PrintWords
namespace Go.Proofs.YtjgakaembhmhpaaGreatDoorW.PrintLast
section
variable {P:Program}{ops:Array Oper}{Q:Exit->Act->World->Prop}{md:Region.Mode}{S:World->Prop}{ds:List Nat}
theorem ale {f:FuncId}{fn:Func}(hf:P.funcs[f]?=some fn)(hname:(fn.name== "runtime.NumGoroutine")=false)(hb:fn.body.isSome=true)(args:Array Value)(w:World):(callFunc f args).run P w= .ok (.enter f args) w:=by
 have h1:fn.name≠ "runtime.NumGoroutine" :=by simpa using hname
 obtain⟨c,hc⟩:=Option.isSome_iff_exists.1 hb
 simp[callFunc,hf,h1,hc]
theorem cW {rest:List Oper}{oi:Oper}{a:Act}{w:World}(N:Option Tmp)(hd:oi.dst=N)(hg:oi.guard=none){f:FuncId}{fn:Func}{as:Array Operand}{ts:Array TypeId}(hf:P.funcs[f]?=some fn)(hname:(fn.name== "runtime.NumGoroutine")=false)(hb:fn.body.isSome=true)(args:Array Value)
  (hop:oi.op= .call { callee:= .value (.func f),args:=as,argTypes:=ts}) (hargs:as.map a.eval=args)
  (h:Calls P f args w fun e w'=>∃v,e= .returned v/\wpList P ops Q rest (a.put N v) w'):wpList P ops Q (oi::rest) a w:=by
 refine wpList_plain hg fun K hK=>?_
 have he:=ale hf hname hb args w
 have hrun:(execOp a.eval oi).run P w= .ok (.enter f args) w:=by
  unfold execOp
  simp[hop,resolve,Deferred.ofValue,invoke,Act.eval,hargs,he]
 unfold Oper.wp
 rw[hrun,Oper.upon_enter]
 refine h.mono fun e w'' hh=>?_
 obtain⟨v,rfl,hk⟩:=hh
 subst hd
 exact hK _ _ hk
theorem Ab (n:Int):IntKind.i64.wrap n=Go.RowKit.wrap64 n:=by unfold Go.RowKit.wrap64;exact IntKind.wrap_i64 n
theorem CJ (n:Int):IntKind.i32.wrap n=Go.RowKit.wrap32 n:=by unfold Go.RowKit.wrap32;exact IntKind.wrap_i32 n
end
end Go.Proofs.YtjgakaembhmhpaaGreatDoorW.PrintLast
namespace Go.Proofs.YtjgakaembhmhpaaGreatDoorW.PrintWords
open Go.RowKit
namespace Kd
def raw (sz:Nat):Kd (List Value) where
 sz:=sz
 E:=[]
 K:=fun _ x cs=>cs=x/\cs.length=sz/\∀u∈cs,u.oneCell'=true
 M:=fun _ _ _ x cs=>cs=x/\cs.length=sz/\∀u∈cs,u.oneCell'=true
 oC:=fun h=>h.2.1
 lA:=fun h=>h.2.2
 xL:=fun _ h=>h
 lz:=fun h=>h
 lB:=fun _ h=>h
 pq:=fun h=>h
 oD:=fun _ h=>h
 xM:=fun _ h=>h
section
variable {α β:Type}{d:Kd α}{d':Kd β}{e e':Nat}{w w1 W:World}{base b:Nat}{ok ok' aqg aqf:Nat->Prop}{u v:Value}{xs:List α}{ys:List β}
theorem ai2 (SA:d.E=[])(h:d.R e w base ok v xs):d.R e w base (fun k=>some k=v.ownBlock) v xs:=by
 obtain⟨h0,inner,ho,hr⟩:=h
 refine⟨fun k hk=>hk.symm,inner,ho,hr.k9 (fun p c hp=>d.lB (fun k hk=>?_) (d.pq hp))⟩
 obtain⟨_,_,_,q,hq,_⟩:=hk
 rw[SA]at hq
 cases hq
end
end Kd
namespace Kd
theorem ara {α:Type}{R:α->List Value->Prop}{size:Nat}{ps:List α}{cs:List Value}(h:bU R size ps cs)(hs0:0<size)(hR:∀p c,R p c->∀u∈c,u.oneCell'=true):∀u∈cs,u.oneCell'=true:=by
 intro u hu
 obtain⟨q,hq,rfl⟩:=List.mem_iff_getElem.1 hu
 have Ch:q / size<ps.length:=by
  rw[Nat.div_lt_iff_lt_mul hs0,<- h.1]
  exact hq
 refine hR _ _ (h.2 (q / size) _ (List.getElem?_eq_getElem Ch)) _ ?_
 rw[List.mem_iff_getElem?]
 refine⟨q % size,?_⟩
 rw[List.getElem?_take,if_pos (Nat.mod_lt _ hs0),List.getElem?_drop,Nat.mul_comm,Nat.div_add_mod,List.getElem?_eq_getElem hq]
end Kd
section
variable {P:Program}
theorem arG (w:World)(base:Nat)(t ti ty e:TypeId)(i:TypeInfo)(z:Value)(size bytes:Nat)(ht:P.underlying t=some (.slice e)){k:IntKind}(vq:P.underlying ti=some (.int k))(hi:P.info? e=some i)(hz:i.zero=some z)
  (hsize:i.size=size) (hby:i.bytes=bytes) (hzs:z.cells.size=size) (hsz:0<size) (hb0:0<bytes)
  (v:Value) (n:Nat) (xs:List Value) (hown:w.ownsRow base e size v n xs) (wI:IntKind) (m:Nat) (h1:∀u∈(Builtin.zeroCells z.cells m).toList,u.oneCell'=true)
  (hbytes:(n+m) * bytes<=140737488355328) (hbase:base<=w.heap.size):
  ∃v' w',(Builtin.append_ #[t,ti] ty #[v,.int wI m]).run P w= .ok v' w'/\w'.ownsRow base e size v' (n+m) (xs++(Builtin.zeroCells z.cells m).toList)/\w.grownBy w' v.ownBlock/\
   (v'.ownBlock=v.ownBlock\/v'.ownBlock=some w.heap.size):=by
 subst hsize
 subst hby
 have hle:n+m<=140737488355328:=Nat.le_trans (Nat.le_mul_of_pos_right _ hb0) hbytes
 have h63:n+m<=maxLen:=by simp only[maxLen];omega
 have hw:IntKind.i64.wrap (m:Int)=m:=by rw[IntKind.wrap_i64];omega
 have hw0:IntKind.i64.wrap 0=0:=by rw[IntKind.wrap_i64];rfl
 have TA:¬ ((m:Int)<0):=by omega
 have FI:m * i.bytes<=140737488355328:=Nat.le_trans (Nat.mul_le_mul_right _ (Nat.le_add_left m n)) hbytes
 have aai:¬ (281474976710656< (m:Int) * (i.bytes:Int)):=by
  rw[<- Int.natCast_mul]
  omega
 have wF:i.size≠0:=by omega
 obtain⟨news,hnews⟩:∃news,news=(Builtin.zeroCells z.cells m).toList:=⟨_,rfl⟩
 rw[<- hnews]at h1 ⊢
 have hl:news.length=m * i.size:=by rw[hnews,Array.length_toList,size_zeroCells,hzs]
 have MX:Builtin.zeroCells z.cells m=news.toArray:=by rw[hnews]
 have hlen:(xs++news).length=(n+m) * i.size:=by rw[List.length_append,hown.1,hl,Nat.add_mul]
 have hnil:m=0->news=[]:=fun h=>List.eq_nil_of_length_eq_zero (by rw[hl,h,Nat.zero_mul])
 have grown:∀(old:Nat),old<n+m->∀(row:Option Nat),
   (w.drew.alloc (.cells (xs.toArray++news.toArray++Builtin.zeroCells z.cells (grownCap w (n+m) old e- (n+m))) e)).ownsRow base e i.size
    (.slice (some ⟨w.heap.size,0,none⟩) (n+m) (grownCap w (n+m) old e)) (n+m) (xs++news)/\
   w.grownBy (w.drew.alloc (.cells (xs.toArray++news.toArray++Builtin.zeroCells z.cells (grownCap w (n+m) old e- (n+m))) e)) row:=by
  intro old ho row
  have zS:=grownCap_ge w (n+m) old e
  have hcm:grownCap w (n+m) old e<=maxLen:=grownCap_le_maxLen w (n+m) old e h63
  refine⟨⟨hlen,.inr ⟨w.heap.size,_,_,rfl,hbase,heap_alloc_new w.drew _,zS,hcm,?_,?_⟩⟩,⟨rfl,rfl,rfl,by simp,fun k hk _=>heap_alloc_old w.drew _ hk⟩⟩
  ·simp only[Array.size_append,List.size_toArray,size_zeroCells,hzs,hown.1,hl,<- Nat.add_mul]
   congr 1
   omega
  ·simp only[Array.toList_append,List.append_assoc]
   rw[<- List.append_assoc,<- hlen]
   exact List.take_left
 have runs:∀(A:Option Addr) (cap:Nat),cap<n+m->(Builtin.firstCells i.size n (.slice A n cap)).run P w.drew= .ok xs.toArray w.drew->(Builtin.append_ #[t,ti] ty #[.slice A n cap,.int wI m]).run P w=
   .ok (.slice (some ⟨w.heap.size,0,none⟩) (n+m) (grownCap w (n+m) cap e)) (w.drew.alloc (.cells (xs.toArray++news.toArray++Builtin.zeroCells z.cells (grownCap w (n+m) cap e- (n+m))) e)):=by
  intro A cap B9 aaE
  have hn:¬ (n+m<=cap):=by omega
  have ZV:¬ (9223372036854775807< ((n:Int)+(m:Int))):=by omega
  have zQ:=growslice_fits B9 hbytes
  have Sx:¬ (281474976710656<Builtin.nextslicecap (n+m) cap * i.bytes):=by omega
  by_cases hm:m=0
  ·have pG:=hnil hm
   subst hm
   rw[pG]
   simp only[Nat.add_zero]at hn ZV Sx ⊢
   have al2:¬ (9223372036854775807< (n:Int)):=by omega
   simp[Builtin.append_,run_underlying ht,run_underlying vq,sizeOf,typeInfo,zeroValue,hi,hz,asInt,asIntOf,hw0,hn,al2,Sx,Question.forced,aaE,newRow,grownCap]
  ·have MV:¬ (m * i.size=0):=Nat.mul_ne_zero hm wF
   simp[Builtin.append_,run_underlying ht,run_underlying vq,sizeOf,typeInfo,zeroValue,hi,hz,asInt,asIntOf,hw,TA,aai,hn,ZV,Sx,Question.forced,aaE,newRow,grownCap,MV,MX]
   congr 2
   apply Array.ext'
   simp[List.append_assoc]
 rcases hown.2 with⟨rfl,rfl⟩|⟨g,cap,cur,rfl,hbg,hg,nS,hcm,hcs,Jg⟩
 ·have hx:xs=[]:=List.eq_nil_of_length_eq_zero (by simpa using hown.1)
  subst hx
  by_cases hm:m=0
  ·have pG:=hnil hm
   subst hm
   rw[pG]
   refine⟨.slice none 0 0,w,?_,World.ownsRow_nil w base e i.size,⟨rfl,rfl,rfl,Nat.le_refl _,fun _ _ _=>rfl⟩,Or.inl rfl⟩
   simp[Builtin.append_,run_underlying ht,run_underlying vq,sizeOf,typeInfo,hi,asInt,asIntOf,hw0]
  ·have hgr:=grown 0 (by omega) (Value.ownBlock (.slice none 0 0))
   exact⟨_,_,runs none 0 (by omega) (by simp[Builtin.firstCells]),hgr.1,hgr.2,Or.inr rfl⟩
 ·by_cases hroom:n+m<=cap
  ·have zQ:n * i.size+news.length<=cur.size:=by rw[hl,hcs,<- Nat.add_mul];exact Nat.mul_le_mul_right _ hroom
   obtain⟨cur',h3,h4,h5⟩:=N0 news (n * i.size) w cur hg zQ
   obtain⟨s1,s2,kD,sS⟩:=N1 g news (n * i.size) w
   have hst:=run_storeCells_cells (P:=P) g (n * i.size) news 0 w (fun j hj=>by rw[cell_of_row w g _ cur e (0,0) hg];simp;omega) (fun j _=>ar hg _) h1
   simp only[Nat.add_zero]at hst
   refine⟨.slice (some ⟨g,0,none⟩) (n+m) cap,w.setCells g (n * i.size) news,?_,⟨hlen,.inr ⟨g,cap,cur',rfl,hbg,h3,hroom,hcm,by rw[h4,hcs],?_⟩⟩,⟨s1,s2,kD,by rw[sS];exact Nat.le_refl _,fun k _ hk=>NZ news _ k (fun e=>hk (by simp[Value.ownBlock,e]))⟩,Or.inl rfl⟩
   ·by_cases hm:m=0
    ·have pG:=hnil hm
     subst hm
     rw[pG]at hst ⊢
     simp[Builtin.append_,run_underlying ht,run_underlying vq,sizeOf,typeInfo,hi,asInt,asIntOf,hw0,nS,add_plain,hst]
    ·have MV:¬ (m * i.size=0):=Nat.mul_ne_zero hm wF
     simp[Builtin.append_,run_underlying ht,run_underlying vq,sizeOf,typeInfo,zeroValue,hi,hz,asInt,asIntOf,hw,TA,aai,hroom,MV,MX,add_plain,hst]
   ·rw[h5]
    have h6:cur.toList.take (n * i.size)=xs:=Jg
    rw[h6,<- hlen]
    exact List.take_left
  ·have holds:∀j u,xs[j]?=some u->w.cell? ((⟨g,0,none⟩:Addr).add j)=some u:=hown.cells (g:=g) rfl
   have hgr:=grown cap (by omega) (Value.ownBlock (.slice (some ⟨g,0,none⟩) n cap))
   exact⟨_,_,runs (some ⟨g,0,none⟩) cap (by omega) (run_firstCells_some (P:=P) w.drew i.size n _ n cap xs hown.1 (by simpa using holds)),hgr.1,hgr.2,Or.inr rfl⟩
end
namespace Kd
theorem arc {α:Type}{R:α->List Value->Prop}{z:Value}{size:Nat}{z0:α}(hz:z.cells.size=size)(hs:0<size)(h0:R z0 z.cells.toList)(m:Nat):bU R size (List.replicate m z0) (Builtin.zeroCells z.cells m).toList:=by
 have h:=aq9 hz hs h0 m
 rw[show Builtin.zeroCells z.cells m=madeCells z.cells (m * size) by unfold Builtin.zeroCells madeCells;rw[hz]]
 exact h
section
variable {P:Program}{ops:Array Oper}{rest:List Oper}{o:Oper}{a:Act}{Q:Exit->Act->World->Prop}{kX:Act->World->Prop}{α:Type}
theorem ai4 (d:Kd α){W:World}(base:Nat)(t ti ty e:TypeId)(z:Value)(bytes:Nat)(ht:P.underlying t=some (.slice e)){k:IntKind}(vq:P.underlying ti=some (.int k))(gP:(P.info? e).map (fun i=>(i.zero,i.size,i.bytes))=some (some z,d.sz,bytes))(hz:z.cells.size=d.sz)(hs0:0<d.sz)(hb0:0<bytes)
  (v:Value) (xs:List α) (z0:α) {ok:Nat->Prop} (hzero:d.M W base (fun _=>False) z0 z.cells.toList) (iu:∀k,W.heap.size<=k->ok k) (HO:d.R e W base ok v xs) (wI:IntKind) (n:Int) (h0:0<=n) (hl:(xs.length+n.toNat) * bytes<=140737488355328) (hbase:base<=W.heap.size):
  ∃v1 w1,(Builtin.append_ #[t,ti] ty #[v,.int wI n]).run P W= .ok v1 w1/\d.R e w1 base ok v1 (xs++List.replicate n.toNat z0)/\W.grownBy w1 v.ownBlock/\(v1.ownBlock=v.ownBlock\/∃b,v1.ownBlock=some b/\W.heap.size<=b):=by
 obtain⟨m,rfl⟩:=Int.eq_ofNat_of_zero_le h0
 simp only[Int.toNat_natCast]at hl ⊢
 obtain⟨i0,hi,hzz⟩:=Option.map_eq_some_iff.1 gP
 simp only[Prod.mk.injEq]at hzz
 obtain⟨hz0,hz1,hz2⟩:=hzz
 obtain⟨bX,inner,hown,hr⟩:=HO
 have tI:bU (d.M W base (fun _=>False)) d.sz (List.replicate m z0) (Builtin.zeroCells z.cells m).toList:=arc hz hs0 hzero m
 obtain⟨v1,w1,hrun,h2,hg,hat⟩:=arG (P:=P) W base t ti ty e i0 z d.sz bytes ht vq hi hz0 hz1 hz2 hz hs0 hb0 v xs.length inner hown wI m (ara tI hs0 (fun _ _ hp=>d.lA (d.lz hp))) hl hbase
 have hat':v1.ownBlock=v.ownBlock\/∃b,v1.ownBlock=some b/\W.heap.size<=b:=by
  rcases hat with hat|hat
  ·exact .inl hat
  ·exact .inr ⟨_,hat,Nat.le_refl _⟩
 have hne:∀k,some k≠v.ownBlock->k<W.heap.size->some k≠v1.ownBlock:=by
  intro k hk hlt
  rcases hat' with hat|⟨b,hb,hle⟩
  ·rw[hat];exact hk
  ·rw[hb]
   intro he
   injection he with he
   omega
 have step:∀{q:α} {c:List Value} {o:Nat->Prop},d.M W base o q c->(∀k,o k->ok k/\some k≠v.ownBlock)->d.M w1 base (fun k=>ok k/\some k≠v1.ownBlock) q c:=by
  intro q c o hq ho
  have h1:=d.oD (w1:=w1) (fun k hk=>hg.block k hk.2.2.1 (ho k hk.1).2) (d.pq hq)
  exact d.lB (fun k hk=>⟨(ho k hk.1).1,hne k (ho k hk.1).2 hk.2.2.1⟩) h1
 refine⟨v1,w1,hrun,⟨fun k hk=>?_,inner++(Builtin.zeroCells z.cells m).toList,by rw[List.length_append,List.length_replicate];exact h2,NR (hr.k9 (fun _ _ hq=>step hq (fun _ hk=>hk))) (tI.k9 (fun _ _ hq=>step hq (fun _ hk=>hk.elim)))⟩,hg,hat'⟩
 rcases hat' with hat|⟨b,hb,hle⟩
 ·exact bX k (hat▸hk)
 ·rw[hb]at hk
  injection hk with hk
  exact iu k (by omega)
theorem aiT (d:Kd α){w0 W:World}(base:Nat)(hgd:o.guard=none)(s x:Operand)(t ti e:TypeId)(z:Value)(bytes:Nat)
  (ho:o.op= .call { callee:= .builtin .append,args:=#[s,x],argTypes:=#[t,ti]})
  (ht:P.underlying t=some (.slice e)) {k:IntKind} (vq:P.underlying ti=some (.int k)) (gP:(P.info? e).map (fun i=>(i.zero,i.size,i.bytes))=some (some z,d.sz,bytes)) (hz:z.cells.size=d.sz) (hs0:0<d.sz) (hb0:0<bytes)
  (v:Value) (xs:List α) (z0:α) {wI:IntKind} (n:Int) (ok:Nat->Prop) (hs:a.eval s=v) (hx:a.eval x= .int wI n) (hzero:d.M W base (fun _=>False) z0 z.cells.toList) (iu:∀k,W.heap.size<=k->ok k)
  (HO:d.R e W base ok v xs) (h0:0<=n) (ak:Below base w0 W) (hbase:base<=W.heap.size) (hl:(xs.length+n.toNat) * bytes<=140737488355328)
  (h:∀v1 w1,d.R e w1 base ok v1 (xs++List.replicate n.toNat z0)->Below base w0 w1->W.grownBy w1 v.ownBlock->(v1.ownBlock=v.ownBlock\/∃b,v1.ownBlock=some b/\W.heap.size<=b)->wpList P ops Q rest (a.put o.dst v1) w1):
  wpList P ops Q (o::rest) a W:=by
 obtain⟨v1,w1,hr1,h1,hg,hat⟩:=ai4 (P:=P) d base t ti o.type e z bytes ht vq gP hz hs0 hb0 v xs z0 hzero iu HO wI n h0 hl hbase
 refine wpList_plain hgd fun K hK=>?_
 unfold Oper.wp execOp
 simp only[ho,resolve,invoke,builtin,Sem.run_bind,Sem.run_pure,Result.andThen_ok,List.map_toArray,List.map_cons,List.map_nil,hs,hx,hr1]
 exact hK _ _ (h v1 w1 h1 (ak.grown hg hbase (LD HO)) hg hat)
end
end Kd
namespace Kd
structure Heap {α:Type}(d:Kd α):Prop where
 K:∀{w w1:World} {x:α} {cs:List Value},(∀k,k<w.heap.size->w1.heap[k]?=w.heap[k]?)->d.K w x cs->d.K w1 x cs
theorem ake {w w1:World}(hb:∀k,k<w.heap.size->w1.heap[k]?=w.heap[k]?){a:Addr}{v:Value}(h:w.cell? a=some v):w1.cell? a=some v:=by
 have:=hb a.block (World.block_lt_of_cell? w a h)
 simpa[World.cell?,this]using h
theorem Heap.C {α:Type}{d:Kd α}(hd:Heap d){w w1:World}{A:Option Addr}{n:Nat}{xs:List α}(hb:∀k,k<w.heap.size->w1.heap[k]?=w.heap[k]?)(h:d.C w A n xs):d.C w1 A n xs:=
 ⟨h.1,h.2.1,fun hn=>by
  obtain⟨ad,e,hc⟩:=h.2.2 hn
  refine⟨ad,e,fun j p hj=>?_⟩
  obtain⟨c,hs,hr,hcell⟩:=hc j p hj
  exact⟨c,hs,hd.K hb hr,fun i u hu=>ake hb (hcell i u hu)⟩⟩
theorem MH (k:IntKind):Heap (Kd.int k):=⟨fun _ h=>h⟩
theorem aaB:Heap Kd.string:=⟨fun _ h=>h⟩
theorem amU {α:Type}{d:Kd α}(e:Nat)(hd:Heap d):Heap (slice e d):=⟨by
 rintro w w1 x cs hb ⟨A,c,rfl,hl,hr⟩
 exact⟨A,c,rfl,hl,hd.C hb hr⟩⟩
theorem MI {α β:Type}{a:Kd α}{b:Kd β}(ha:Heap a)(hb':Heap b):Heap (pair a b):=⟨by
 rintro w w1 x cs hb ⟨bf,c1,rfl,h0,h1⟩
 exact⟨bf,c1,rfl,ha.K hb h0,hb'.K hb h1⟩⟩
theorem S3 {α β:Type}{d:Kd α}(f:β->α)(hd:Heap d):Heap (Nl d f):=⟨fun hb h=>hd.K hb h⟩
end Kd
def Kept (w W:World)(S:Nat->Prop):Prop:=w.heap.size<=W.heap.size/\∀i,i<w.heap.size->¬ S i->W.heap[i]?=w.heap[i]?
section
variable {w W W2:World}{S S2 BK:Nat->Prop}
theorem Kept.refl (w:World)(S:Nat->Prop):Kept w w S:=⟨Nat.le_refl _,fun _ _ _=>rfl⟩
theorem Kept.gF (h:Below w.heap.size w W)(S:Nat->Prop):Kept w W S:=⟨h.size,fun i hi _=>h.block i hi⟩
theorem Kept.mono (h:Kept w W S)(hs:∀k,S k->BK k):Kept w W BK:=⟨h.1,fun i hi hn=>h.2 i hi (fun hk=>hn (hs i hk))⟩
theorem Kept.yP (h:Kept w W S)(k:Kept W W2 S2)(hs:∀k,S2 k->S k\/w.heap.size<=k):Kept w W2 S:=
 ⟨Nat.le_trans h.1 k.1,fun i hi hn=>(k.2 i (Nat.lt_of_lt_of_le hi h.1) (fun h2=>(hs i h2).elim hn (fun h3=>by omega))).trans (h.2 i hi hn)⟩
theorem Kept.Al {row:Option Nat}(hg:W.grownBy W2 row)(h:Kept w W S)(hr:∀k,row=some k->S k\/w.heap.size<=k):Kept w W2 S:=
 h.yP (S2:=fun k=>row=some k) ⟨hg.size,fun i hi hn=>hg.block i hi (fun he=>hn he.symm)⟩ hr
theorem Kept.below (h:Kept w W S)(hb:Below W.heap.size W W2):Kept w W2 S:=h.yP (Kept.gF hb (fun _=>False)) (fun _ hk=>hk.elim)
theorem Kept.setCell (h:Kept w W S){p:Addr}(hp:S p.block\/w.heap.size<=p.block)(u:Value):Kept w (W.setCell p u) S:=
 h.yP (S2:=fun k=>k=p.block) ⟨by simp[World.setCell],fun i _ hn=>Below.heap_setCell W p u i hn⟩ (fun k hk=>by rw[hk];exact hp)
theorem Kept.aqc {g:Nat}(h:Kept w W S)(k:bF W W2 g none)(hg:S g\/w.heap.size<=g):Kept w W2 S:=
 h.yP (S2:=fun k=>k=g) ⟨k.1,fun i hi hn=>k.2 i hi hn (by simp)⟩ (fun k hk=>by rw[hk];exact hg)
theorem iD {g:Nat}{o:Obj}(hb:W.heap[g]?=some o)(hk:Kept W W2 S)(hne:¬ S g):W2.heap[g]?=some o:=(hk.2 g (az hb) hne).trans hb
theorem wj {a:Addr}{v:Value}(hc:W.cell? a=some v)(hk:Kept W W2 S)(hne:¬ S a.block):W2.cell? a=some v:=by
 have:=hk.2 a.block (World.block_lt_of_cell? W a hc) hne
 simpa[World.cell?,this]using hc
end
def Foot (P:World->Prop)(W:World)(ok:Nat->Prop):Prop:=∀W':World,(∀k,ok k->k<W.heap.size->W'.heap[k]?=W.heap[k]?)->P W'
theorem amT {W W1:World}{k:Nat}(h:W1.heap[k]?=W.heap[k]?)(hlt:k<W.heap.size):k<W1.heap.size:=by
 rw[Array.getElem?_eq_getElem hlt]at h
 exact(Array.getElem?_eq_some_iff.1 h).1
namespace Foot
variable {P Q:World->Prop}{W W1:World}{ok ok':Nat->Prop}
theorem now (h:Foot P W ok):P W:=h W (fun _ _ _=>rfl)
theorem mono (h:Foot P W ok)(bX:∀k,ok k->ok' k):Foot P W ok':=fun W' hW=>h W' (fun k hk hlt=>hW k (bX k hk) hlt)
theorem bound (h:Foot P W ok):Foot P W (fun k=>ok k/\k<W.heap.size):=fun W' hW=>h W' (fun k hk hlt=>hW k ⟨hk,hlt⟩ hlt)
theorem step (h:Foot P W ok)(hm:∀k,ok k->k<W.heap.size->W1.heap[k]?=W.heap[k]?):Foot P W1 ok:=fun W' hW=>h W' (fun k hk hlt=>(hW k hk (amT (hm k hk hlt) hlt)).trans (hm k hk hlt))
theorem old (h:Foot P W ok)(hb:Below W.heap.size W W1):Foot P W1 (fun k=>ok k/\k<W.heap.size):=(h.bound).step (fun k _ hlt=>hb.block k hlt)
end Foot
namespace Kd
def F {α:Type}(d:Kd α)(W:World)(ok:Nat->Prop)(A:Option Addr)(n:Nat)(xs:List α):Prop:=Foot (fun W=>d.C W A n xs) W ok
def eI {α:Type}(d:Kd α)(W:World)(ok:Nat->Prop)(x:α)(c:List Value):Prop:=Foot (fun W=>d.K W x c) W ok
section
variable {α β:Type}{d:Kd α}{e base n n' cc g N:Nat}{ok ok' okp S:Nat->Prop}{w w0 w1 W W1:World}{A A':Option Addr}{u v v1:Value}{xs:List α}{xs':List β}{d':Kd β}{x:α}{c:List Value}
theorem gY (h:F d W ok A n xs):d.C W A n xs:=Foot.now h
theorem ur (h:F d W ok A n xs)(bX:∀k,ok k->ok' k):F d W ok' A n xs:=Foot.mono h bX
theorem Kn (h:F d W ok A n xs):F d W (fun k=>ok k/\k<W.heap.size) A n xs:=Foot.bound h
theorem Ko (h:F d W ok A n xs)(hm:∀k,ok k->k<W.heap.size->W1.heap[k]?=W.heap[k]?):F d W1 ok A n xs:=Foot.step h hm
theorem fH (h:F d W ok A n xs)(hb:Below W.heap.size W W1):F d W1 ok A n xs:=Ko h (fun k _ hlt=>hb.block k hlt)
theorem V5 (h:F d W ok A n xs)(o:Obj):F d (W.alloc o) ok A n xs:=fH h (ax (Below.refl _ _) o)
theorem afm (h:F d W ok A n xs):F d W.drew ok A n xs:=fH h (cB (Below.refl _ _))
theorem afn (h:F d W ok A n xs){row:Option Nat}(hg:W.grownBy W1 row)(bX:∀k,ok k->some k≠row):F d W1 ok A n xs:=Ko h (fun k hk hlt=>hg.block k hlt (bX k hk))
theorem AW (h:F d W ok A n xs)(hk:bF W W1 g none)(bX:∀k,ok k->k≠g):F d W1 ok A n xs:=Ko h (fun k ho hlt=>hk.2 k hlt (bX k ho) (by simp))
theorem l4 (h:F d W ok A n xs)(hk:Kept W W1 S)(bX:∀k,ok k->¬ S k):F d W1 ok A n xs:=Ko h (fun k ho hlt=>hk.2 k hlt (bX k ho))
theorem V7 (d:Kd α)(W:World)(ok:Nat->Prop):F d W ok none ([]:List α).length []:=fun W' _=>yY d W'
theorem vF (hd:Heap d)(h:d.C w A n xs):F d w (fun k=>k<w.heap.size) A n xs:=fun _ hW=>hd.C (fun k hlt=>hW k hlt hlt) h
theorem o6 (h:eI d W ok x c):d.K W x c:=Foot.now h
theorem nx (h:eI d W ok x c)(bX:∀k,ok k->ok' k):eI d W ok' x c:=Foot.mono h bX
theorem OM (h:eI d W ok x c):eI d W (fun k=>ok k/\k<W.heap.size) x c:=Foot.bound h
theorem xa (h:eI d W ok x c)(hm:∀k,ok k->k<W.heap.size->W1.heap[k]?=W.heap[k]?):eI d W1 ok x c:=Foot.step h hm
theorem V4 (h:d.M W base ok x c):eI d W ok x c:=fun _ hW=>d.lz (XZ h hW)
theorem ak9 (W:World)(g:Nat):∃W':World,(∀k,k≠g->W'.heap[k]?=W.heap[k]?)/\∀a:Addr,a.block=g->W'.cell? a=none:=by
 refine⟨{ W with heap:=W.heap.setIfInBounds g (.cells #[] 0)},fun k hk=>by simp[Ne.symm hk],fun a ha=>?_⟩
 subst ha
 by_cases hlt:a.block<W.heap.size
 ·simp[World.cell?,hlt]
 ·simp[World.cell?,hlt]
end
end Kd
namespace Kd
def chunks (sz:Nat)(n:Nat)(inner:List Value):List (List Value):=(List.range n).map fun j=>(inner.drop (j * sz)).take sz
theorem oJ (sz n:Nat)(inner:List Value):(chunks sz n inner).length=n:=by simp[chunks]
theorem akp {sz n:Nat}{inner:List Value}{j:Nat}(hj:j<n):(chunks sz n inner)[j]?=some ((inner.drop (j * sz)).take sz):=by simp[chunks,hj]
theorem BX {sz n:Nat}{inner:List Value}{j:Nat}{c:List Value}(h:(chunks sz n inner)[j]?=some c):c=(inner.drop (j * sz)).take sz:=by
 have hj:j<n:=by have:=(List.getElem?_eq_some_iff.1 h).1;rwa[oJ]at this
 rw[akp hj]at h
 injection h with h
 exact h.symm
theorem ade {α:Type}{Rr:α->List Value->Prop}{sz:Nat}{xs:List α}{inner:List Value}(h:bU Rr sz xs inner)(hR:∀x c,Rr x c->c.length=sz/\∀u∈c,u.oneCell'=true):bU (fun x cs=>cs=x/\cs.length=sz/\∀u∈cs,u.oneCell'=true) sz (chunks sz xs.length inner) inner:=by
 refine⟨by rw[oJ];exact h.1,fun j p hj=>?_⟩
 have gQ:j<xs.length:=by have:=(List.getElem?_eq_some_iff.1 hj).1;rwa[oJ]at this
 have hp:=BX hj
 exact⟨hp.symm,hR _ _ (h.2 j _ (List.getElem?_eq_getElem gQ))⟩
section
variable {α:Type}{d:Kd α}{e base n cc g:Nat}{ok ok' okp S:Nat->Prop}{w w1 W W1:World}{A:Option Addr}{u v v1:Value}{xs:List α}{x:α}{c:List Value}
theorem V6 (h:F d W ok A n xs)(z:α)(i:Int)(h0:0<=i)(h1:i<n):
  ∃ad c,A=some ad/\c.length=d.sz/\eI d W ok (xs.getD i.toNat z) c/\(∀j u,c[j]?=some u->W.cell? (ad.add (i.toNat * d.sz+j))=some u)/\(0<d.sz->ok ad.block):=by
 obtain⟨ad,c,rfl,gN,hK,hcc⟩:=AR (gY h) z i h0 h1
 have gO:0<d.sz->ok ad.block:=by
  intro hs
  by_cases hk:ok ad.block
  ·exact hk
  ·obtain⟨W',h2,h3⟩:=ak9 W ad.block
   obtain⟨EK,c',he,amq,_,SS⟩:=AR (h W' (fun k fP _=>h2 k (fun e=>hk (e▸fP)))) z i h0 h1
   injection he with he
   subst he
   have h4:=SS 0 _ (List.getElem?_eq_getElem (by omega))
   rw[h3 _ (add_block _ _)]at h4
   cases h4
 refine⟨ad,c,rfl,gN,fun W' hW=>?_,hcc,gO⟩
 obtain⟨EK,c',he,amq,hK',SS⟩:=AR (h W' hW) z i h0 h1
 injection he with he
 subst he
 have hc:c=c':=by
  apply List.ext_getElem?
  intro j
  by_cases hj:j<d.sz
  ·have hb:W'.heap[ad.block]?=W.heap[ad.block]?:=by
    have h5:=hcc j _ (List.getElem?_eq_getElem (by omega))
    have h6:=World.block_lt_of_cell? W _ h5
    rw[add_block]at h6
    exact hW _ (gO (by omega)) h6
   have h5:=hcc j _ (List.getElem?_eq_getElem (by omega))
   have h6:=SS j _ (List.getElem?_eq_getElem (by omega))
   have h7:W'.cell? (ad.add (i.toNat * d.sz+j))=W.cell? (ad.add (i.toNat * d.sz+j)):=by simp[World.cell?,add_block,hb]
   rw[h7,h5]at h6
   rw[List.getElem?_eq_getElem (by omega),List.getElem?_eq_getElem (by omega)]
   exact h6
  ·rw[List.getElem?_eq_none (by omega),List.getElem?_eq_none (by omega)]
 rw[hc]
 exact hK'
theorem OP (h:F d W ok A n xs):lC (fun x c=>eI d W ok x c) d.sz W A n xs:=by
 obtain⟨hl,hm,hn⟩:=gY h
 refine⟨hl,hm,fun hp=>?_⟩
 obtain⟨ad,rfl,_⟩:=hn hp
 refine⟨ad,rfl,fun j p hj=>?_⟩
 obtain⟨gQ,Tk⟩:=List.getElem?_eq_some_iff.1 hj
 obtain⟨EK,c,he,gN,hK,hcc,_⟩:=V6 h p (j:Int) (by omega) (by omega)
 injection he with he
 subst he
 simp only[Int.toNat_natCast]at hK hcc
 rw[List.getD_eq_getElem?_getD,hj]at hK
 exact⟨c,gN,hK,hcc⟩
def N {α:Type}(d:Kd α)(e:Nat)(w:World)(base:Nat)(ok:Nat->Prop)(v:Value)(xs:List α):Prop:=
 (∀k,v.ownBlock=some k->ok k)/\∃rows:List (List Value),rows.length=xs.length/\(raw d.sz).R e w base (fun k=>some k=v.ownBlock) v rows/\∀(j:Nat) (x:α) (c:List Value),xs[j]?=some x->rows[j]?=some c->eI d w (fun k=>ok k/\some k≠v.ownBlock) x c
theorem F7 {sz:Nat}{rows:List (List Value)}(h:(raw sz).R e w base ok v rows):(raw sz).R e w base (fun k=>some k=v.ownBlock) v rows:=ai2 rfl h
theorem yJ {sz:Nat}{rows:List (List Value)}(h:(raw sz).R e w base ok v rows):(raw sz).R e w base (fun _=>True) v rows:=pw h (fun _ _=>trivial)
theorem Yb (h:d.R e w base ok v xs):N d e w base ok v xs:=by
 obtain⟨h0,inner,ho,hr⟩:=h
 refine⟨h0,chunks d.sz xs.length inner,oJ _ _ _,⟨fun k hk=>hk.symm,inner,by rw[oJ];exact ho,ade hr (fun x c hp=>⟨d.oC (d.lz hp),d.lA (d.lz hp)⟩)⟩,fun j x c hx hc=>?_⟩
 rw[BX hc]
 exact V4 (hr.2 j x hx)
theorem i1 (d:Kd α)(e:Nat)(w:World)(base:Nat)(ok:Nat->Prop):N d e w base ok (.slice none 0 0) []:=Yb (LG _ _ _ _ _)
theorem et (h:N d e w base ok v xs)(bX:∀k,ok k->ok' k):N d e w base ok' v xs:=by
 obtain⟨h0,rows,hl,hR,hf⟩:=h
 exact⟨fun k hk=>bX k (h0 k hk),rows,hl,hR,fun j x c hx hc=>nx (hf j x c hx hc) (fun k hk=>⟨bX k hk.1,hk.2⟩)⟩
theorem BD (h:N d e w base ok v xs):∀k,v.ownBlock=some k->k<w.heap.size:=by
 obtain⟨_,rows,_,hR,_⟩:=h
 exact aiY hR
theorem eK (h:N d e w base ok v xs):∀k,v.ownBlock=some k->base<=k:=by
 obtain⟨_,rows,_,hR,_⟩:=h
 exact LD hR
theorem tq (h:N d e w base ok v xs):∀k,v.ownBlock=some k->∃cells,w.heap[k]?=some (.cells cells e (0,0)):=by
 obtain⟨_,rows,_,hR,_⟩:=h
 exact ai3 hR
theorem tj (h:N d e w base ok v xs):N d e w base (fun k=>ok k/\k<w.heap.size) v xs:=by
 have hlt:=BD h
 obtain⟨h0,rows,hl,hR,hf⟩:=h
 exact⟨fun k hk=>⟨h0 k hk,hlt k hk⟩,rows,hl,hR,fun j x c hx hc=>nx (OM (hf j x c hx hc)) (fun k hk=>⟨⟨hk.1.1,hk.2⟩,hk.1.2⟩)⟩
theorem gp {base':Nat}(h:N d e w base ok v xs)(hb:base'<=base):N d e w base' ok v xs:=by
 obtain⟨h0,rows,hl,hR,hf⟩:=h
 exact⟨h0,rows,hl,BH hR hb,hf⟩
theorem BF (h:N d e w base ok v xs)(hm:∀k,ok k->k<w.heap.size->w1.heap[k]?=w.heap[k]?):N d e w1 base ok v xs:=by
 obtain⟨h0,rows,hl,hR,hf⟩:=h
 exact⟨h0,rows,hl,Ia hR (fun k hk hlt=>hm k (h0 k hk.symm) hlt),fun j x c hx hc=>xa (hf j x c hx hc) (fun k hk hlt=>hm k hk.1 hlt)⟩
theorem dz (h:N d e w base ok v xs)(hb:Below w.heap.size w w1):N d e w1 base ok v xs:=BF h (fun k _ hk=>hb.block k hk)
theorem BB (h:N d e w base ok v xs)(o:Obj):N d e (w.alloc o) base ok v xs:=dz h (ax (Below.refl _ _) o)
theorem Lx (h:N d e w base ok v xs)(m:Nat):N d e (w.drewN m) base ok v xs:=dz h (eG (Below.refl _ _) m)
theorem X6 (h:N d e w base ok v xs){row:Option Nat}(hg:w.grownBy w1 row)(bX:∀k,ok k->some k≠row):N d e w1 base ok v xs:=BF h (fun k ho hk=>hg.block k hk (bX k ho))
theorem cw (h:N d e w base ok v xs){p:Addr}(bX:∀k,ok k->k≠p.block)(u:Value):N d e (w.setCell p u) base ok v xs:=BF h (fun k ho _=>Below.heap_setCell w p u k (bX k ho))
theorem r6 (h:N d e w base ok v xs)(hk:Kept w w1 S)(bX:∀k,ok k->¬ S k):N d e w1 base ok v xs:=BF h (fun k ho hlt=>hk.2 k hlt (bX k ho))
theorem c3 (h:N d e w base ok v xs):∃A c,v= .slice A xs.length c:=by
 obtain⟨_,rows,hl,hR,_⟩:=h
 obtain⟨A,c,he⟩:=r9 hR
 exact⟨A,c,by rw[he,hl]⟩
theorem QR (h:N d e w base ok v xs)(hp:0<xs.length):∃g cap,v= .slice (some ⟨g,0,none⟩) xs.length cap/\base<=g/\g<w.heap.size/\∃cells,w.heap[g]?=some (.cells cells e (0,0)):=by
 obtain⟨_,rows,hl,hR,_⟩:=h
 rw[<- hl]at hp ⊢
 exact aiW hR hp
theorem ej {n c:Nat}(h:N d e w base ok (.slice A n c) xs):n=xs.length/\n<=c/\d.C w A xs.length xs:=by
 obtain⟨_,rows,hl,hR,hf⟩:=h
 obtain⟨hn,hc,hC⟩:=jY hR
 refine⟨by omega,hc,?_⟩
 rw[hl]at hC
 refine⟨rfl,hC.2.1,fun hp=>?_⟩
 obtain⟨ad,he,hcell⟩:=hC.2.2 hp
 refine⟨ad,he,fun j p hj=>?_⟩
 have gQ:j<rows.length:=by have:=(List.getElem?_eq_some_iff.1 hj).1;omega
 obtain⟨c',gN,hK,hcc⟩:=hcell j _ (List.getElem?_eq_getElem gQ)
 have hk:=o6 (hf j p _ hj (List.getElem?_eq_getElem gQ))
 refine⟨c',gN,?_,hcc⟩
 rw[show c'=rows[j]from hK.1]
 exact hk
theorem mb {n:Nat}(h:N d e w base ok (.slice A n cc) xs):F d w ok A n xs:=fun W' hW=>by
 have h2:=ej (BF h hW)
 rw[h2.1]
 exact h2.2.2
end
end Kd
end Go.Proofs.YtjgakaembhmhpaaGreatDoorW.PrintWords
