/- Part of the proof of SetsChanged: the walk and the plain laws. It holds without further conditions. -/
import Derived.WalkSpells
import Derived.Deep.RegionLaw
import Derived.Maps.OwnOps
import Derived.Maps.RangeWalk
import Derived.Maps.Views
import Derived.Test.YtjgakaembhmhpaaGreatDoorJAI
set_option linter.unusedVariables false
set_option linter.unusedSimpArgs false
set_option maxHeartbeats 16000000
set_option maxRecDepth 100000
namespace Go.Proofs.YtjgakaembhmhpaaGreatDoor.PA
open Go.RowKit Go.Proofs.YtjgakaembhmhpaaGreatDoorW.PrintWords Go.Proofs.YtjgakaembhmhpaaGreatDoorW.PrintLast Go.Proofs.YtjgakaembhmhpaaGreatDoorW.PrintMore Go.Proofs.YtjgakaembhmhpaaGreatDoorM
theorem Ni (n:Int):IntKind.i64.wrap n=wrap64 n:=by rw[IntKind.wrap_i64,wrap64]
def wm (of:ByteArray->Int)(n:Int)(l:List ay):Int:=l.foldl (fun n t=>wrap64 (n+wrap64 (t.f1 * of t.f0))) n
theorem alJ (of:ByteArray->Int)(n:Int)(l:List ay)(k:Nat)(h:k<l.length):wm of n (l.take (k+1))=wrap64 (wm of n (l.take k)+wrap64 ((l.getD k z79).f1 * of (l.getD k z79).f0)):=by
 unfold wm
 rw[kr h,List.foldl_append]
 simp[List.getD,b8 h]
theorem apH (g:Nat)(lb:Array Value)(a0:Int)(A:Option Addr)(c:Nat)(l:List ay)(of:ByteArray->Int)(w:World)(hr:Kd.C cf w A l.length l)
  (eg:∀args w,(callFunc g args).run Tryz.prog w= .ok (.enter g args) w)
  (hp:∀(W:World) (x:ay),x∈l->Below w.heap.size w W->Calls Tryz.prog g (#[.string x.f0]++lb) W fun e w'=>e= .returned (.int .i64 (of x.f0))/\Below W.heap.size W w'):
  Calls Tryz.prog 115 #[.agg #[.int .i64 a0,.slice A l.length c],.func (.func g) #[] lb] w fun e w'=>e= .returned (.int .i64 (wm of a0 l))/\Below w.heap.size w w':=by
 have bT:=ae hr
 have ig:=ae hp
 clear hr hp
 have hm:=bT.o.2.1
 go_enter Tryz.func115,Tryz.ntmps115
 go_wp2
 go_loopg [5,7,13] l.length (fun bL tQ Dz yL wr=>∃kk:Nat,kk<=l.length/\l.length-kk<=bL/\yL= .int .i64 kk/\tQ= .int .i64 (wm of a0 (l.take kk))/\af (Below w.heap.size w wr))
 case atStart=>exact⟨0,Nat.zero_le _,tA0,rfl,rfl,⟨ax (Below.refl _ w) _⟩⟩
 case round=>
  obtain⟨kk,eO,hg,rfl,rfl,bs⟩:=hrel
  by_cases hlt:kk<l.length
  ·have cp:(kk:Int)< (l.length:Int):=by omega
   obtain⟨ad,e,hx0,hx1⟩:=jD bT.o (kk:Int) tA0 tA0
   cases e
   replace hx0:=(bs.o.cell (b7 w _ hx0)).trans hx0
   replace hx1:=(bs.o.cell (b7 w _ hx1)).trans hx1
   simp only[eQ]at hx0 hx1
   have hy:aJ l (kk:Int)=l[kk]:=tCl
   have dC:af (aJ l (kk:Int)∈l):=⟨tB0⟩
   have dK:=ae (alJ of a0 l kk hlt)
   have dQ:af (l.getD kk z79=aJ l (kk:Int)):=⟨rfl⟩
   clear hy
   generalize wm of a0 (l.take kk)=acc at *
   generalize aJ l (kk:Int)=y at *
   obtain⟨aK,aC⟩:=y
   go_wp2_with fail
   have rN:af (Below w.heap.size w (wr.alloc (.cells #[.string aK,.int .i64 aC] 79))):=⟨ax bs.o _⟩
   have e0:=ah (a8 wr (.cells #[.string aK,.int .i64 aC] 79)) 0
   have e1:=ah (a8 wr (.cells #[.string aK,.int .i64 aC] 79)) 1
   have zV:wr.heap.size< (wr.alloc (.cells #[.string aK,.int .i64 aC] 79)).heap.size:=tA2
   generalize wr.alloc (.cells #[.string aK,.int .i64 aC] 79)=W1 at *
   generalize wr.heap.size=B at *
   have HC:af (∀W:World,(W.cell? ⟨B,0,none⟩=some (.string aK)/\W.cell? ⟨B,1,none⟩=some (.int .i64 aC)/\B<W.heap.size/\af (Below w.heap.size w W))->Calls Tryz.prog g (#[.string aK]++lb) W fun e w'=>e= .returned (.int .i64 (of aK))/\(w'.cell? ⟨B,0,none⟩=some (.string aK)/\w'.cell? ⟨B,1,none⟩=some (.int .i64 aC)/\B<w'.heap.size/\af (Below w.heap.size w w'))):=
    ⟨fun W ⟨s0,s1,s2,kD⟩=>(ig.o W ⟨aK,aC⟩ dC.o kD.o).mono fun e w' ⟨he,hb⟩=>⟨he,(hb.cell (p:=⟨B,0,none⟩) s2).trans s0,(hb.cell (p:=⟨B,1,none⟩) s2).trans s1,fy s2 hb.size,⟨au kD.o hb⟩⟩⟩
   go_region_held3 (fun W=>W.cell? ⟨B,0,none⟩=some (.string aK)/\W.cell? ⟨B,1,none⟩=some (.int .i64 aC)/\B<W.heap.size/\af (Below w.heap.size w W)) (first|exact⟨e0,e1,zV,⟨cB rN.o⟩⟩|assumption) (first|(go_at_fn g;refine(HC.o _ tAc).mono ?_;rintro e w' ⟨rfl,hS⟩))
   rename_i hh
   obtain⟨_,_,_,kg⟩:=hh
   go_wp2
   go_roundg (l.length- (kk+1))
   case measure=>omega
   case rel=>exact⟨kk+1,tA0,tA0,tA7,by rw[dK.o,dQ.o,Ni,Ni],kg⟩
  ·have cp:¬ (kk:Int)< (l.length:Int):=by omega
   have:kk=l.length:=tA0
   subst this
   rw[fJ]at *
   go_wp2
   go_ret
   exact⟨rfl,bs.o⟩
def T5 (sides:List aq)(x:List Int)(f:aj):Prop:=∀t,t∈f.f1->0<=idxFrom (fun s:aq=>s.f0.toList==t.f0.toList) sides 0/\idxFrom (fun s:aq=>s.f0.toList==t.f0.toList) sides 0<x.length
def valueOf (sides:List aq)(x:List Int)(f:aj):Int:=wm (fun n=>rd x (idxFrom (fun s:aq=>s.f0.toList==n.toList) sides 0)) f.f0 f.f1
theorem asS (n:ByteArray)(sides:List aq)(conds:List aj)(x:List Int)(As dJ uj:Option Addr)(cs cc cx:Nat)(W:World)(dp Bs:Nat)
  (qw:W.heap[dp]?=some (.cells #[.slice uj x.length cx] 22 (0,0))) (zL:W.heap[Bs]?=some (.cells #[.slice As sides.length cs,.slice dJ conds.length cc] 29 (0,0)))
  (hs:Kd.C cu W As sides.length sides) (hcs:sides.length<=cs) (hc:Kd.C bc W dJ conds.length conds) (hcc:conds.length<=cc) (hx:Kd.C (Kd.int .i64) W uj x.length x)
  (h0:0<=idxFrom (fun s:aq=>s.f0.toList==n.toList) sides 0) (h1:idxFrom (fun s:aq=>s.f0.toList==n.toList) sides 0<x.length):
  Calls Tryz.prog 116 #[.string n,.pointer (some ⟨dp,0,none⟩),.pointer (some ⟨Bs,0,none⟩)] W fun e w'=>e= .returned (.int .i64 (rd x (idxFrom (fun s:aq=>s.f0.toList==n.toList) sides 0)))/\Below W.heap.size W w':=by
 have e0:W.cell? ⟨dp,0,none⟩=some (.slice uj x.length cx):=ah qw 0
 have e1:W.cell? ⟨Bs,0,none⟩=some (.slice As sides.length cs):=ah zL 0
 have e2:W.cell? ⟨Bs,1,none⟩=some (.slice dJ conds.length cc):=ah zL 1
 obtain⟨ad,rfl,e3⟩:=Kd.uU hx _ h0 h1
 have HS:=ae hs
 have nC:=ae hc
 have HC:∀W1:World,(W1.cell? ⟨dp,0,none⟩=some (.slice (some ad) x.length cx)/\W1.cell? ⟨Bs,0,none⟩=some (.slice As sides.length cs)/\W1.cell? ⟨Bs,1,none⟩=some (.slice dJ conds.length cc)/\W1.cell? (ad.add (idxFrom (fun s:aq=>s.f0.toList==n.toList) sides 0).toNat)=some (.int .i64 (rd x (idxFrom (fun s:aq=>s.f0.toList==n.toList) sides 0)))/\af (Below W.heap.size W W1))->
   Calls Tryz.prog 59 #[.agg #[.slice As sides.length cs,.slice dJ conds.length cc],.string n] W1 fun e w'=>e= .returned (.int .i64 (idxFrom (fun s:aq=>s.f0.toList==n.toList) sides 0))/\(w'.cell? ⟨dp,0,none⟩=some (.slice (some ad) x.length cx)/\w'.cell? ⟨Bs,0,none⟩=some (.slice As sides.length cs)/\w'.cell? ⟨Bs,1,none⟩=some (.slice dJ conds.length cc)/\w'.cell? (ad.add (idxFrom (fun s:aq=>s.f0.toList==n.toList) sides 0).toNat)=some (.int .i64 (rd x (idxFrom (fun s:aq=>s.f0.toList==n.toList) sides 0)))/\af (Below W.heap.size W w')):=
  fun W1 ⟨s0,s1,s2,kD,sS⟩=>(px.calls As cs sides dJ cc conds n _ W1 (Kd.bN HS.o sS.o) hcs (Kd.bN nC.o sS.o) hcc rfl).mono fun e w' ⟨he,hb⟩=>
   ⟨he,bw hb s0,bw hb s1,bw hb s2,bw hb kD,⟨au sS.o hb⟩⟩
 have pT:=ae HC
 clear HC hs hc hx qw zL
 generalize idxFrom (fun s:aq=>s.f0.toList==n.toList) sides 0=Jv at *
 go_enter Tryz.func116,Tryz.ntmps116
 go_wp2
 go_region_held3 (fun W1=>W1.cell? ⟨dp,0,none⟩=some (.slice (some ad) x.length cx)/\W1.cell? ⟨Bs,0,none⟩=some (.slice As sides.length cs)/\W1.cell? ⟨Bs,1,none⟩=some (.slice dJ conds.length cc)/\W1.cell? (ad.add Jv.toNat)=some (.int .i64 (rd x Jv))/\af (Below W.heap.size W W1)) (first|exact⟨e0,e1,e2,e3,⟨cB (Below.refl _ _)⟩⟩|assumption) (first|(go_at_call 59;refine(pT.o _ tAc).mono ?_;rintro e w' ⟨rfl,hS⟩))
 rename_i hh
 obtain⟨_,_,_,_,kg⟩:=hh
 go_wp2
 go_ret
 exact⟨rfl,kg.o⟩
theorem asU (sides:List aq)(conds:List aj)(f:aj)(x:List Int)(As dJ ed uj:Option Addr)(cs cc dR cx:Nat)(w:World)
  (hs:Kd.C cu w As sides.length sides) (hcs:sides.length<=cs) (hc:Kd.C bc w dJ conds.length conds) (hcc:conds.length<=cc) (hf:Kd.C cf w ed f.f1.length f.f1) (hx:Kd.C (Kd.int .i64) w uj x.length x)
  (gO:T5 sides x f):
  Calls Tryz.prog 55 #[.agg #[.slice As sides.length cs,.slice dJ conds.length cc],.agg #[.int .i64 f.f0,.slice ed f.f1.length dR],.slice uj x.length cx] w fun e w'=>e= .returned (.int .i64 (valueOf sides x f))/\Below w.heap.size w w':=by
 have HS:=ae hs
 have nC:=ae hc
 have fX:=ae hf
 have cv:=ae hx
 have uH:=ae gO
 clear hs hc hf hx gO
 have eg:=enters_of Tryz.func116 tA1 rfl
 go_enter Tryz.func55,Tryz.ntmps55
 go_wp2_with (go_at_call 115;refine(apH 116 _ f.f0 _ _ f.f1 (fun n=>rd x (idxFrom (fun s:aq=>s.f0.toList==n.toList) sides 0)) _ (Kd.bN fX.o (ax (ax (ax (Below.refl _ _) _) _) _)) eg ?_).mono ?_;rotate_left;rintro e w' ⟨rfl,hb⟩)
 ·go_ret
  exact⟨rfl,au (ax (ax (ax (Below.refl _ _) _) _) _) hb⟩
 ·intro W t ht hB
  have oK:=au (ax (ax (ax (Below.refl _ w) _) _) _) hB
  exact asS t.f0 sides conds x As dJ uj cs cc cx W (w.heap.size+2) w.heap.size (av (by simpa using a8 ((w.alloc _).alloc _) _) hB) (av (aH (aH (a8 w _) _) _) hB)
   (Kd.bN HS.o oK) hcs (Kd.bN nC.o oK) hcc (Kd.bN cv.o oK) (uH.o t ht).1 (uH.o t ht).2
theorem apa (sides:List aq)(conds:List aj)(f:aj)(x:List Int)(As dJ ed uj:Option Addr)(cs cc dR cx:Nat)(W:World)(Bs dp:Nat)
  (qw:W.heap[dp]?=some (.cells #[.slice uj x.length cx] 22 (0,0))) (zL:W.heap[Bs]?=some (.cells #[.slice As sides.length cs,.slice dJ conds.length cc] 29 (0,0)))
  (hs:Kd.C cu W As sides.length sides) (hcs:sides.length<=cs) (hc:Kd.C bc W dJ conds.length conds) (hcc:conds.length<=cc) (hf:Kd.C cf W ed f.f1.length f.f1) (hx:Kd.C (Kd.int .i64) W uj x.length x)
  (gO:T5 sides x f):
  Calls Tryz.prog 133 #[.agg #[.int .i64 f.f0,.slice ed f.f1.length dR],.pointer (some ⟨Bs,0,none⟩),.pointer (some ⟨dp,0,none⟩)] W fun e w'=>e= .returned (.bool (decide (valueOf sides x f<0)))/\Below W.heap.size W w':=by
 have e0:W.cell? ⟨dp,0,none⟩=some (.slice uj x.length cx):=ah qw 0
 have e1:W.cell? ⟨Bs,0,none⟩=some (.slice As sides.length cs):=ah zL 0
 have e2:W.cell? ⟨Bs,1,none⟩=some (.slice dJ conds.length cc):=ah zL 1
 have l0:=az qw
 have l1:=az zL
 have HS:=ae hs
 have nC:=ae hc
 have fX:=ae hf
 have cv:=ae hx
 have uH:=ae gO
 clear hs hc hf hx gO qw zL
 go_enter Tryz.func133,Tryz.ntmps133
 go_wp2_with (go_at_call 55;refine(asU sides conds f x _ _ _ _ _ _ _ _ _ (Kd.bN HS.o (ax (Below.refl _ _) _)) hcs (Kd.bN nC.o (ax (Below.refl _ _) _)) hcc (Kd.bN fX.o (ax (Below.refl _ _) _)) (Kd.bN cv.o (ax (Below.refl _ _) _)) uH.o).mono ?_;rintro e w' ⟨rfl,hb⟩)
 go_ret
 exact⟨rfl,au (ax (Below.refl _ _) _) hb⟩
theorem ah2 (g:Nat)(lb:Array Value)(A:Option Addr)(c:Nat)(l:List aj)(p:aj->Bool)(w:World)(hr:Kd.C bc w A l.length l)
  (eg:∀args w,(callFunc g args).run Tryz.prog w= .ok (.enter g args) w)
  (hp:∀(W:World) (x:aj) (aN:Option Addr) (c1:Nat),x∈l->Below w.heap.size w W->x.f1.length<=c1->Kd.C cf W aN x.f1.length x.f1->Calls Tryz.prog g (#[.agg #[.int .i64 x.f0,.slice aN x.f1.length c1]]++lb) W fun e w'=>e= .returned (.bool (p x))/\Below W.heap.size W w'):
  Calls Tryz.prog 129 #[.slice A l.length c,.func (.func g) #[] lb] w fun e w'=>e= .returned (.int .i64 (idxFrom p l 0))/\Below w.heap.size w w':=by
 have bT:=ae hr
 have ig:=ae hp
 clear hr hp
 have hm:=bT.o.2.1
 go_enter Tryz.func129,Tryz.ntmps129
 go_wp2
 go_loopg [5,8] l.length (fun bL _ kE wr=>∃kk:Nat,kk<=l.length/\l.length-kk<=bL/\kE= .int .i64 kk/\af (Below w.heap.size w wr)/\af (idxFrom p l 0=idxFrom p (l.drop kk) kk))
 case atStart=>exact⟨0,Nat.zero_le _,tA0,rfl,⟨Below.refl _ w⟩,⟨tA2⟩⟩
 case round=>
  obtain⟨kk,eO,hg,rfl,bs,A⟩:=hrel
  by_cases hlt:kk<l.length
  ·have cp:(kk:Int)< (l.length:Int):=by omega
   obtain⟨ad,aN,c1,e,hx0,hx1,hle,hC⟩:=rh bT.o (kk:Int) tA0 tA0
   cases e
   replace hx0:=(bs.o.cell (b7 w _ hx0)).trans hx0
   replace hx1:=(bs.o.cell (b7 w _ hx1)).trans hx1
   simp only[eQ]at hx0 hx1
   have hy:bH l (kk:Int)=l[kk]:=by simp[bH,List.getD,b8 hlt]
   have mo:=ig.o wr (bH l (kk:Int)) aN c1 tB0 bs.o hle (Kd.bN hC bs.o)
   have dK:=ae (T2 p l z33 kk hlt)
   have dQ:af (l.getD kk z33=bH l (kk:Int)):=⟨rfl⟩
   clear hy hC hle
   cases hq:p (bH l (kk:Int))with
   | true=>
    rw[hq]at mo
    have uJ:=ae hq
    clear hq
    go_wp2_with (go_at_fn g;refine mo.mono ?_;rintro e w' ⟨rfl,hb'⟩)
    go_ret
    refine⟨?_,au bs.o hb'⟩
    rw[A.o,dK.o,dQ.o,uJ.o]
    rfl
   | false=>
    rw[hq]at mo
    have uJ:=ae hq
    clear hq
    go_wp2_with (go_at_fn g;refine mo.mono ?_;rintro e w' ⟨rfl,hb'⟩)
    go_roundg (l.length- (kk+1))
    case measure=>omega
    case rel=>
     refine⟨kk+1,tA0,tA0,tA7,⟨au bs.o hb'⟩,⟨?_⟩⟩
     rw[A.o,dK.o,dQ.o,uJ.o]
     rfl
  ·have cp:¬ (kk:Int)< (l.length:Int):=by omega
   have:kk=l.length:=tA0
   subst this
   go_wp2
   go_ret
   refine⟨?_,bs.o⟩
   rw[A.o,List.drop_length]
   rfl
theorem FR {α:Type}(p:α->Bool):∀(l:List α) (i:Int),0<=i->decide (0<=idxFrom p l i)=l.any p
 | [],i,h=>by simp[idxFrom]
 | x::l,i,h=>by
  rw[idxFrom,List.any_cons]
  split
  ·rename_i hx
   simp[hx,h]
  ·rename_i hx
   rw[FR p l (i+1) tA0]
   simp[hx]
theorem V2 (g:Nat)(lb:Array Value)(A:Option Addr)(c:Nat)(l:List aj)(p:aj->Bool)(w:World)(hr:Kd.C bc w A l.length l)
  (eg:∀args w,(callFunc g args).run Tryz.prog w= .ok (.enter g args) w)
  (hp:∀(W:World) (x:aj) (aN:Option Addr) (c1:Nat),x∈l->Below w.heap.size w W->x.f1.length<=c1->Kd.C cf W aN x.f1.length x.f1->Calls Tryz.prog g (#[.agg #[.int .i64 x.f0,.slice aN x.f1.length c1]]++lb) W fun e w'=>e= .returned (.bool (p x))/\Below W.heap.size W w'):
  Calls Tryz.prog 132 #[.slice A l.length c,.func (.func g) #[] lb] w fun e w'=>e= .returned (.bool (l.any p))/\Below w.heap.size w w':=by
 have HG:=ae (FR p l 0 tA0)
 have mo:=ah2 g lb A c l p w hr eg hp
 clear hr hp
 generalize idxFrom p l 0=Jv at *
 go_enter Tryz.func132,Tryz.ntmps132
 go_wp2_with (go_at_call 129;refine mo.mono ?_;rintro e w' ⟨rfl,hb'⟩)
 go_ret
 exact⟨by rw[<- HG.o];rfl,hb'⟩
theorem ab9 (a b c:Int):fQ.f a b c=some (decide (b<=a)&&decide (a<=c)):=by
 unfold fQ.f
 by_cases h:a>=b
 ·rw[if_pos h]
  have:decide (b<=a)=true:=bn h
  rw[this,Bool.true_and]
 ·rw[if_neg h]
  have:decide (b<=a)=false:=cE h
  rw[this,Bool.false_and]
def od:List aq->List Int->Bool
 | s::ss,n::ns=>(decide (s.f1<=n)&&decide (n<=s.f2))&&od ss ns
 | _,_=>true
theorem aej (sides:List aq)(x:List Int)(k:Nat)(h:k<x.length)(h2:k<sides.length):
  od (sides.drop k) (x.drop k)=((decide ((sides.getD k z77).f1<=x.getD k 0)&&decide (x.getD k 0<=(sides.getD k z77).f2))&&od (sides.drop (k+1)) (x.drop (k+1))):=by
 rw[lF h,lF h2,od]
 simp[List.getD,b8 h,b8 h2]
theorem as1 (l:List aq):od l []=true:=by cases l<;>rfl
def wK (sides:List aq)(x:List Int)(conds:List aj):Bool:=conds.all fun f=>f.f1.all fun t=>decide (0<=idxFrom (fun s:aq=>s.f0.toList==t.f0.toList) sides 0)&&decide (idxFrom (fun s:aq=>s.f0.toList==t.f0.toList) sides 0<x.length)
theorem aqd {sides:List aq}{x:List Int}{conds:List aj}(h:wK sides x conds=true){f:aj}(hf:f∈conds):T5 sides x f:=by
 intro t ht
 have h1:=List.all_eq_true.1 h f hf
 have h2:=List.all_eq_true.1 h1 t ht
 simp only[Bool.and_eq_true,decide_eq_true_eq]at h2
 exact h2
def lf (sides:List aq)(conds:List aj)(x:List Int):Bool:=od sides x&& !(conds.any fun f=>decide (valueOf sides x f<0))
def zB.f (ag:List aq)(ai:List aj)(l1:List Int):Option Bool:=if decide (l1.length<=ag.length)&&wK ag l1 ai then some (lf ag ai l1)else none
theorem zB.calls (bP:Option Addr)(bh:Nat)(ag:List aq)(aQ:Option Addr)(aG:Nat)(ai:List aj)(aN:Option Addr)(c1:Nat)(l1:List Int)(r:Bool)(w:World)(kB:Kd.C cu w bP ag.length ag)(mn:ag.length<=bh)(h9:Kd.C bc w aQ ai.length ai)(iH:ai.length<=aG)(hr1:Kd.C (Kd.int .i64) w aN l1.length l1)(hc1:l1.length<=c1)(h:zB.f ag ai l1=some r):
  Calls Tryz.prog 82 #[.agg #[.slice bP ag.length bh,.slice aQ ai.length aG],.slice aN l1.length c1] w fun e w'=>e= .returned (.bool r)/\Below w.heap.size w w':=by
 unfold zB.f at h
 by_cases wu:(decide (l1.length<=ag.length)&&wK ag l1 ai)=true
 ·rw[if_pos wu]at h
  obtain rfl:=bo h
  clear h
  rw[Bool.and_eq_true,decide_eq_true_eq]at wu
  obtain⟨hlen,bX⟩:=wu
  have pY:=ae bX
  have HS:=ae kB
  have nC:=ae h9
  have cv:=ae hr1
  have hm:=cv.o.2.1
  have FD:=HS.o.2.1
  clear bX kB h9 hr1
  have eg:=enters_of Tryz.func133 tA1 rfl
  go_enter Tryz.func82,Tryz.ntmps82
  go_wp2
  have rN:=aH (a8 w (.cells #[.slice bP ag.length bh,.slice aQ ai.length aG] 29)) (.cells #[.slice aN l1.length c1] 22)
  have uq:((w.alloc (.cells #[.slice bP ag.length bh,.slice aQ ai.length aG] 29)).alloc (.cells #[.slice aN l1.length c1] 22)).heap[w.heap.size+1]?=some (.cells #[.slice aN l1.length c1] 22 (0,0)):=by simpa using a8 (w.alloc (.cells #[.slice bP ag.length bh,.slice aQ ai.length aG] 29)) (.cells #[.slice aN l1.length c1] 22)
  have V0:Below w.heap.size w ((w.alloc (.cells #[.slice bP ag.length bh,.slice aQ ai.length aG] 29)).alloc (.cells #[.slice aN l1.length c1] 22)):=ax (ax (Below.refl _ _) _) _
  have dX:=ae rN
  have dh:=ae uq
  have bA:=ae V0
  clear rN uq V0
  generalize (w.alloc (.cells #[.slice bP ag.length bh,.slice aQ ai.length aG] 29)).alloc (.cells #[.slice aN l1.length c1] 22)=W0 at *
  generalize w.heap.size+1=OD at *
  generalize II:w.heap.size=eT at *
  go_loopg [5,6,9] l1.length (fun bL _ _ lj wr=>∃kk:Nat,kk<=l1.length/\l1.length-kk<=bL/\lj= .int .i64 kk/\af (Below W0.heap.size W0 wr)/\af (od ag l1=od (ag.drop kk) (l1.drop kk)))
  case atStart=>exact⟨0,Nat.zero_le _,tA0,rfl,⟨Below.refl _ _⟩,⟨tA2⟩⟩
  case round=>
   obtain⟨kk,eO,hg,rfl,bs,fL⟩:=hrel
   have b0:=av dX.o bs.o
   have b1:=av dh.o bs.o
   have z0:wr.cell? ⟨eT,0,none⟩=some (.slice bP ag.length bh):=ah b0 0
   have c2:wr.cell? ⟨eT,1,none⟩=some (.slice aQ ai.length aG):=ah b0 1
   have z2:wr.cell? ⟨OD,0,none⟩=some (.slice aN l1.length c1):=ah b1 0
   have AP:af (Below w.heap.size w wr):=⟨cm (II▸bA.o) (II▸bA.o.size) bs.o⟩
   by_cases hlt:kk<l1.length
   ·have cp:(kk:Int)< (l1.length:Int):=by omega
    have axf:(kk:Int)< (ag.length:Int):=tA0
    obtain⟨ad,e,hx0⟩:=Kd.uU cv.o (kk:Int) tA0 tA0
    cases e
    obtain⟨oH,e,hs0,hs1,hs2⟩:=fe HS.o (kk:Int) tA0 tA0
    cases e
    replace hx0:=bw AP.o hx0
    replace hs1:=bw AP.o hs1
    replace hs2:=bw AP.o hs2
    clear hs0
    simp only[eQ]at hx0 hs1 hs2
    have dK:=ae (aej ag l1 kk hlt tA0)
    have dQ:af (ag.getD kk z77=aw ag (kk:Int)):=⟨rfl⟩
    have HZ:af (l1.getD kk 0=rd l1 (kk:Int)):=⟨rfl⟩
    have hK:=ab9 (rd l1 (kk:Int)) (aw ag (kk:Int)).f1 (aw ag (kk:Int)).f2
    generalize rd l1 (kk:Int)=n at *
    generalize aw ag (kk:Int)=y at *
    obtain⟨aK,aC,bM⟩:=y
    have HK:=ae hK
    clear hK
    cases hb:(decide (aC<=n)&&decide (n<=bM))with
    | true=>
     have ak:=ae hb
     have dP:af (fQ.f n aC bM=some true):=⟨by rw[HK.o,hb]⟩
     clear hb HK
     go_wp2
     go_quiet (first|(go_at_call 113;(with_reducible refine(fQ.calls _ _ _ _ _ dP.o).mono ?_);rintro e w' ⟨rfl,⟨cg,rfl⟩⟩;(try first|exact⟨rfl,_,dt _ _ _⟩|exact⟨rfl,_,Eq.trans (dt _ _ _) (congrArg (World.drewN _) (Nat.add_assoc _ _ _))⟩)))
     go_wp2
     go_roundg (l1.length- (kk+1))
     case measure=>omega
     case rel=>
      refine⟨kk+1,tA0,tA0,tA7,⟨eG bs.o _⟩,⟨?_⟩⟩
      rw[fL.o,dK.o,dQ.o,HZ.o]
      simp only
      rw[ak.o,Bool.true_and]
    | false=>
     have ak:=ae hb
     have dP:af (fQ.f n aC bM=some false):=⟨by rw[HK.o,hb]⟩
     clear hb HK
     go_wp2
     go_quiet (first|(go_at_call 113;(with_reducible refine(fQ.calls _ _ _ _ _ dP.o).mono ?_);rintro e w' ⟨rfl,⟨cg,rfl⟩⟩;(try first|exact⟨rfl,_,dt _ _ _⟩|exact⟨rfl,_,Eq.trans (dt _ _ _) (congrArg (World.drewN _) (Nat.add_assoc _ _ _))⟩)))
     go_wp2
     go_ret
     refine⟨?_,eG AP.o _⟩
     unfold lf
     rw[fL.o,dK.o,dQ.o,HZ.o]
     simp only
     rw[ak.o]
     rfl
   ·have cp:¬ (kk:Int)< (l1.length:Int):=by omega
    have:kk=l1.length:=tA0
    subst this
    go_wp2_with (go_at_call 132;refine(V2 133 _ _ _ ai (fun f=>decide (valueOf ag l1 f<0)) _ (Kd.bN nC.o AP.o) eg ?_).mono ?_;rotate_left;rintro e w' ⟨rfl,hb⟩)
    ·go_ret
     refine⟨?_,au AP.o hb⟩
     unfold lf
     rw[fL.o,List.drop_length,as1,Bool.true_and]
     rfl
    ·intro W f ed dR hf hB hle hC
     have oK:=au AP.o hB
     exact apa ag ai f l1 _ _ _ _ _ _ _ _ W _ _ (av b1 hB) (av b0 hB) (Kd.bN HS.o oK) mn (Kd.bN nC.o oK) iH hC (Kd.bN cv.o oK) (aqd pY.o hf)
 ·rw[if_neg wu]at h
  exact absurd h tA2
def gL (W:World)(X:Nat)(xs:List Int):Prop:=W.heap[X]?=some (.cells (nums .i64 xs).toArray 3 (0,0))
theorem gL.cell {W:World}{X:Nat}{xs:List Int}(h:gL W X xs)(i:Nat)(hi:i<xs.length):W.cell? ⟨X,i,none⟩=some (.int .i64 (xs.getD i 0)):=by
 rw[mj h i]
 simp[nums,b8 hi,List.getD]
theorem gL.frozen {W:World}{X:Nat}{xs:List Int}(h:gL W X xs)(i:Nat):W.frozen? ⟨X,i,none⟩=false:=ar h i
theorem gL.set {W:World}{X:Nat}{xs:List Int}(h:gL W X xs)(i:Nat)(v:Int):gL (W.setCell ⟨X,i,none⟩ (.int .i64 v)) X (xs.set i v):=by
 unfold gL
 rw[uV h i]
 simp[nums,List.map_set]
theorem gL.reads {W:World}{X:Nat}{xs:List Int}(h:gL W X xs)(hl:xs.length<=9223372036854775807):Kd.C (Kd.int .i64) W (some ⟨X,0,none⟩) xs.length xs:=by
 refine⟨rfl,hl,fun _=>⟨_,rfl,fun j p hj=>⟨[.int .i64 p],rfl,rfl,fun i u hu=>?_⟩⟩⟩
 have gQ:=(iC.1 hj).1
 cases i with
 | zero=>
  simp only[List.getElem?_cons_zero,Option.some.injEq]at hu
  subst hu
  have hc:=h.cell j gQ
  have e:xs.getD j 0=p:=tDe
  rw[e]at hc
  show W.cell? (Addr.add ⟨X,0,none⟩ (j * 1+0))=_
  rw[Nat.mul_one,Nat.add_zero,add_plain]
  exact hc
 | succ i=>simp at hu
theorem gL.lt {W:World}{X:Nat}{xs:List Int}(h:gL W X xs):X<W.heap.size:=az h
theorem gL.same {W W':World}{X:Nat}{xs:List Int}(h:gL W X xs)(e:W'.heap[X]?=W.heap[X]?):gL W' X xs:=e.trans h
def j3:List aq->List Int->Option (List Int)
 | s::ss,n::ns=>match j3 ss ns with
  | some t=>some (n::t)
  | none=>if n=s.f2 then none else some (wrap64 (n+1)::ss.map (·.f1))
 | _,_=>none
theorem Ur:∀(i:Nat) (sides:List aq) (x t:List Int),sides.length=x.length->i<=x.length->j3 (sides.drop i) (x.drop i)=some t->j3 sides x=some (x.take i++t)
 | 0,sides,x,t,_,_,h=>tAi
 | i+1,[],x,t,hl,hi,h=>by
  cases x with
  | nil=>simp at hi
  | cons n ns=>simp at hl
 | i+1,s::ss,[],t,hl,hi,h=>by simp at hl
 | i+1,s::ss,n::ns,t,hl,hi,h=>by
  have:=Ur i ss ns t tBj (by simpa using hi) tAi
  rw[j3,this]
  simp
theorem acA (i:Nat)(sides:List aq)(x:List Int)(hl:sides.length=x.length)(hi:i<x.length)(h:j3 (sides.drop (i+1)) (x.drop (i+1))=none):
  j3 (sides.drop i) (x.drop i)=if x.getD i 0=(sides.getD i z77).f2 then none else some (wrap64 (x.getD i 0+1)::(sides.drop (i+1)).map (·.f1)):=by
 rw[lF hi,lF (show i<sides.length by omega),j3,h]
 simp[List.getD,b8 hi,b8 (show i<sides.length by omega)]
section
variable {σ:Type}
def sr (sides:List aq)(conds:List aj)(st:σ->List Int->Bool×σ):Nat->σ->List Int->Option σ
 | 0,_,_=>none
 | k+1,s,x=>if lf sides conds x=true then(if(st s x).1=true then(j3 sides x).elim (some (st s x).2) (fun x'=>sr sides conds st k (st s x).2 x')else some (st s x).2)
  else(j3 sides x).elim (some s) (fun x'=>sr sides conds st k s x')
def yf (k:Nat)(sides:List aq)(conds:List aj)(st:σ->List Int->Bool×σ)(s:σ):Option σ:=
 if sides.any (fun v=>decide (v.f2<v.f1))then some s else sr sides conds st k s (sides.map (·.f1))
def GP (w0:World)(g:Nat)(lb:Array Value)(I:Bool->σ->(Nat->Prop)->World->Prop)(st:σ->List Int->Bool×σ)(m:Nat):Prop:=
 ∀(W:World) (s:σ) (F:Nat->Prop) (X:Nat) (x:List Int),I true s F W->(∀k,F k->w0.heap.size<=k)->Below w0.heap.size w0 W->gL W X x->¬ F X->x.length=m->
  Calls Tryz.prog g (#[.slice (some ⟨X,0,none⟩) x.length x.length]++lb) W fun e w'=>e= .returned (.bool (st s x).1)/\∃F',I (st s x).1 (st s x).2 F' w'/\(∀k,F' k->F k\/W.heap.size<=k)/\Kept W w' F/\Below w0.heap.size w0 w'
def AV (I:σ->(Nat->Prop)->World->Prop):Prop:=(∀s F W W',I s F W->W.heap.size<=W'.heap.size->(∀k,F k->W'.heap[k]?=W.heap[k]?)->I s F W')/\∀s F W,I s F W->∀k,F k->k<W.heap.size
end
theorem ach (m:Nat):madeCells #[.int .i64 0] m=(nums .i64 (List.replicate m 0)).toArray:=by
 apply Array.ext'
 simp[madeCells,nums]
 apply List.ext_getElem
 ·simp
 ·intro i h1 h2
  simp[Nat.mod_one]
section
variable {σ:Type}
def js (w0 w:World)(eW:Nat->Prop)(I:σ->(Nat->Prop)->World->Prop)(box:Array Value)(eT X:Nat)(s:σ)(x:List Int)(wr:World):Prop:=
 ∃F,I s F wr/\(∀k,F k->eW k\/w.heap.size<=k)/\(¬ F eT/\¬ F X)/\gL wr X x/\wr.heap[eT]?=some (.cells box 29 (0,0))/\Kept w wr eW/\Below w0.heap.size w0 wr
theorem js.below {w0 w:World}{eW:Nat->Prop}{I:σ->(Nat->Prop)->World->Prop}{box:Array Value}{eT X:Nat}{s:σ}{x:List Int}{wr w1:World}(hI:AV I)(h:js w0 w eW I box eT X s x wr)(hb:Below wr.heap.size wr w1):js w0 w eW I box eT X s x w1:=by
 obtain⟨F,h1,h2,h3,h4,h5,h6,h7⟩:=h
 exact⟨F,hI.1 s F wr w1 h1 hb.size (fun k hk=>hb.block k (hI.2 s F wr h1 k hk)),h2,h3,h4.same (hb.block X h4.lt),(hb.block eT (az h5)).trans h5,h6.below hb,cm h7 h7.size hb⟩
theorem js.setRow {w0 w:World}{eW:Nat->Prop}{I:σ->(Nat->Prop)->World->Prop}{box:Array Value}{eT X:Nat}{s:σ}{x:List Int}{wr:World}(hI:AV I)(h:js w0 w eW I box eT X s x wr)(hw:w0.heap.size<=w.heap.size)(hX:w.heap.size<=X)(hne:eT≠X)(i:Nat)(v:Int):js w0 w eW I box eT X s (x.set i v) (wr.setCell ⟨X,i,none⟩ (.int .i64 v)):=by
 obtain⟨F,h1,h2,h3,h4,h5,h6,h7⟩:=h
 exact⟨F,hI.1 s F wr _ h1 tB8 (fun k hk=>jZ wr _ _ k (fun e=>h3.2 (by subst e;exact hk))),h2,h3,h4.set i v,(jZ wr _ _ eT hne).trans h5,h6.setCell (.inr hX) _,h7.setCell (by show w0.heap.size<=X;omega) _⟩
theorem js.row {w0 w:World}{eW:Nat->Prop}{I:σ->(Nat->Prop)->World->Prop}{box:Array Value}{eT X:Nat}{s:σ}{x:List Int}{wr:World}(h:js w0 w eW I box eT X s x wr):gL wr X x:=by
 obtain⟨F,h1,h2,h3,h4,h5,h6,h7⟩:=h
 exact h4
theorem js.box {w0 w:World}{eW:Nat->Prop}{I:σ->(Nat->Prop)->World->Prop}{box:Array Value}{eT X:Nat}{s:σ}{x:List Int}{wr:World}(h:js w0 w eW I box eT X s x wr):wr.heap[eT]?=some (.cells box 29 (0,0)):=by
 obtain⟨F,h1,h2,h3,h4,h5,h6,h7⟩:=h
 exact h5
theorem js.base {w0 w:World}{eW:Nat->Prop}{I:σ->(Nat->Prop)->World->Prop}{box:Array Value}{eT X:Nat}{s:σ}{x:List Int}{wr:World}(h:js w0 w eW I box eT X s x wr):Below w0.heap.size w0 wr:=by
 obtain⟨F,h1,h2,h3,h4,h5,h6,h7⟩:=h
 exact h7
theorem js.finish {w0 w:World}{eW:Nat->Prop}{I:σ->(Nat->Prop)->World->Prop}{box:Array Value}{eT X:Nat}{s:σ}{x:List Int}{wr:World}(h:js w0 w eW I box eT X s x wr):∃F',I s F' wr/\(∀k,F' k->eW k\/w.heap.size<=k)/\Kept w wr eW/\Below w0.heap.size w0 wr:=by
 obtain⟨F,h1,h2,h3,h4,h5,h6,h7⟩:=h
 exact⟨F,h1,h2,h6,h7⟩
def OL (w0:World)(g:Nat)(lb:Array Value)(I:Bool->σ->(Nat->Prop)->World->Prop)(st:σ->List Int->Bool×σ)(s:σ)(x:List Int):Prop:=
 ∀(W:World) (F:Nat->Prop) (X:Nat),I true s F W->(∀k,F k->w0.heap.size<=k)->Below w0.heap.size w0 W->gL W X x->¬ F X->
  Calls Tryz.prog g (#[.slice (some ⟨X,0,none⟩) x.length x.length]++lb) W fun e w'=>e= .returned (.bool (st s x).1)/\∃F',I (st s x).1 (st s x).2 F' w'/\(∀k,F' k->F k\/W.heap.size<=k)/\Kept W w' F/\Below w0.heap.size w0 w'
theorem GP.at_ {w0:World}{g:Nat}{lb:Array Value}{I:Bool->σ->(Nat->Prop)->World->Prop}{st:σ->List Int->Bool×σ}{m:Nat}(h:GP w0 g lb I st m)(s:σ)(x:List Int)(hx:x.length=m):OL w0 g lb I st s x:=
 fun W F X h1 h2 h3 h4 h5=>h W s F X x h1 h2 h3 h4 h5 hx
def Ends (sides:List aq)(conds:List aj)(st:σ->List Int->Bool×σ)(s' t:σ):Prop:=t=s'\/∃k y,sr sides conds st k t y=some s'
theorem js.step {w0 w:World}{eW:Nat->Prop}{g:Nat}{lb:Array Value}{I:Bool->σ->(Nat->Prop)->World->Prop}{st:σ->List Int->Bool×σ}{box:Array Value}{eT X:Nat}{s:σ}{x:List Int}{wr:World}(hst:OL w0 g lb I st s x)(hw:w0.heap.size<=w.heap.size)(hF:∀k,eW k->w0.heap.size<=k)(h:js w0 w eW (I true) box eT X s x wr):
  Calls Tryz.prog g (#[.slice (some ⟨X,0,none⟩) x.length x.length]++lb) wr fun e w'=>e= .returned (.bool (st s x).1)/\js w0 w eW (I (st s x).1) box eT X (st s x).2 x w':=by
 obtain⟨F,h1,h2,h3,h4,h5,h6,h7⟩:=h
 refine(hst wr F X h1 (fun k hk=>(h2 k hk).elim (hF k) (fun h=>bj hw h)) h7 h4 h3.2).mono fun e w' ⟨he,F',iv,i2,i3,i4⟩=>⟨he,F',iv,fun k hk=>(i2 k hk).elim (h2 k) (fun h=> .inr (bj h6.1 h)),⟨fun hk=>(i2 _ hk).elim h3.1 (fun h=>by have:=az h5;omega),fun hk=>(i2 _ hk).elim h3.2 (fun h=>by have:=h4.lt;omega)⟩,?_,iD h5 i3 h3.1,h6.yP i3 h2,i4⟩
 exact h4.same (i3.2 X h4.lt h3.2)
theorem js.imp {w0 w:World}{eW:Nat->Prop}{I J:σ->(Nat->Prop)->World->Prop}{box:Array Value}{eT X:Nat}{s:σ}{x:List Int}{wr:World}(Fl:∀s F W,I s F W->J s F W)(h:js w0 w eW I box eT X s x wr):js w0 w eW J box eT X s x wr:=by
 obtain⟨F,h1,h2⟩:=h
 exact⟨F,Fl _ _ _ h1,h2⟩
theorem NX (x l:List Int)(i:Nat)(v:Int)(h:i<x.length):(x.take (i+1)++l).set i v=x.take i++(v::l):=by
 rw[kr h]
 have hl:(x.take i).length=i:=tAb
 rw[List.append_assoc,List.set_append_right _ _ tA0,hl,Nat.sub_self]
 simp
def tM (sides:List aq)(k:Nat):List Int:=(sides.take k).map (·.f1)++List.replicate (sides.length-k) 0
theorem ao8 (sides:List aq)(k:Nat)(h:k<=sides.length):(tM sides k).length=sides.length:=by simp[tM];omega
theorem ao9 (sides:List aq)(k:Nat)(h:k<sides.length):(tM sides k).set k (sides.getD k z77).f1=tM sides (k+1):=by
 unfold tM
 have e:sides.length-k=(sides.length- (k+1))+1:=tA0
 have e2:(sides.take (k+1)).map (·.f1)=(sides.take k).map (·.f1)++[(sides.getD k z77).f1]:=by
  rw[kr h,List.map_append]
  simp[List.getD,b8 h]
 have hl:((sides.take k).map (·.f1)).length=k:=tAb
 rw[e,List.replicate_succ,e2,List.set_append_right _ _ tA0,hl,Nat.sub_self,List.set_cons_zero,List.append_assoc]
 rfl
theorem ao7 (sides:List aq):tM sides sides.length=sides.map (·.f1):=by simp[tM]
theorem ak2 (k:Nat)(g:Nat)(lb:Array Value)(I:Bool->σ->(Nat->Prop)->World->Prop)(st:σ->List Int->Bool×σ)(sides:List aq)(conds:List aj)(As dJ:Option Addr)(cs cc:Nat)(s0 s':σ)(eW:Nat->Prop)(w0 w:World)
  (hs:Kd.C cu w0 As sides.length sides) (hcs:sides.length<=cs) (hc:Kd.C bc w0 dJ conds.length conds) (hcc:conds.length<=cc)
  (hB:Below w0.heap.size w0 w) (hI:I true s0 eW w) (hF:∀k,eW k->w0.heap.size<=k) (hst:∀s x,x.length=sides.length->lf sides conds x=true->Ends sides conds st s' (st s x).2->OL w0 g lb I st s x) (FN:AV (I true)) (Fl:∀s F W,I true s F W->I false s F W)
  (eg:∀args w,(callFunc g args).run Tryz.prog w= .ok (.enter g args) w) (hm:sides.length<=8) (bX:∀x:List Int,x.length=sides.length->wK sides x conds=true)
  (h:yf k sides conds st s0=some s'):
  Calls Tryz.prog 53 #[.agg #[.slice As sides.length cs,.slice dJ conds.length cc],.func (.func g) #[] lb] w fun e w'=>e= .returned (.tuple #[])/\∃F',I false s' F' w'/\(∀k,F' k->eW k\/w.heap.size<=k)/\Kept w w' eW/\Below w0.heap.size w0 w':=by
 have HS:=ae hs
 have nC:=ae hc
 have HST:=ae hst
 have q7:=ae FN
 have pY:=ae bX
 have HH:=ae h
 have fX:=ae hF
 have Pk:=ae Fl
 have hw0:=hB.size
 have FJ:=ac1 (P:=Tryz.prog) 22 3 .i64 8 Tryz.underlying22 info3 tA3 sides.length tA0
 have V3:af (js w0 w eW (I true) #[.slice As sides.length cs,.slice dJ conds.length cc] w.heap.size (w.heap.size+1) s0 (tM sides 0) ((w.alloc (.cells #[.slice As sides.length cs,.slice dJ conds.length cc] 29)).alloc (.cells (madeCells #[.int .i64 0] sides.length) 3))):=by
  have hlt:=FN.2 s0 eW w hI
  have hb2:Below w.heap.size w ((w.alloc (.cells #[.slice As sides.length cs,.slice dJ conds.length cc] 29)).alloc (.cells (madeCells #[.int .i64 0] sides.length) 3)):=ax (ax (Below.refl _ _) _) _
  refine⟨eW,FN.1 s0 eW w _ hI hb2.size (fun k hk=>hb2.block k (hlt k hk)),fun k hk=> .inl hk,⟨fun hk=>by have:=hlt _ hk;omega,fun hk=>by have:=hlt _ hk;omega⟩,?_,aH (a8 w _) _,Kept.gF hb2 _,cm hB hw0 hb2⟩
  unfold gL
  rw[show tM sides 0=List.replicate sides.length 0 by simp[tM],<- ach]
  simpa using a8 (w.alloc (.cells #[.slice As sides.length cs,.slice dJ conds.length cc] 29)) (.cells (madeCells #[.int .i64 0] sides.length) 3)
 clear hs hc hst FN bX h hF hI hB Fl
 go_enter Tryz.func53,Tryz.ntmps53
 go_wp2
 have hX:w.heap.size<=w.heap.size+1:=Nat.le_succ _
 have hne:w.heap.size≠w.heap.size+1:=tA0
 generalize (w.alloc (.cells #[.slice As sides.length cs,.slice dJ conds.length cc] 29)).alloc (.cells (madeCells #[.int .i64 0] sides.length) 3)=W2 at *
 generalize II:w.heap.size=eT at *
 have jz:=ae II
 clear II FJ
 generalize eT+1=X at *
 go_loopg [5,6,15] sides.length (fun bL _ _ U5 wr=>∃kk:Nat,kk<=sides.length/\sides.length-kk<=bL/\U5= .int .i64 kk/\af (js w0 w eW (I true) #[.slice As sides.length cs,.slice dJ conds.length cc] eT X s0 (tM sides kk) wr)/\af (∀j,j<kk->¬ (sides.getD j z77).f2< (sides.getD j z77).f1))
 case atStart=>exact⟨0,Nat.zero_le _,tA0,rfl,V3,⟨fun j hj=>absurd hj (Nat.not_lt_zero _)⟩⟩
 case round=>
  obtain⟨kk,eO,hg,rfl,bs,fL⟩:=hrel
  by_cases hlt:kk<sides.length
  ·have cp:(kk:Int)< (sides.length:Int):=by omega
   obtain⟨oH,e,hs0,hs1,hs2⟩:=fe HS.o (kk:Int) tA0 tA0
   cases e
   replace hs0:=bw bs.o.base hs0
   replace hs1:=bw bs.o.base hs1
   replace hs2:=bw bs.o.base hs2
   simp only[eQ]at hs0 hs1 hs2
   have dQ:af (sides.getD kk z77=aw sides (kk:Int)):=⟨rfl⟩
   have uK:=ae (ao9 sides kk hlt)
   generalize aw sides (kk:Int)=y at *
   obtain⟨aK,aC,bM⟩:=y
   have hrow:=bs.o.row.cell kk (by rw[ao8 _ _ eO];exact hlt)
   have hfz:=bs.o.row.frozen kk
   have auq:=bs.o.row.lt
   generalize (tM sides kk).getD kk 0=q0 at *
   by_cases wz:bM<aC
   ·go_wp2
    refine bodyPost_ret (results_none rfl _ _ _) rfl ⟨rfl,?_⟩
    have SM:sides.any (fun v=>decide (v.f2<v.f1))=true:=by
     refine List.any_eq_true.2 ⟨sides.getD kk z77,?_,?_⟩
     ·simp[List.getD,b8 hlt]
     ·rw[dQ.o]
      exact bn wz
    have qP:=HH.o
    unfold yf at qP
    rw[if_pos SM]at qP
    obtain rfl:=bo qP
    exact(bs.o.below q7.o (ax (Below.refl _ _) _)).imp Pk.o |>.finish
   ·go_wp2
    go_roundg (sides.length- (kk+1))
    case measure=>omega
    case rel=>
     refine⟨kk+1,tA0,tA0,tA7,⟨?_⟩,⟨fun j hj=>?_⟩⟩
     ·rw[<- uK.o,dQ.o]
      exact(bs.o.setRow q7.o tAs tAs hne _ _).below q7.o (ax (Below.refl _ _) _)
     ·by_cases e:j=kk
      ·subst e
       rw[dQ.o]
       exact wz
      ·exact fL.o j tA0
  ·have cp:¬ (kk:Int)< (sides.length:Int):=by omega
   have:kk=sides.length:=tA0
   subst this
   have xx:af (sides.any (fun v=>decide (v.f2<v.f1))=false):=⟨by
    rw[List.any_eq_false]
    intro v hv
    obtain⟨j,hj,rfl⟩:=List.getElem_of_mem hv
    have:=fL.o j hj
    simpa[List.getD,b8 hj]using this⟩
   have br:af (sr sides conds st k s0 (sides.map (·.f1))=some s'):=⟨by
    have:=HH.o
    unfold yf at this
    rw[xx.o]at this
    simpa using this⟩
   clear xx fL HH
   rw[ao7]at bs
   go_wp2
   go_loopg [7] k (fun ZU _ wr=>∃(s:σ) (x:List Int),af (ZU<=k)/\af (x.length=sides.length)/\af (js w0 w eW (I true) #[.slice As sides.length cs,.slice dJ conds.length cc] eT X s x wr)/\af (sr sides conds st ZU s x=some s'))
   case atStart=>exact⟨s0,_,⟨bl _⟩,⟨tA2⟩,bs,br⟩
   case round=>
    clear bs br eO hg hlt cp V3
    obtain⟨s,x,HK,cv,bs,br⟩:=hrel
    cases gk with
    | zero=>exact absurd br.o (by simp[sr])
    | succ k1=>
     have uH:af (zB.f sides conds x=some (lf sides conds x)):=⟨by
      unfold zB.f
      rw[if_pos]
      rw[Bool.and_eq_true,decide_eq_true_eq]
      exact⟨tAq,pY.o x cv.o⟩⟩
     have jc:af (Calls Tryz.prog 82 #[.agg #[.slice As sides.length cs,.slice dJ conds.length cc],.slice (some ⟨X,0,none⟩) sides.length sides.length] wr fun e w'=>e= .returned (.bool (lf sides conds x))/\js w0 w eW (I true) #[.slice As sides.length cs,.slice dJ conds.length cc] eT X s x w'):=⟨by
      have wE:=bs.o.row.reads tAq
      have hx:=cv.o
      have hc:=zB.calls As cs sides dJ cc conds (some ⟨X,0,none⟩) x.length x _ wr (Kd.bN HS.o bs.o.base) hcs (Kd.bN nC.o bs.o.base) hcc wE (bl _) uH.o
      rw[hx]at hc
      exact hc.mono fun e w' ⟨he,hb⟩=>⟨he,bs.o.below q7.o hb⟩⟩
     have e0:wr.cell? ⟨eT,0,none⟩=some (.slice As sides.length cs):=ah bs.o.box 0
     have e1:wr.cell? ⟨eT,1,none⟩=some (.slice dJ conds.length cc):=ah bs.o.box 1
     have iW:=br.o
     unfold sr at iW
     cases gO:lf sides conds x with
     | false=>
      rw[gO]at jc iW
      have bm:af ((j3 sides x).elim (some s) (fun x'=>sr sides conds st k1 s x')=some s'):=⟨by simpa using iW⟩
      clear gO iW uH br
      go_wp2_with (go_at_call 82;refine jc.o.mono ?_;rintro e w' ⟨rfl,y6⟩)
      have fx:=ae y6
      clear y6 e0 e1 jc bs
      go_loopg [7] sides.length (fun bL Dz wr2=>∃(j:Nat) (q:Int),j<=sides.length/\j<=bL/\Dz= .int .i64 q/\q+1=j/\af (js w0 w eW (I true) #[.slice As sides.length cs,.slice dJ conds.length cc] eT X s (x.take j++(sides.map (·.f1)).drop j) wr2)/\af (j3 (sides.drop j) (x.drop j)=none))
      case atStart=>exact⟨sides.length,(sides.length:Int)-1,bl _,bl _,tC0,tA0,⟨tDv⟩,⟨tE3⟩⟩
      case round=>
       obtain⟨j,q,hj,aaX,rfl,hq,BE,kg⟩:=hrel
       cases j with
       | zero=>
        obtain rfl:q= -1:=tA0
        have e0:=ah BE.o.box 0
        have e1:=ah BE.o.box 1
        go_wp2
        go_quiet (fail)
        go_wp2
        refine bodyPost_ret (results_none rfl _ _ _) rfl ⟨rfl,?_⟩
        have gJ:=bm.o
        rw[show j3 sides x=none from by simpa using kg.o]at gJ
        obtain rfl:=bo gJ
        exact(BE.o.below q7.o (eG (Below.refl _ _) _)).imp Pk.o |>.finish
       | succ i=>
        obtain rfl:q=(i:Int):=tA0
        have mJ:i<x.length:=tAq
        have aon:(i:Int)< (sides.length:Int):=tA0
        have e0:wr.cell? ⟨eT,0,none⟩=some (.slice As sides.length cs):=ah BE.o.box 0
        have e1:wr.cell? ⟨eT,1,none⟩=some (.slice dJ conds.length cc):=ah BE.o.box 1
        have hlen:(x.take (i+1)++(sides.map (·.f1)).drop (i+1)).length=sides.length:=tC9
        have hrow:=BE.o.row.cell i (by rw[hlen];omega)
        have hfz:=BE.o.row.frozen i
        have hgd:(x.take (i+1)++(sides.map (·.f1)).drop (i+1)).getD i 0=x.getD i 0:=by
         rw[List.getD_eq_getElem?_getD,List.getD_eq_getElem?_getD,qb tAb,jC tA0]
        rw[hgd]at hrow
        obtain⟨oH,e,hs0,hs1,hs2⟩:=fe HS.o (i:Int) tA0 tA0
        cases e
        replace hs1:=bw BE.o.base hs1
        replace hs2:=bw BE.o.base hs2
        clear hs0 hlen hgd
        simp only[eQ]at hs1 hs2
        have xd:=ae (acA i sides x tAq mJ kg.o)
        have dQ:af (sides.getD i z77=aw sides (i:Int)):=⟨rfl⟩
        have Qn:af (x.take i++[x.getD i 0]++(sides.map (·.f1)).drop (i+1)=x.take (i+1)++(sides.map (·.f1)).drop (i+1)):=⟨by
         rw[kr mJ]
         simp[List.getD,b8 mJ]⟩
        generalize aw sides (i:Int)=y at *
        obtain⟨aK,aC,bM⟩:=y
        have Po:af (aC::(sides.map (·.f1)).drop (i+1)=(sides.map (·.f1)).drop i):=⟨by
         rw[lF (show i< (sides.map (·.f1)).length by simp;omega)]
         have e:=congrArg aq.f1 dQ.o
         simp only[List.getD,b8 (show i<sides.length by omega),Option.getD_some]at e
         simp[e]⟩
        by_cases heq:x.getD i 0=bM
        ·have pX:af (j3 (sides.drop i) (x.drop i)=none):=⟨by rw[xd.o,dQ.o];exact if_pos heq⟩
         have SR:(x.getD i 0==bM)=true:=beq_iff_eq.2 heq
         have KE:=ae heq
         clear heq xd
         generalize x.getD i 0=Kf at *
         go_wp2
         go_quiet (fail)
         go_wp2
         go_roundg i
         case measure=>omega
         case rel=>
          refine⟨i,(i:Int)-1,tA0,bl _,tC0,tA0,⟨?_⟩,pX⟩
          rw[<- Po.o,<- NX x _ i _ mJ]
          exact(BE.o.below q7.o (eG (Below.refl _ _) _)).setRow q7.o tAs tAs hne _ _
        ·have pX:af (j3 sides x=some (x.take i++(wrap64 (x.getD i 0+1)::(sides.map (·.f1)).drop (i+1)))):=⟨by
          refine Ur i sides x _ tAq tA0 ?_
          rw[xd.o,dQ.o,if_neg heq]
          simp⟩
         have SR:(x.getD i 0==bM)=false:=ey.2 heq
         clear heq xd Qn
         generalize x.getD i 0=Kf at *
         go_wp2
         go_quiet (fail)
         go_wp2
         go_roundg k1
         case measure=>omega
         case rel=>
          refine⟨s,x.take i++(wrap64 (Kf+1)::(sides.map (·.f1)).drop (i+1)),⟨by have:=HK.o;omega⟩,⟨tC9⟩,⟨?_⟩,⟨tEu⟩⟩
          rw[<- NX x _ i _ mJ]
          exact(BE.o.below q7.o (eG (Below.refl _ _) _)).setRow q7.o tAs tAs hne _ _
     | true=>
      rw[gO]at jc iW
      simp only[if_true]at iW
      have A8:af (Ends sides conds st s' (st s x).2):=⟨by
       have h0:=iW
       by_cases h1:(st s x).1=true
       ·rw[if_pos h1]at h0
        cases hn:j3 sides x with
        | none=>rw[hn]at h0;exact .inl (by simpa using h0)
        | some x'=>rw[hn]at h0;exact .inr ⟨_,x',by simpa using h0⟩
       ·rw[if_neg h1]at h0
        exact .inl (by simpa using h0)⟩
      have fV:af (∀w',js w0 w eW (I true) #[.slice As sides.length cs,.slice dJ conds.length cc] eT X s x w'->Calls Tryz.prog g (#[.slice (some ⟨X,0,none⟩) sides.length sides.length]++lb) w' fun e w'=>e= .returned (.bool (st s x).1)/\js w0 w eW (I (st s x).1) #[.slice As sides.length cs,.slice dJ conds.length cc] eT X (st s x).2 x w'):=⟨fun w' SA=>by
       have hc:=SA.step (HST.o s x cv.o gO A8.o) tAs fX.o
       rw[cv.o]at hc
       exact hc⟩
      cases hb:(st s x).1 with
      | false=>
       rw[hb]at iW fV
       have bm:af ((st s x).2=s'):=⟨by simpa using iW⟩
       clear gO iW uH br hb
       go_wp2_with (first|(go_at_call 82;refine jc.o.mono ?_;rintro e w' ⟨rfl,y6⟩)|(go_at_fn g;refine(fV.o _ tAc).mono ?_;rintro e w' ⟨rfl,A6⟩))
       refine bodyPost_ret (results_none rfl _ _ _) rfl ⟨rfl,?_⟩
       have h2:=bm.o
       subst h2
       exact A6.finish
      | true=>
       rw[hb]at iW fV
       have bm:af ((j3 sides x).elim (some (st s x).2) (fun x'=>sr sides conds st k1 (st s x).2 x')=some s'):=⟨by simpa using iW⟩
       clear gO iW uH br hb
       go_wp2_with (first|(go_at_call 82;refine jc.o.mono ?_;rintro e w' ⟨rfl,y6⟩)|(go_at_fn g;refine(fV.o _ tAc).mono ?_;rintro e w' ⟨rfl,A6⟩))
       have fx:=ae A6
       clear A6 e0 e1 jc bs
       go_loopg [7] sides.length (fun bL Dz wr2=>∃(j:Nat) (q:Int),j<=sides.length/\j<=bL/\Dz= .int .i64 q/\q+1=j/\af (js w0 w eW (I true) #[.slice As sides.length cs,.slice dJ conds.length cc] eT X (st s x).2 (x.take j++(sides.map (·.f1)).drop j) wr2)/\af (j3 (sides.drop j) (x.drop j)=none))
       case atStart=>exact⟨sides.length,(sides.length:Int)-1,bl _,bl _,tC0,tA0,⟨tDv⟩,⟨tE3⟩⟩
       case round=>
        obtain⟨j,q,hj,aaX,rfl,hq,BE,kg⟩:=hrel
        cases j with
        | zero=>
         obtain rfl:q= -1:=tA0
         have e0:=ah BE.o.box 0
         have e1:=ah BE.o.box 1
         go_wp2
         go_quiet (fail)
         go_wp2
         refine bodyPost_ret (results_none rfl _ _ _) rfl ⟨rfl,?_⟩
         have gJ:=bm.o
         rw[show j3 sides x=none from by simpa using kg.o]at gJ
         obtain rfl:=bo gJ
         exact(BE.o.below q7.o (eG (Below.refl _ _) _)).imp Pk.o |>.finish
        | succ i=>
         obtain rfl:q=(i:Int):=tA0
         have mJ:i<x.length:=tAq
         have aon:(i:Int)< (sides.length:Int):=tA0
         have e0:wr.cell? ⟨eT,0,none⟩=some (.slice As sides.length cs):=ah BE.o.box 0
         have e1:wr.cell? ⟨eT,1,none⟩=some (.slice dJ conds.length cc):=ah BE.o.box 1
         have hlen:(x.take (i+1)++(sides.map (·.f1)).drop (i+1)).length=sides.length:=tC9
         have hrow:=BE.o.row.cell i (by rw[hlen];omega)
         have hfz:=BE.o.row.frozen i
         have hgd:(x.take (i+1)++(sides.map (·.f1)).drop (i+1)).getD i 0=x.getD i 0:=by
          rw[List.getD_eq_getElem?_getD,List.getD_eq_getElem?_getD,qb tAb,jC tA0]
         rw[hgd]at hrow
         obtain⟨oH,e,hs0,hs1,hs2⟩:=fe HS.o (i:Int) tA0 tA0
         cases e
         replace hs1:=bw BE.o.base hs1
         replace hs2:=bw BE.o.base hs2
         clear hs0 hlen hgd
         simp only[eQ]at hs1 hs2
         have xd:=ae (acA i sides x tAq mJ kg.o)
         have dQ:af (sides.getD i z77=aw sides (i:Int)):=⟨rfl⟩
         have Qn:af (x.take i++[x.getD i 0]++(sides.map (·.f1)).drop (i+1)=x.take (i+1)++(sides.map (·.f1)).drop (i+1)):=⟨by
          rw[kr mJ]
          simp[List.getD,b8 mJ]⟩
         generalize aw sides (i:Int)=y at *
         obtain⟨aK,aC,bM⟩:=y
         have Po:af (aC::(sides.map (·.f1)).drop (i+1)=(sides.map (·.f1)).drop i):=⟨by
          rw[lF (show i< (sides.map (·.f1)).length by simp;omega)]
          have e:=congrArg aq.f1 dQ.o
          simp only[List.getD,b8 (show i<sides.length by omega),Option.getD_some]at e
          simp[e]⟩
         by_cases heq:x.getD i 0=bM
         ·have pX:af (j3 (sides.drop i) (x.drop i)=none):=⟨by rw[xd.o,dQ.o];exact if_pos heq⟩
          have SR:(x.getD i 0==bM)=true:=beq_iff_eq.2 heq
          have KE:=ae heq
          clear heq xd
          generalize x.getD i 0=Kf at *
          go_wp2
          go_quiet (fail)
          go_wp2
          go_roundg i
          case measure=>omega
          case rel=>
           refine⟨i,(i:Int)-1,tA0,bl _,tC0,tA0,⟨?_⟩,pX⟩
           rw[<- Po.o,<- NX x _ i _ mJ]
           exact(BE.o.below q7.o (eG (Below.refl _ _) _)).setRow q7.o tAs tAs hne _ _
         ·have pX:af (j3 sides x=some (x.take i++(wrap64 (x.getD i 0+1)::(sides.map (·.f1)).drop (i+1)))):=⟨by
           refine Ur i sides x _ tAq tA0 ?_
           rw[xd.o,dQ.o,if_neg heq]
           simp⟩
          have SR:(x.getD i 0==bM)=false:=ey.2 heq
          clear heq xd Qn
          generalize x.getD i 0=Kf at *
          go_wp2
          go_quiet (fail)
          go_wp2
          go_roundg k1
          case measure=>omega
          case rel=>
           refine⟨(st s x).2,x.take i++(wrap64 (Kf+1)::(sides.map (·.f1)).drop (i+1)),⟨by have:=HK.o;omega⟩,⟨tC9⟩,⟨?_⟩,⟨tEu⟩⟩
           rw[<- NX x _ i _ mJ]
           exact(BE.o.below q7.o (eG (Below.refl _ _) _)).setRow q7.o tAs tAs hne _ _
theorem Zd (k:Nat)(g:Nat)(lb:Array Value)(I:Bool->σ->(Nat->Prop)->World->Prop)(st:σ->List Int->Bool×σ)(sides:List aq)(conds:List aj)(As dJ:Option Addr)(cs cc:Nat)(s0 s':σ)(eW:Nat->Prop)(w0 w:World)
  (hs:Kd.C cu w0 As sides.length sides) (hcs:sides.length<=cs) (hc:Kd.C bc w0 dJ conds.length conds) (hcc:conds.length<=cc)
  (hB:Below w0.heap.size w0 w) (hI:I true s0 eW w) (hF:∀k,eW k->w0.heap.size<=k) (hst:GP w0 g lb I st sides.length) (FN:AV (I true)) (Fl:∀s F W,I true s F W->I false s F W)
  (eg:∀args w,(callFunc g args).run Tryz.prog w= .ok (.enter g args) w) (hm:sides.length<=8) (bX:∀x:List Int,x.length=sides.length->wK sides x conds=true)
  (h:yf k sides conds st s0=some s'):
  Calls Tryz.prog 53 #[.agg #[.slice As sides.length cs,.slice dJ conds.length cc],.func (.func g) #[] lb] w fun e w'=>e= .returned (.tuple #[])/\∃F',I false s' F' w'/\(∀k,F' k->eW k\/w.heap.size<=k)/\Kept w w' eW/\Below w0.heap.size w0 w':=
 ak2 k g lb I st sides conds As dJ cs cc s0 s' eW w0 w hs hcs hc hcc hB hI hF (fun s x hx _ _=>hst.at_ s x hx) FN Fl eg hm bX h
end
def F0 (sides:List aq)(conds:List aj):Bool:=decide (sides.length<=8)&&wK sides (sides.map (·.f1)) conds
theorem Uz {sides:List aq}{conds:List aj}(h:F0 sides conds=true):sides.length<=8/\∀x:List Int,x.length=sides.length->wK sides x conds=true:=by
 unfold F0 at h
 rw[Bool.and_eq_true,decide_eq_true_eq]at h
 refine⟨h.1,fun x hx=>?_⟩
 have h2:=h.2
 unfold wK at h2 ⊢
 rw[hx]
 rw[fc]at h2
 exact h2
theorem akA (o0:Nat)(n:Int)(A:Option Addr)(m c:Nat)(W:World)(hb:W.heap[o0]?=some (.cells #[.int .i64 n] 3 (0,0))):
  Calls Tryz.prog 128 #[.slice A m c,.pointer (some ⟨o0,0,none⟩)] W fun e w'=>e= .returned (.bool true)/\w'=W.setCell ⟨o0,0,none⟩ (.int .i64 (wrap64 (n+1))):=by
 have h0:W.cell? ⟨o0,0,none⟩=some (.int .i64 n):=ah hb 0
 have h1:=ar hb 0
 go_enter Tryz.func128,Tryz.ntmps128
 go_wp2
 go_ret
 exact⟨rfl,rfl⟩
def Qx (o0:Nat)(n:Int)(F:Nat->Prop)(W:World):Prop:=(∀k,F k->k=o0)/\F o0/\W.heap[o0]?=some (.cells #[.int .i64 n] 3 (0,0))
def Vl (n:Int)(x:List Int):Bool×Int:=(true,wrap64 (n+1))
theorem akC (o0:Nat):AV (Qx o0):=
 ⟨fun n F W W' ⟨h1,h2,h3⟩ _ hs=>⟨h1,h2,(hs o0 h2).trans h3⟩,fun n F W ⟨h1,h2,h3⟩ k hk=>by rw[h1 k hk];exact az h3⟩
theorem akD (w0:World)(o0 m:Nat):GP w0 128 #[.pointer (some ⟨o0,0,none⟩)] (fun _=>Qx o0) Vl m:=by
 intro W n F X x ⟨h1,h2,h3⟩ hF hB hX axk hx
 refine(akA o0 n _ _ _ W h3).mono fun e w' ⟨he,hw⟩=>⟨he,F,⟨h1,h2,?_⟩,fun k hk=> .inl hk,?_,?_⟩
 ·rw[hw,uV h3 0]
  rfl
 ·rw[hw]
  exact(Kept.refl W F).setCell (.inl h2) _
 ·rw[hw]
  exact hB.setCell (hF o0 h2) _
def Ij.f (k:Nat)(ag:List aq)(ai:List aj):Option (Int×Int):=
 (en.f k ag ai).bind fun e=>if e=0 then(if F0 ag ai=true then(yf k ag ai Vl 0).bind fun n=>some (n,0)else none)else some (0,e)
theorem Ij.calls (k:Nat)(bP:Option Addr)(bh:Nat)(ag:List aq)(aQ:Option Addr)(aG:Nat)(ai:List aj)(r1:Int)(r2:Int)(w:World)(kB:Kd.C cu w bP ag.length ag)(mn:ag.length<=bh)(h9:Kd.C bc w aQ ai.length ai)(iH:ai.length<=aG)(h:Ij.f k ag ai=some (r1,r2)):
  Calls Tryz.prog 73 #[.agg #[.slice bP ag.length bh,.slice aQ ai.length aG]] w fun e w'=>e= .returned (.tuple #[.int .i64 r1,.int .i64 r2])/\Below w.heap.size w w':=by
 have HS:=ae kB
 have nC:=ae h9
 clear kB h9
 unfold Ij.f at h
 obtain⟨e,he,h⟩:=eL.1 h
 have G4:=ae he
 clear he
 by_cases e0:e=0
 ·rw[if_pos e0]at h
  subst e0
  by_cases bX:F0 ag ai=true
  ·rw[if_pos bX]at h
   obtain⟨n,hn,h⟩:=eL.1 h
   have bm:=ae hn
   have pY:=ae (Uz bX)
   clear hn bX
   simp only[Option.some.injEq,Prod.mk.injEq]at h
   obtain⟨rfl,rfl⟩:=h
   have eg:=enters_of Tryz.func128 tA1 rfl
   go_enter Tryz.func73,Tryz.ntmps73
   go_wp2_with (first|(go_at_call 51;refine(en.calls k _ _ ag _ _ ai 0 _ (Kd.bN HS.o (ax (Below.refl _ _) _)) mn (Kd.bN nC.o (ax (Below.refl _ _) _)) iH G4.o).mono ?_;rintro e w1 ⟨rfl,hb⟩;have z0:w1.cell? ⟨w.heap.size,0,none⟩=some (.slice bP ag.length bh):=(mj (av (a8 w _) hb) 0).trans rfl;have c2:w1.cell? ⟨w.heap.size,1,none⟩=some (.slice aQ ai.length aG):=(mj (av (a8 w _) hb) 1).trans rfl;have GG:=az (av (a8 w _) hb);have ak:=ae (au (ax (Below.refl w.heap.size w) _) hb);clear hb)|(go_at_call 53;refine(Zd k 128 _ (fun _=>Qx w1.heap.size) Vl ag ai _ _ _ _ 0 n (fun b=>b=w1.heap.size) w _ HS.o mn nC.o iH (ax ak.o _) ⟨fun _ hk=>hk,rfl,a8 _ _⟩ (fun b hk=>by have h2:=ak.o.size;omega) (akD w w1.heap.size _) (akC _) (fun _ _ _ h=>h) eg pY.o.1 pY.o.2 bm.o).mono ?_;rintro e w2 ⟨rfl,F',⟨iv,i2,i3⟩,i4,i5,Jq⟩;have z3:w2.cell? ⟨w1.heap.size,0,none⟩=some (.int .i64 n):=(mj i3 0).trans rfl))
   go_ret2
   exact⟨rfl,Jq⟩
  ·rw[if_neg bX]at h
   exact absurd h tA2
 ·rw[if_neg e0]at h
  simp only[Option.some.injEq,Prod.mk.injEq]at h
  obtain⟨rfl,rfl⟩:=h
  have e1:(e !=0)=true:=bne_iff_ne.2 e0
  go_enter Tryz.func73,Tryz.ntmps73
  go_wp2_with (go_at_call 51;refine(en.calls k _ _ ag _ _ ai e _ (Kd.bN HS.o (ax (Below.refl _ _) _)) mn (Kd.bN nC.o (ax (Below.refl _ _) _)) iH G4.o).mono ?_;rintro e w1 ⟨rfl,hb⟩)
  go_ret2
  exact⟨rfl,au (ax (Below.refl _ _) _) hb⟩
theorem ae5 (ad:Addr)(c:Nat)(xs:List Int)(w:World)(hr:Kd.C (Kd.int .i64) w (some ad) xs.length xs)(hl:xs.length * 8<=140737488355328):
  Calls Tryz.prog 95 #[.slice (some ad) xs.length c] w fun e w'=>∃v:Value,e= .returned v/\Kd.R (Kd.int .i64) 3 w' w.heap.size (fun _=>True) v xs/\Below w.heap.size w w':=by
 have bT:=ae hr
 have br:=ae hl
 clear hr hl
 have hq:∀W:World,(binOp .eql 22 (.slice (some ad) xs.length c) (.slice none 0 0)).run Tryz.prog W= .ok (.bool false) W:=fun W=>Lib.run_eql_slice_nil W 22 3 _ _ _ _ _ Tryz.underlying22
 go_enter Tryz.func95,Tryz.ntmps95
 go_wp2_with (first|((with_reducible refine c5 (N:=5) rfl ?_);refine Kd.H9 (Kd.int .i64) w.heap.size 3 ?hg (N:=5) ?hd (xs:=([]:List Int)) (inner:=[]) (ok:=fun _=>True) (okp:=fun _=>True) ?hr ?hp (fun _ hk=>hk) trivial (Below.refl _ _) (bl _) tA2 ?_;(case hd=>rfl);(case hg=>rfl);(case hr=>first|(go_simp;done)|(go_simp;rfl));(case hp=>exact bU.none _ _);intro v1 w1 HO ak hg hat;have D6:=ae HO;have bR:=ae ak;clear HO ak hg hat)|(at_builtin;refine Kd.aiP (Value.int .i64) (0:Int) (h1:=fun _=>rfl) w.heap.size rfl (.tmp 5) (.tmp 6) 22 3 (.int .i64 0) 8 rfl Tryz.underlying22 info3 rfl tA3 v1 [] xs (some ad) xs.length c (fun _=>True) rfl rfl (fun _ _=>trivial) D6.o (Kd.bN bT.o bR.o) bR.o bR.o.size (by have:=br.o;simpa using this) ?_;intro v2 w2 KX aI hg hat;have iL:=ae KX;have dX:=ae aI;clear KX aI hg hat))
 go_ret
 exact⟨v2,rfl,iL.o,dX.o⟩
theorem ao6:(Tryz.prog.info? 22).map (fun i=>(i.zero,i.size,i.bytes))=some (some (.slice none 0 0),1,24):=tA1
def Lr (cA base:Nat)(s:List (List Int))(F:Nat->Prop)(W:World):Prop:=
 F cA/\(∀k,F k->k<W.heap.size)/\∃v:Value,W.heap[cA]?=some (.cells #[v] 48 (0,0))/\Kd.N (Kd.slice 3 (Kd.int .i64)) 22 W base (fun k=>F k/\k≠cA) v s
theorem QT (cA base:Nat):AV (Lr cA base):=
 ⟨fun s F W W' ⟨h2,h4,v,h5,h7⟩ hle hs=>⟨h2,fun k hk=>fy (h4 k hk) hle,v,(hs cA h2).trans h5,Kd.BF h7 (fun k hk _=>hs k hk.1)⟩,fun s F W ⟨h2,h4,_⟩ k hk=>h4 k hk⟩
theorem aiH {cA base:Nat}{s:List (List Int)}{F:Nat->Prop}{W w1:World}{v:Value}{s':List (List Int)}(h:Lr cA base s F W)(hk:Kept W w1 (fun k=>F k/\k≠cA))
  (hR:Kd.N (Kd.slice 3 (Kd.int .i64)) 22 w1 base (fun k=>(F k/\k≠cA)\/W.heap.size<=k) v s'):
  ∃F',Lr cA base s' F' (w1.setCell ⟨cA,0,none⟩ v)/\(∀k,F' k->F k\/W.heap.size<=k)/\Kept W (w1.setCell ⟨cA,0,none⟩ v) F:=by
 obtain⟨h2,h4,u,h5,h7⟩:=h
 have hsz:(w1.setCell ⟨cA,0,none⟩ v).heap.size=w1.heap.size:=tB8
 have aX:w1.heap[cA]?=some (.cells #[u] 48 (0,0)):=(hk.2 cA (az h5) (fun h=>h.2 rfl)).trans h5
 refine⟨fun k=>F k\/(W.heap.size<=k/\k<w1.heap.size),⟨.inl h2,fun k fP=>?_,v,a6 aX 0 v rfl,?_⟩,fun k fP=>fP.imp id And.left,?_⟩
 ·rw[hsz]
  exact fP.elim (fun h=>fy (h4 k h) hk.1) And.right
 ·have amb:Kd.N (Kd.slice 3 (Kd.int .i64)) 22 w1 base (fun k=>(F k\/(W.heap.size<=k/\k<w1.heap.size))/\k≠cA) v s':=Kd.et (Kd.tj hR) (fun k fP=>by
   obtain⟨ho,hl⟩:=fP
   rcases ho with ho|ho
   ·exact⟨.inl ho.1,ho.2⟩
   ·have eD:=az h5
    exact⟨.inr ⟨ho,hl⟩,tA0⟩)
  exact Kd.cw (p:=⟨cA,0,none⟩) amb (fun k fP=>fP.2) _
 ·exact(hk.mono (fun k h=>h.1)).setCell (.inl h2) _
open Go.RowKit Go.WideMaps Go.Proofs.YtjgakaembhmhpaaGreatDoorW.PrintWords Go.Proofs.YtjgakaembhmhpaaGreatDoorW.PrintLast Go.Proofs.YtjgakaembhmhpaaGreatDoorW.PrintMore Go.Proofs.YtjgakaembhmhpaaGreatDoorM
open Go.Maps (Keyed string_keyed)
theorem jH:Keyed Tryz.prog 9:=string_keyed Tryz.underlying9
theorem Aj (w:World):(zeroValue 3).run Tryz.prog w= .ok (.int .i64 0) w:=tA1
abbrev p7:=Lit×DataW Unit
def cY (s:ByteArray):Lit:= .string s.data.toList
def lW:DataW Unit:= .lit (.int .i64 0)
def jS:DataW Unit->Int| .lit (.int _ c)=>c|_=>0
def eP (D:DataW Unit)(s:ByteArray):Int:=jS (D.atKey (cY s) lW)
def Mp:DataW Unit->List p7| .map es=>es|_=>[]
def ia (g:p7->Int):List p7->Int
 | []=>0
 | p::r=>g p+ia g r
theorem ape {g:p7->Int}{l l':List p7}(h:l.Perm l'):ia g l=ia g l':=by
 induction h with
 | nil=>rfl
 | cons x _ ih=>simp only[ia,ih]
 | swap x y l=>simp only[ia];omega
 | trans _ _ h1 h2=>exact h1.trans h2
theorem Ju {g g':p7->Int}:∀{l:List p7},(∀p∈l,g p=g' p)->ia g l=ia g' l
 | [],_=>rfl
 | p::r,h=>by simp only[ia,h p tA2,Ju (l:=r) (fun q hq=>h q (by simp[hq]))]
theorem Ub {g:p7->Int}:∀{l:List p7},(∀p∈l,g p=0)->ia g l=0
 | [],_=>rfl
 | p::r,h=>by simp only[ia,h p tA2,Ub (l:=r) (fun q hq=>h q (by simp[hq]))];rfl
theorem Ua (g:p7->Int)(f:p7->Bool):∀l:List p7,ia g (l.filter f)=ia (fun p=>if f p then g p else 0) l
 | []=>rfl
 | p::r=>by
  cases hf:f p
  ·simp only[List.filter_cons,hf,ia,Ua g f r,Bool.false_eq_true,if_false];omega
  ·simp only[List.filter_cons,hf,ia,Ua g f r,if_true]
theorem Nn (g:p7->Int)(k:Lit):∀l:List p7,l.Pairwise (fun p q=>p.1≠q.1)->
  ia g l=(match l.find? (fun p=>p.1.sameKey k)with|some p=>g p|none=>0)+ia (fun p=>if p.1.sameKey k then 0 else g p) l
 | [],_=>by simp[ia]
 | p::r,h=>by
  obtain⟨h1,h2⟩:=List.pairwise_cons.1 h
  cases hk:p.1.sameKey k
  ·have ih:=Nn g k r h2
   simp only[ia,List.find?_cons,hk,ih]
   simp only[Bool.false_eq_true,if_false]
   omega
  ·have e:p.1=k:=WideAt.sameKey_eq hk
   have hr:ia (fun p=>if p.1.sameKey k then 0 else g p) r=ia g r:=Ju (fun q hq=>by
    rw[if_neg]
    intro hs
    exact h1 q hq (e.trans (WideAt.sameKey_eq hs).symm))
   simp only[ia,List.find?_cons,hk,hr,if_true]
   omega
def tO (D:DataW Unit)(G:Lit->Int):Int:=ia (fun p=>jS p.2 * G p.1) (Mp D)
def tr (D:DataW Unit):Prop:=∃es,D= .map es/\es.Pairwise (fun p q=>p.1≠q.1)
theorem isKey (s:ByteArray):WideAt.IsKeyLit (cY s):=trivial
theorem Ad {s t:ByteArray}(h:cY s=cY t):s=t:=by
 unfold cY at h
 injection h with h
 cases s with|mk a=>cases t with|mk b=>
  cases a;cases b;simp_all
theorem pI {s:ByteArray}(h:s.size<=maxLen):keyOf Tryz.prog 9 (.string s)=some (cY s):=keyOf_string_mk Tryz.underlying9 h
theorem Uk (es:List p7)(k:Lit):jS ((DataW.map es).atKey k lW)=(match es.find? (fun p=>p.1.sameKey k)with|some p=>jS p.2|none=>0):=by
 cases hf:es.find? (fun p=>p.1.sameKey k)with
 | none=>simp only[DataW.atKey,hf];rfl
 | some p=>simp only[DataW.atKey,hf]
theorem acz {D:DataW Unit}(h:tr D):Maps.IsMap D:=let ⟨es,e,_⟩:=h;⟨es,e⟩
theorem Um {D:DataW Unit}(h:tr D)(G:Lit->Int)(k:Lit):
  tO D G=jS (D.atKey k lW) * G k+ia (fun p=>if p.1.sameKey k then 0 else jS p.2 * G p.1) (Mp D):=by
 obtain⟨es,rfl,hp⟩:=h
 rw[Uk]
 show ia _ es=_+ia _ es
 rw[Nn _ k es hp]
 congr 1
 cases hf:es.find? (fun p=>p.1.sameKey k)with
 | none=>simp
 | some p=>simp only;rw[WideAt.sameKey_eq (show p.1.sameKey k=true from by simpa using List.find?_some hf)]
theorem acg {D:DataW Unit}(h:tr D)(G:Lit->Int)(k:Lit)(d:DataW Unit):tO (D.put k d) G=tO D G-jS (D.atKey k lW) * G k+jS d * G k:=by
 rw[Um h G k]
 obtain⟨es,rfl,hp⟩:=h
 show ia _ (DataW.insert (k,d) (es.filter fun p=> !p.1.sameKey k))=_-_+_
 rw[ape (Go.WideShapes.insert_perm (k,d) _),ia,Ua]
 have:ia (fun p=>if(!p.1.sameKey k)=true then jS p.2 * G p.1 else 0) es=ia (fun p=>if p.1.sameKey k then 0 else jS p.2 * G p.1) (Mp (.map es)):=Ju (fun p _=>by cases p.1.sameKey k<;>rfl)
 rw[this]
 simp only
 omega
theorem sO {w:World}{b n:Nat}{D:DataW Unit}(h:w.ownsMap Tryz.prog 9 (plainElem Tryz.prog 3) b n D):tr D:=by
 obtain⟨es,rfl,hp,_⟩:=h.entries jH
 exact⟨es,rfl,hp⟩
theorem Ag {D:DataW Unit}(h:tr D)(s t:ByteArray)(v:Int):eP (D.put (cY s) (.lit (.int .i64 v))) t=if t=s then v else eP D t:=by
 unfold eP
 by_cases e:t=s
 ·subst e
  rw[if_pos rfl,Maps.atKey_put_same (acz h) (isKey t)]
  rfl
 ·rw[if_neg e,Maps.atKey_put_other (fun e'=>e (Ad e'))]
theorem as4 {H:Type}{P:Program}(w:World){ops:Array Oper}{rest:List Oper}{o:Oper}{a:Act}{Q:Exit->Act->World->Prop}
  (hg:o.guard=none) (m x v:Operand) (t:TypeId) (hop:o.op=Op.insert t m x v)
  (k e:TypeId) (K:Keyed P k) (ht:P.underlying t=some (.map k e)) (R:Value->Option (DataW H×List MemPlace)) (b n:Nat) (D:DataW H)
  (hm:a.eval m= .map (some b)) (hown:w.ownsMap P k R b n D) (hn:n<maxLen) (key val:Value) (kl:Lit) (hx:a.eval x=key) (hv:a.eval v=val) (hkey:keyOf P k key=some kl)
  (d:DataW H) (ps:List MemPlace) (hval:R val=some (d,ps))
  (hK:∀w',w'.ownsMap P k R b (n+1) (D.put kl d)->w.grownBy w' (some b)->wpList P ops Q rest (a.put o.dst undef) w'):
  wpList P ops Q (o::rest) a w:=by
 refine wpList_plain hg fun K' hK'=>?_
 obtain⟨w',hrun,r1,r2⟩:=hown.update K ht hn hkey hval
 unfold Oper.wp
 simp[execOp,hop,hm,hx,hv,hrun,Result.andThen]
 exact hK' _ _ (hK w' r1 r2)
def yF (D:DataW Unit)(G:Lit->Int)(k0:Lit)(left:Lit->Bool):Int:=ia (fun p=>if left p.1||p.1.sameKey k0 then 0 else jS p.2 * G p.1) (Mp D)
theorem apE {D:DataW Unit}{w:World}{b n:Nat}(h:w.ownsMap Tryz.prog 9 (plainElem Tryz.prog 3) b n D)(G:Lit->Int)(k0:Lit):yF D G k0 (Maps.has D)=0:=by
 obtain⟨es,rfl,hp,hk⟩:=h.entries jH
 refine Ub (fun p hp=>?_)
 have:Maps.has (DataW.map es) p.1=true:=List.any_eq_true.2 ⟨p,hp,WideAt.sameKey_self (hk p hp)⟩
 simp[this]
theorem apD {D:DataW Unit}(h:tr D)(G:Lit->Int)(k0:Lit){left:Lit->Bool}(hl:∀kl,left kl=false):jS (D.atKey k0 lW) * G k0+yF D G k0 left=tO D G:=by
 rw[Um h G k0]
 congr 1
 exact Ju (fun p _=>by simp[hl])
theorem apF {D:DataW Unit}(h:tr D)(G:Lit->Int)(k0:Lit){left:Lit->Bool}{kl:Lit}{c:Int}(pF:WideAt.IsKeyLit kl)(hl:left kl=true)(hat:∀zd,D.atKey kl zd= .lit (.int .i64 c)):
  yF D G k0 (fun z=>left z&& !z.sameKey kl)=yF D G k0 left+(if kl.sameKey k0 then 0 else c * G kl):=by
 obtain⟨es,rfl,hp⟩:=h
 unfold yF
 show ia _ es=ia _ es+_
 rw[Nn _ kl es hp,Nn (fun p=>if left p.1||p.1.sameKey k0 then 0 else jS p.2 * G p.1) kl es hp]
 have h1:ia (fun p=>if p.1.sameKey kl then 0 else if(left p.1&& !p.1.sameKey kl)||p.1.sameKey k0 then 0 else jS p.2 * G p.1) es=ia (fun p=>if p.1.sameKey kl then 0 else if left p.1||p.1.sameKey k0 then 0 else jS p.2 * G p.1) es:=Ju (fun p _=>by cases p.1.sameKey kl<;>simp)
 rw[h1]
 have hf:∃p,es.find? (fun p=>p.1.sameKey kl)=some p/\p.2= .lit (.int .i64 c):=by
  cases hf:es.find? (fun p=>p.1.sameKey kl)with
  | none=>
   have e0:=hat .nil
   have:(DataW.map es).atKey kl (.nil:DataW Unit)= .nil:=by
    simp only[DataW.atKey,hf]
   rw[this]at e0
   cases e0
  | some p=>
   have e0:=hat .nil
   have:(DataW.map es).atKey kl (.nil:DataW Unit)=p.2:=by
    simp only[DataW.atKey,hf]
   exact⟨p,rfl,this.symm.trans e0⟩
 obtain⟨p,hf,M5⟩:=hf
 have e1:=WideAt.sameKey_eq (show p.1.sameKey kl=true from by simpa using List.find?_some hf)
 rw[hf]
 simp only[e1,M5,hl,WideAt.sameKey_self pF,jS]
 cases kl.sameKey k0<;>simp<;>omega
def qJ (G:Lit->Int):List ay->Int
 | []=>0
 | t::r=>t.f1 * G (cY t.f0)+qJ G r
theorem aea (G:Lit->Int):∀a b:List ay,qJ G (a++b)=qJ G a+qJ G b
 | [],b=>by simp[qJ]
 | t::r,b=>by simp only[List.cons_append,qJ,aea G r b];omega
abbrev iB (w:World)(b n:Nat)(D:DataW Unit):Prop:=w.ownsMap Tryz.prog 9 (plainElem Tryz.prog 3) b n D
def vW (D:DataW Unit)(c:Int)(l:List ay):Prop:=∀G:Lit->Int,wrap64 (tO D G)=wrap64 (c * G (cY ⟨#[]⟩)+qJ G l)
theorem aqN (c:Int):vW ((DataW.map []:DataW Unit).put (cY ⟨#[]⟩) (.lit (.int .i64 c))) c []:=by
 intro G
 rw[acg ⟨[],rfl,List.Pairwise.nil⟩]
 have h1:tO (DataW.map []) G=0:=rfl
 have h2:jS ((DataW.map []:DataW Unit).atKey (cY ⟨#[]⟩) lW)=0:=rfl
 rw[h1,h2]
 simp only[qJ,jS]
 congr 1
 omega
theorem aqO {D:DataW Unit}{c:Int}{l:List ay}(hn:tr D)(h:vW D c l)(t:ay){q:Int}(hq:D.atKey (cY t.f0) (.lit (.int .i64 0))= .lit (.int .i64 q)):
  vW (D.put (cY t.f0) (.lit (.int .i64 (wrap64 (q+t.f1))))) c (l++[t]):=by
 intro G
 rw[acg hn]
 have h2:jS (D.atKey (cY t.f0) lW)=q:=by unfold lW;rw[hq];rfl
 rw[h2,aea]
 have h3:=h G
 simp only[qJ,jS]
 generalize G (cY t.f0)=g at *
 generalize tO D G=S at *
 generalize c * G (cY ⟨#[]⟩)=C at *
 generalize qJ G l=T at *
 have h4:∃z,wrap64 (q+t.f1)=q+t.f1+18446744073709551616 * z:=⟨-((q+t.f1+9223372036854775808) / 18446744073709551616),tCo⟩
 obtain⟨z,hz⟩:=h4
 rw[hz]
 have h5:S-q * g+(q+t.f1+18446744073709551616 * z) * g=S+t.f1 * g+18446744073709551616 * (z * g):=by
  rw[Int.add_mul,Int.add_mul,Int.mul_assoc]
  omega
 rw[h5]
 generalize z * g=u
 generalize t.f1 * g=v
 unfold wrap64 at *
 omega
theorem acZ (bf:Int)(l:List ay)(A:Option Addr)(c:Nat)(w:World)(hr:Kd.C cf w A l.length l)(hc0:(Lit.int .i64 bf).wf=true)(hn:l.length<1000)(hs:∀t∈l,t.f0.size<=maxLen):
  Calls Tryz.prog 66 #[.agg #[.int .i64 bf,.slice A l.length c]] w fun e w'=>∃b D,e= .returned (.map (some b))/\w.heap.size<=b/\iB w' b (l.length+1) D/\af (vW D bf l)/\Below w.heap.size w w':=by
 have bT:=ae hr
 have HS:=ae hs
 have hm:=bT.o.2.1
 have Tn:keyOf Tryz.prog 9 (.string ⟨#[]⟩)=some (cY ⟨#[]⟩):=pI (Nat.zero_le _)
 clear hr hs
 have I7:= @run_makeMap Tryz.prog
 have M4:∀o,iB ((w.alloc o).alloc (.map #[] 0)) (w.heap.size+1) 0 (.map []):=fun o=>by
  have:=World.ownsMap_made (H:=Unit) (w.alloc o) Tryz.prog 9 (plainElem Tryz.prog 3)
  rwa[show(w.alloc o).heap.size=w.heap.size+1 by simp]at this
 go_enter Tryz.func66,Tryz.ntmps66
 go_wp2_with (refine as4 _ rfl _ _ _ 100 rfl 9 3 jH Tryz.underlying100 _ (w.heap.size+1) 0 (.map []) rfl (M4 _) tAw _ _ _ rfl rfl Tn _ [] (plainElem_int Tryz.underlying3 hc0) ?_;intro w1 hown1 hg1;have hP:w1.heap[w.heap.size]?=some (.cells #[.int .i64 bf,.slice A l.length c] 33 (0,0)):=(hg1.block _ tAb tA2).trans (av (a8 w _) (ax (Below.refl _ _) _));have z0:w1.cell? ⟨w.heap.size,0,none⟩=some (.int .i64 bf):=(mj hP 0).trans rfl;have c2:w1.cell? ⟨w.heap.size,1,none⟩=some (.slice A l.length c):=(mj hP 1).trans rfl;have ak:=ae (Below.grown (ax (ax (Below.refl w.heap.size w) _) _) hg1 tAb (fun j hj=>by cases hj;omega));clear hg1 hP)
 have ig:af (vW ((DataW.map []:DataW Unit).put (cY ⟨#[]⟩) (.lit (.int .i64 bf))) bf []):=⟨aqN bf⟩
 generalize ((DataW.map []:DataW Unit).put (cY ⟨#[]⟩) (.lit (.int .i64 bf)))=D0 at *
 go_loopg [13] l.length (fun bL yL wr=>∃(kk:Nat) (D:DataW Unit),kk<=l.length/\l.length-kk<=bL/\yL= .int .i64 kk/\iB wr (w.heap.size+1) (kk+1) D/\af (vW D bf (l.take kk))/\af (Below w.heap.size w wr))
 case atStart=>exact⟨0,D0,Nat.zero_le _,tA0,rfl,hown1,ig,ak⟩
 case round=>
  obtain⟨kk,D,eO,hg,rfl,hown,D9,bs⟩:=hrel
  by_cases hlt:kk<l.length
  ·have cp:(kk:Int)< (l.length:Int):=by omega
   obtain⟨ad,e,hx0,hx1⟩:=jD bT.o (kk:Int) tA0 tA0
   cases e
   replace hx0:=(bs.o.cell (b7 w _ hx0)).trans hx0
   replace hx1:=(bs.o.cell (b7 w _ hx1)).trans hx1
   simp only[eQ]at hx0 hx1
   have hy:aJ l (kk:Int)=l[kk]:=tCl
   have hkey:keyOf Tryz.prog 9 (.string (aJ l (kk:Int)).f0)=some (cY (aJ l (kk:Int)).f0):=pI (HS.o _ tB0)
   have xA:af (∀q,D.atKey (cY (aJ l (kk:Int)).f0) (.lit (.int .i64 0))= .lit (.int .i64 q)->vW (D.put (cY (aJ l (kk:Int)).f0) (.lit (.int .i64 (wrap64 (q+(aJ l (kk:Int)).f1))))) bf (l.take (kk+1))):=⟨fun q hq=>by
    rw[kr hlt,<- hy]
    exact aqO (sO hown) D9.o _ hq⟩
   clear hy
   generalize aJ l (kk:Int)=y at *
   obtain⟨aK,aC⟩:=y
   go_wp2_with (first|(at_lookup;refine wpList_lookup_own_int _ rfl _ _ 100 rfl 9 3 .i64 jH Tryz.underlying100 Tryz.underlying3 (Aj _) (w.heap.size+1) (kk+1) D rfl (hown.alloc _) _ _ rfl hkey ?_;intro q hat hwc)|(at_mapUpdate;refine wpList_mapUpdate_own _ rfl _ _ _ 100 rfl 9 3 jH Tryz.underlying100 _ (w.heap.size+1) (kk+1) D rfl (hown.alloc _) tAw _ _ _ rfl rfl hkey _ [] (plainElem_int Tryz.underlying3 (wrap64_wf _)) ?_;intro w2 hown2 hg2))
   go_roundg (l.length- (kk+1))
   case measure=>omega
   case rel=>exact⟨kk+1,_,tA0,tA0,tA7,hown2,⟨xA.o q hat⟩,⟨Below.grown (ax bs.o _) hg2 (by have:=bs.o.size;simp;omega) (fun j hj=>by cases hj;omega)⟩⟩
  ·have cp:¬ (kk:Int)< (l.length:Int):=by omega
   have:kk=l.length:=tA0
   subst this
   go_wp2
   go_ret
   refine⟨_,rfl,tA0,D,hown,⟨?_⟩,bs.o⟩
   have iF:=D9.o
   rwa[fJ]at iF
theorem Ns {key:Value}{kl:Lit}(h:keyOf Tryz.prog 9 key=some kl):∃x:ByteArray,key= .string x/\kl=cY x:=by
 have hk:=Tryz.underlying9
 rw[keyOf_string hk]at h
 cases key<;>simp[mapKey,hk]at h
 exact⟨_,rfl,h.2.symm⟩
theorem Mn {v:Value}{y:DataW Unit×List MemPlace}(h:plainElem Tryz.prog 3 v=some y):∃c,v= .int .i64 c/\y=(.lit (.int .i64 c),[])/\(Lit.int .i64 c).wf=true:=plainElem_int_inv Tryz.underlying3 h
def lp (e7:DataW Unit):Lit->Int:=fun kl=>if kl.sameKey (cY ⟨#[]⟩)then 1 else jS (e7.atKey kl lW)
theorem wf_i64 {c:Int}(h:(Lit.int .i64 c).wf=true): -9223372036854775808<=c/\c<=9223372036854775807:=by
 simpa[Lit.wf,IntKind.min,IntKind.max,IntKind.signed,IntKind.bits]using h
theorem asA {x:ByteArray}(h:x≠⟨#[]⟩):x.toList.isEmpty=false:=by
 cases he:x.toList.isEmpty with
 | false=>rfl
 | true=>
  refine absurd ?_ h
  have h1:x.toList=[]:=List.isEmpty_iff.1 he
  rw[ByteArray.toList_eq]at h1
  cases x with|mk a=>cases a;simp_all
theorem asT (b bx n rD:Nat)(D e7:DataW Unit)(w:World)(h:iB w b n D)(hx:iB w bx rD e7):
  Calls Tryz.prog 67 #[.map (some b),.map (some bx)] w fun e w'=>e= .returned (.int .i64 (wrap64 (tO D (lp e7))))/\Below w.heap.size w w':=by
 have Tn:keyOf Tryz.prog 9 (.string ⟨#[]⟩)=some (cY ⟨#[]⟩):=pI (Nat.zero_le _)
 have hbl:=h.lt
 have qw:=hx.lt
 go_enter Tryz.func67,Tryz.ntmps67
 go_wp2_with (first|(at_lookup;refine wpList_lookup_own_int _ rfl _ _ 100 rfl 9 3 .i64 jH Tryz.underlying100 Tryz.underlying3 (Aj _) b n D rfl h _ _ rfl Tn ?_;intro q hat hwc)|(at_range;refine wpList_range_own _ rfl _ 100 rfl 9 3 jH Tryz.underlying100 _ b n D rfl h ?_;intro w0 hrg0 hg0 hs0))
 have ra:af (iB w0 bx rD e7):=⟨hx.kept hg0 tA2⟩
 have jz:af (Below w.heap.size w w0):=⟨(Below.refl _ w).grown hg0 (bl _) (fun j hj=>by cases hj)⟩
 have bm:af (tr D):=⟨sO h⟩
 have dK:af (jS (D.atKey (cY ⟨#[]⟩) lW)=q):=⟨by unfold lW;rw[hat];rfl⟩
 have HS:af (yF D (lp e7) (cY ⟨#[]⟩) (Maps.has D)=0):=⟨apE h _ _⟩
 have hq:=wf_i64 hwc
 clear hat hwc h hx hg0
 go_frame
 have fx:af (∀(left:Lit->Bool),(∀kl,left kl=false)->wrap64 (q+yF D (lp e7) (cY ⟨#[]⟩) left)=wrap64 (tO D (lp e7))):=⟨fun left hl=>by
  have:=apD bm.o (lp e7) (cY ⟨#[]⟩) hl
  rw[dK.o]at this
  rw[<- this]
  simp[lp,WideAt.sameKey_self (isKey ⟨#[]⟩)]⟩
 go_loopw [5] (fun tQ wr=>∃(left:Lit->Bool) (cnt:Nat),wr.ranges Tryz.prog 9 (plainElem Tryz.prog 3) b w.heap.size n D left cnt/\tQ= .int .i64 (wrap64 (q+yF D (lp e7) (cY ⟨#[]⟩) left))/\af (iB wr bx rD e7)/\af (Below w.heap.size w wr)) (fun _ wr=>wr.rangeLeft b w.heap.size)
 case atStart=>exact⟨_,_,hrg0,by rw[HS.o,Int.add_zero,eM q hq],ra,jz⟩
 case round=>
  obtain⟨left,cnt,hrg,rfl,cv,bs⟩:=hrel
  go_wp2_with (at_next;refine wpList_next_ranges _ rfl _ rfl 9 jH (plainElem Tryz.prog 3) Value.string (Value.int .i64) (fun key kl hk=>tDp) (fun v y hv=>tEi) b w.heap.size n D left cnt rfl hrg ?_ ?_)
  ·intro hc0 hl0
   go_wp2
   go_ret
   exact⟨by rw[fx.o left hl0];rfl,bs.o⟩
  ·intro x c kl aC bM w1 cnt1 hkey hlk hv hat hrg1 kA hg1 hs1 hen
   obtain⟨x',e1,rfl⟩:=Ns hkey
   cases e1
   obtain⟨c',e1,e2,hwc⟩:=Mn hv
   cases e1
   cases e2
   have cJ:=cv.o.kept hg1 (by intro e;cases e;omega)
   have bI:af (Below w.heap.size w w1):=⟨bs.o.grown hg1 bs.o.size (fun j hj=>by cases hj;exact bl _)⟩
   have dC:af (w1.rangeLeft b w.heap.size<wr.rangeLeft b w.heap.size):=⟨tD5⟩
   have br:=ae (apF bm.o (lp e7) (cY ⟨#[]⟩) (isKey x) hlk hat)
   clear hrg hg1 hs1 kA hat hv
   generalize yF D (lp e7) (cY ⟨#[]⟩) left=acc at *
   by_cases hx0:x=⟨#[]⟩
   ·subst hx0
    go_wp2
    go_roundw
    case measure=>exact dC.o
    case rel=>exact⟨_,_,hrg1,by rw[br.o,if_pos (WideAt.sameKey_self (isKey _)),Int.add_zero],⟨cJ⟩,bI⟩
   ·have HW:af (lp e7 (cY x)=jS (e7.atKey (cY x) lW)):=⟨by unfold lp;rw[if_neg (fun e=>hx0 (Ad (WideAt.sameKey_eq e)))]⟩
    have fX:af ((cY x).sameKey (cY ⟨#[]⟩)=false):=⟨by cases h:(cY x).sameKey (cY ⟨#[]⟩)with|false=>rfl|true=>exact absurd (Ad (WideAt.sameKey_eq h)) hx0⟩
    have hne:x.toList.isEmpty=false:=asA hx0
    go_wp2_with (at_lookup;refine wpList_lookup_own_int _ rfl _ _ 99 rfl 9 3 .i64 jH Tryz.underlying99 Tryz.underlying3 (Aj _) bx rD e7 rfl cJ _ _ rfl hkey ?_;intro q1 ym aoA)
    go_roundw
    case measure=>exact dC.o
    case rel=>
     refine⟨_,_,hrg1,?_,⟨cJ⟩,bI⟩
     have h3:jS (e7.atKey (cY x) lW)=q1:=by unfold lW;rw[ym];rfl
     rw[br.o,fX.o,HW.o,h3]
     simp only[Ni,Bool.false_eq_true,if_false]
     congr 1
     unfold wrap64
     generalize c * q1=u
     omega
def JN (G:Lit->Int)(f:aj):Int:=wrap64 (f.f0 * G (cY ⟨#[]⟩)+qJ G f.f1)
def NB (f:aj):Bool:=(Lit.int .i64 f.f0).wf&&(decide (f.f1.length<1000)&&f.f1.all fun t=>decide (t.f0.size<=maxLen))
def Ic (w:World)(B dp bx rD:Nat)(e7:DataW Unit)(v0 v1:Value)(W:World):Prop:=
 W.cell? ⟨B,0,none⟩=some v0/\W.cell? ⟨B,1,none⟩=some v1/\W.cell? ⟨dp,0,none⟩=some (.map (some bx))/\B<W.heap.size/\dp<W.heap.size/\iB W bx rD e7/\Below w.heap.size w W
theorem sN {W W':World}{b n:Nat}{D:DataW Unit}(h:iB W b n D)(hb:Below W.heap.size W W'):iB W' b n D:=by
 have hlt:=h.lt
 obtain⟨es,clock,h1,r⟩:=h
 exact⟨es,clock,(hb.block b hlt).trans h1,r⟩
theorem Ye {w:World}{B dp bx rD:Nat}{e7:DataW Unit}{v0 v1:Value}{W W':World}(h:Ic w B dp bx rD e7 v0 v1 W)(hb:Below W.heap.size W W'):Ic w B dp bx rD e7 v0 v1 W':=by
 obtain⟨h0,h1,h2,h3,h4,h5,h6⟩:=h
 exact⟨(hb.cell (p:=⟨B,0,none⟩) h3).trans h0,(hb.cell (p:=⟨B,1,none⟩) h3).trans h1,(hb.cell (p:=⟨dp,0,none⟩) h4).trans h2,fy h3 hb.size,fy h4 hb.size,sN h5 hb,au h6 hb⟩
theorem apc (f:aj)(ed:Option Addr)(dR dp bx rD:Nat)(e7:DataW Unit)(w:World)(hf:Kd.C cf w ed f.f1.length f.f1)(bX:NB f=true)(hx:w.cell? ⟨dp,0,none⟩=some (.map (some bx)))(Jk:dp<w.heap.size)(hm:iB w bx rD e7):
  Calls Tryz.prog 143 #[.agg #[.int .i64 f.f0,.slice ed f.f1.length dR],.pointer (some ⟨dp,0,none⟩)] w fun e w'=>e= .returned (.bool (decide (JN (lp e7) f<0)))/\Below w.heap.size w w':=by
 unfold NB at bX
 simp only[Bool.and_eq_true,decide_eq_true_eq,List.all_eq_true]at bX
 obtain⟨k1,k2,k3⟩:=bX
 have HS:af (Ic w w.heap.size dp bx rD e7 (.int .i64 f.f0) (.slice ed f.f1.length dR) (w.alloc (.cells #[.int .i64 f.f0,.slice ed f.f1.length dR] 33))):=⟨by
  have hP:=a8 w (.cells #[.int .i64 f.f0,.slice ed f.f1.length dR] 33)
  have hb:Below w.heap.size w (w.alloc (.cells #[.int .i64 f.f0,.slice ed f.f1.length dR] 33)):=ax (Below.refl _ w) _
  exact⟨ah hP 0,ah hP 1,(hb.cell (p:=⟨dp,0,none⟩) Jk).trans hx,az hP,fy Jk hb.size,sN hm hb,hb⟩⟩
 have HC:af (∀W,Ic w w.heap.size dp bx rD e7 (.int .i64 f.f0) (.slice ed f.f1.length dR) W->Calls Tryz.prog 66 #[.agg #[.int .i64 f.f0,.slice ed f.f1.length dR]] W fun e w'=>∃b D,e= .returned (.map (some b))/\iB w' b (f.f1.length+1) D/\af (vW D f.f0 f.f1)/\Ic w w.heap.size dp bx rD e7 (.int .i64 f.f0) (.slice ed f.f1.length dR) w'):=⟨fun W hS=>
  (acZ f.f0 f.f1 ed dR W (Kd.bN hf hS.2.2.2.2.2.2) k1 k2 k3).mono fun e w' ⟨b,D,he,_,hM,jQ,hb⟩=>⟨b,D,he,hM,jQ,Ye hS hb⟩⟩
 have uN:af (∀D,vW D f.f0 f.f1->wrap64 (tO D (lp e7))=JN (lp e7) f):=⟨fun D h=>h _⟩
 clear hf hx hm k1 k2 k3
 go_enter Tryz.func143,Tryz.ntmps143
 go_wp2
 have z:=HS.o
 generalize w.alloc (.cells #[.int .i64 f.f0,.slice ed f.f1.length dR] 33)=W1 at *
 obtain⟨bf,c1,bb,l0,l1,_,_⟩:=z
 generalize w.heap.size=B at *
 go_region_law (first|(go_simp;go_at_call 66;refine(HC.o _ (by first|assumption|exact Ye HS.o (cB (Below.refl _ _)))).mono ?_;rintro e w2 ⟨b,D,rfl,hM,jQ,Fo⟩;have hV:=ae (uN.o D jQ.o);have fV:=ae Fo;obtain⟨d0,d1,d2,m0,m1,hX,_⟩:=Fo)|(go_simp;go_at_call 67;refine(asT _ _ _ _ _ _ _ (by first|exact hM|exact sN hM (cB (Below.refl _ _))) (by first|exact hX|exact sN hX (cB (Below.refl _ _)))).mono ?_;rintro e w3 ⟨rfl,hb3⟩))
 all_goals
  have al4:=ae (au fV.o.2.2.2.2.2.2 hb3)
  have ami:af (decide (wrap64 (tO D (lp e7))<0)=decide (JN (lp e7) f<0)):=⟨by rw[hV.o]⟩
  clear hM hX hb3
  go_wp2
  go_ret
  exact⟨by rw[<- ami.o];rfl,al4.o⟩
theorem aqZ (a b c:Int):fE.f a b c=some (decide (b<=a)&&decide (a<=c)):=by
 unfold fE.f
 by_cases h:b<=a
 ·rw[if_pos h]
  have:decide (b<=a)=true:=bn h
  rw[this,Bool.true_and]
 ·rw[if_neg h]
  have:decide (b<=a)=false:=cE h
  rw[this,Bool.false_and]
def wZ (sides:List aq)(x:List Int):Nat->ByteArray->Int
 | 0,_=>0
 | k+1,s=>if s=(sides.getD k z77).f0 then x.getD k 0 else wZ sides x k s
def F8 (sides:List aq)(x:List Int)(s:ByteArray):Int:=if s=⟨#[]⟩then 1 else wZ sides x sides.length s
def F9 (sides:List aq)(x:List Int)(f:aj):Int:=wrap64 (f.f0+(f.f1.map fun t=>t.f1 * F8 sides x t.f0).sum)
theorem aqK {sides:List aq}{x:List Int}{e7:DataW Unit}(h:∀s,eP e7 s=wZ sides x sides.length s)(f:aj):JN (lp e7) f=F9 sides x f:=by
 unfold JN F9
 have h0:lp e7 (cY ⟨#[]⟩)=1:=by simp[lp,WideAt.sameKey_self (isKey ⟨#[]⟩)]
 have h1:∀s,lp e7 (cY s)=F8 sides x s:=fun s=>by
  unfold lp F8
  by_cases e:s=⟨#[]⟩
  ·subst e
   rw[if_pos (WideAt.sameKey_self (isKey _)),if_pos rfl]
  ·rw[if_neg (fun e'=>e (Ad (WideAt.sameKey_eq e'))),if_neg e]
   exact h s
 have h2:∀l:List ay,qJ (lp e7) l=(l.map fun t=>t.f1 * F8 sides x t.f0).sum:=fun l=>by
  induction l with
  | nil=>rfl
  | cons t r ih=>simp only[qJ,List.map_cons,List.sum_cons,ih,h1]
 rw[h0,h2,Int.mul_one]
def wL (sides:List aq)(conds:List aj):Bool:=
 decide (sides.length<1000)&&(sides.all (fun s=>decide (s.f0.size<=maxLen)&&((Lit.int .i64 s.f1).wf&&(Lit.int .i64 s.f2).wf))&&conds.all NB)
def j1 (sides:List aq)(conds:List aj)(x:List Int):Bool:=od sides x&& !(conds.any fun f=>decide (F9 sides x f<0))
def Nk.f (ag:List aq)(ai:List aj)(l1:List Int):Option Bool:=if decide (ag.length=l1.length)&&wL ag ai then some (j1 ag ai l1)else none
theorem asZ {a b c:Int}(hb:(Lit.int .i64 b).wf=true)(hc:(Lit.int .i64 c).wf=true)(h:(decide (b<=a)&&decide (a<=c))=true):(Lit.int .i64 a).wf=true:=by
 have h1:=wf_i64 hb
 have h2:=wf_i64 hc
 simp only[Bool.and_eq_true,decide_eq_true_eq]at h
 simp only[Lit.wf,IntKind.min,IntKind.max,IntKind.signed,IntKind.bits,Bool.and_eq_true,decide_eq_true_eq,if_true]
 omega
theorem apd (ag:List aq)(ai:List aj)(l1:List Int)(bP aQ aN:Option Addr)(bh aG c1:Nat)(r:Bool)(w:World)
  (hs:Kd.C cu w bP ag.length ag) (hcs:ag.length<=bh) (hc:Kd.C bc w aQ ai.length ai) (hcc:ai.length<=aG) (hx:Kd.C (Kd.int .i64) w aN l1.length l1) (h:Nk.f ag ai l1=some r):
  Calls Tryz.prog 94 #[.agg #[.slice bP ag.length bh,.slice aQ ai.length aG],.slice aN l1.length c1] w fun e w'=>e= .returned (.bool r)/\Below w.heap.size w w':=by
 unfold Nk.f at h
 by_cases wu:(decide (ag.length=l1.length)&&wL ag ai)=true
 ·rw[if_pos wu]at h
  injection h with h
  subst h
  unfold wL at wu
  simp only[Bool.and_eq_true,decide_eq_true_eq,List.all_eq_true]at wu
  obtain⟨hlen,Fz,bX,abu⟩:=wu
  have HLEN:=ae hlen
  clear hlen
  have HS:=ae hs
  have nC:=ae hc
  have cv:=ae hx
  have pY:=ae bX
  have ahb:=ae abu
  have hm:=HS.o.2.1
  have I7:= @run_makeMap Tryz.prog
  have M4:∀o,iB ((w.alloc o).alloc (.map #[] 0)) (w.heap.size+1) 0 (.map []):=fun o=>by
   have:=World.ownsMap_made (H:=Unit) (w.alloc o) Tryz.prog 9 (plainElem Tryz.prog 3)
   rwa[show(w.alloc o).heap.size=w.heap.size+1 by simp]at this
  have eg:=enters_of Tryz.func143 tA1 rfl
  clear hs hc hx bX abu
  go_enter Tryz.func94,Tryz.ntmps94
  go_wp2
  have hP:(((w.alloc (.cells #[.slice bP ag.length bh,.slice aQ ai.length aG] 29)).alloc (.map #[] 0)).alloc (.cells #[.map (some (w.heap.size+1))] 99)).heap[w.heap.size]?=some (.cells #[.slice bP ag.length bh,.slice aQ ai.length aG] 29 (0,0)):=av (a8 w _) (ax (ax (Below.refl _ _) _) _)
  have bx:(((w.alloc (.cells #[.slice bP ag.length bh,.slice aQ ai.length aG] 29)).alloc (.map #[] 0)).alloc (.cells #[.map (some (w.heap.size+1))] 99)).heap[w.heap.size+2]?=some (.cells #[.map (some (w.heap.size+1))] 99 (0,0)):=by
   have:=a8 ((w.alloc (.cells #[.slice bP ag.length bh,.slice aQ ai.length aG] 29)).alloc (.map #[] 0)) (.cells #[.map (some (w.heap.size+1))] 99)
   rwa[show((w.alloc (.cells #[.slice bP ag.length bh,.slice aQ ai.length aG] 29)).alloc (.map #[] 0)).heap.size=w.heap.size+2 by simp]at this
  have ak:=ae (ax (ax (ax (Below.refl w.heap.size w) (.cells #[.slice bP ag.length bh,.slice aQ ai.length aG] 29)) (.map #[] 0)) (.cells #[.map (some (w.heap.size+1))] 99))
  have ho:=(M4 (.cells #[.slice bP ag.length bh,.slice aQ ai.length aG] 29)).alloc (.cells #[.map (some (w.heap.size+1))] 99)
  have rN:=ae hP
  have uq:=ae bx
  have HO:=ae ho
  clear hP bx ho M4
  generalize ((w.alloc (.cells #[.slice bP ag.length bh,.slice aQ ai.length aG] 29)).alloc (.map #[] 0)).alloc (.cells #[.map (some (w.heap.size+1))] 99)=W0 at *
  have bI:af (w.heap.size+2=w.heap.size+1+1):=⟨rfl⟩
  go_loopg [6,7,12] ag.length (fun bL _ _ s12 wr=>∃(kk:Nat) (e7:DataW Unit),kk<=ag.length/\ag.length-kk<=bL/\s12= .int .i64 kk/\af (iB wr (w.heap.size+1) kk e7)/\af (∀s,eP e7 s=wZ ag l1 kk s)/\af (Below w.heap.size w wr)/\af (wr.heap[w.heap.size]?=some (.cells #[.slice bP ag.length bh,.slice aQ ai.length aG] 29 (0,0)))/\af (wr.heap[w.heap.size+2]?=some (.cells #[.map (some (w.heap.size+1))] 99 (0,0)))/\af (od ag l1=od (ag.drop kk) (l1.drop kk)))
  case atStart=>exact⟨0,_,Nat.zero_le _,tA0,rfl,HO,⟨fun _=>rfl⟩,ak,rN,uq,⟨tA2⟩⟩
  case round=>
   obtain⟨kk,e7,eO,hg,rfl,HO,HD,bs,rN,uq,fL⟩:=hrel
   by_cases hlt:kk<ag.length
   ·have cp:(kk:Int)< (ag.length:Int):=by omega
    have kA:kk<l1.length:=by have:=HLEN.o;omega
    have zW:(kk:Int)< (l1.length:Int):=tA0
    obtain⟨ad,e,hx0⟩:=Kd.uU cv.o (kk:Int) tA0 tA0
    cases e
    obtain⟨oH,e,hs0,hs1,hs2⟩:=fe HS.o (kk:Int) tA0 tA0
    cases e
    replace hx0:=bw bs.o hx0
    replace hs0:=bw bs.o hs0
    replace hs1:=bw bs.o hs1
    replace hs2:=bw bs.o hs2
    simp only[eQ]at hx0 hs0 hs1 hs2
    have dK:=ae (aej ag l1 kk kA hlt)
    have dQ:af (ag.getD kk z77=aw ag (kk:Int)):=⟨rfl⟩
    have HZ:af (l1.getD kk 0=rd l1 (kk:Int)):=⟨rfl⟩
    have hK:=aqZ (rd l1 (kk:Int)) (aw ag (kk:Int)).f1 (aw ag (kk:Int)).f2
    have hy:aw ag (kk:Int)=ag[kk]:=tC1
    have Qg:=ae (pY.o (aw ag (kk:Int)) tB0)
    have Qo:af (∀s,wZ ag l1 (kk+1) s=if s=(aw ag (kk:Int)).f0 then rd l1 (kk:Int)else wZ ag l1 kk s):=⟨fun s=>rfl⟩
    clear hy
    generalize rd l1 (kk:Int)=n at *
    generalize aw ag (kk:Int)=y at *
    obtain⟨aK,aC,bM⟩:=y
    have HK:=ae hK
    clear hK
    cases hb:(decide (aC<=n)&&decide (n<=bM))with
    | true=>
     have fY:=ae hb
     have dP:af (fE.f n aC bM=some true):=⟨by rw[HK.o,hb]⟩
     clear hb HK
     go_wp2
     have kg:=a8 wr (.cells #[.string aK,.int .i64 aC,.int .i64 bM] 77)
     have e0:=ah kg 0
     have e1:=ah kg 1
     have e2:=ah kg 2
     have Kj:=ae (ax bs.o (.cells #[.string aK,.int .i64 aC,.int .i64 bM] 77))
     have uo:=ae (ax (Below.refl wr.heap.size wr) (.cells #[.string aK,.int .i64 aC,.int .i64 bM] 77))
     replace hx0:=bw uo.o hx0
     have Pu:=ae (sN HO.o uo.o)
     have VZ:=ae (av rN.o uo.o)
     have Kk:=ae (av uq.o uo.o)
     have x0:(wr.alloc (.cells #[.string aK,.int .i64 aC,.int .i64 bM] 77)).cell? ⟨w.heap.size+1+1,0,none⟩=some (.map (some (w.heap.size+1))):=ah Kk.o 0
     clear kg uo HO rN uq hs0 hs1 hs2
     generalize wr.alloc (.cells #[.string aK,.int .i64 aC,.int .i64 bM] 77)=W1 at *
     generalize Cj:wr.heap.size=ajs at *
     go_quiet (first|(go_at_call 49;(with_reducible refine(fE.calls _ _ _ _ _ dP.o).mono ?_);rintro e w' ⟨rfl,⟨cg,rfl⟩⟩;(try first|exact⟨rfl,_,dt _ _ _⟩|exact⟨rfl,_,Eq.trans (dt _ _ _) (congrArg (World.drewN _) (Nat.add_assoc _ _ _))⟩)))
     go_wp2
     have hkey:=pI Qg.o.1
     obtain⟨aY,hrun,Z6,yj⟩:=(show iB (W1.drewN (nq+1)) (w.heap.size+1) kk e7 from Pu.o).update (t:=99) (e:=3) jH Tryz.underlying99 tAw hkey (plainElem_int Tryz.underlying3 (asZ Qg.o.2.1 Qg.o.2.2 fY.o))
     have ag9:=ae Z6
     have xn:=ae yj
     clear Z6 yj
     have dr:af (∀s,eP (e7.put (cY aK) (.lit (.int .i64 n))) s=wZ ag l1 (kk+1) s):=⟨fun s=>by rw[Ag (sO Pu.o),Qo.o,HD.o]⟩
     have ae0:=ae ((eG Kj.o (nq+1)).grown xn.o (eG Kj.o (nq+1)).size (fun j hj=>by cases hj;omega))
     have aeZ:=ae (gf (show(W1.drewN (nq+1)).heap[w.heap.size]?=_ from VZ.o) xn.o tA2)
     have ae1:=ae (gf (show(W1.drewN (nq+1)).heap[w.heap.size+2]?=_ from Kk.o) xn.o tA2)
     have aeP:af (od ag l1=od (ag.drop (kk+1)) (l1.drop (kk+1))):=⟨by
      rw[fL.o,dK.o,dQ.o,HZ.o]
      simp only
      rw[fY.o,Bool.true_and]⟩
     go_region_law (fail)
     all_goals
      clear hrun
      go_wp2
      go_roundg (ag.length- (kk+1))
      case measure=>omega
      case rel=>exact⟨kk+1,_,tA0,tA0,tA7,ag9,dr,ae0,aeZ,ae1,aeP⟩
    | false=>
     have fY:=ae hb
     have dP:af (fE.f n aC bM=some false):=⟨by rw[HK.o,hb]⟩
     clear hb HK
     go_wp2
     have kg:=a8 wr (.cells #[.string aK,.int .i64 aC,.int .i64 bM] 77)
     have e0:=ah kg 0
     have e1:=ah kg 1
     have e2:=ah kg 2
     have Kj:=ae (ax bs.o (.cells #[.string aK,.int .i64 aC,.int .i64 bM] 77))
     have uo:=ae (ax (Below.refl wr.heap.size wr) (.cells #[.string aK,.int .i64 aC,.int .i64 bM] 77))
     replace hx0:=bw uo.o hx0
     have Pu:=ae (sN HO.o uo.o)
     have VZ:=ae (av rN.o uo.o)
     have Kk:=ae (av uq.o uo.o)
     have x0:(wr.alloc (.cells #[.string aK,.int .i64 aC,.int .i64 bM] 77)).cell? ⟨w.heap.size+1+1,0,none⟩=some (.map (some (w.heap.size+1))):=ah Kk.o 0
     clear kg uo HO rN uq hs0 hs1 hs2
     generalize wr.alloc (.cells #[.string aK,.int .i64 aC,.int .i64 bM] 77)=W1 at *
     generalize Cj:wr.heap.size=ajs at *
     go_quiet (first|(go_at_call 49;(with_reducible refine(fE.calls _ _ _ _ _ dP.o).mono ?_);rintro e w' ⟨rfl,⟨cg,rfl⟩⟩;(try first|exact⟨rfl,_,dt _ _ _⟩|exact⟨rfl,_,Eq.trans (dt _ _ _) (congrArg (World.drewN _) (Nat.add_assoc _ _ _))⟩)))
     go_wp2
     go_ret
     refine⟨?_,eG Kj.o _⟩
     unfold j1
     rw[fL.o,dK.o,dQ.o,HZ.o]
     simp only
     rw[fY.o]
     rfl
   ·have cp:¬ (kk:Int)< (ag.length:Int):=by omega
    have:kk=ag.length:=tA0
    subst this
    have z0:wr.cell? ⟨w.heap.size,0,none⟩=some (.slice bP ag.length bh):=ah rN.o 0
    have c2:wr.cell? ⟨w.heap.size,1,none⟩=some (.slice aQ ai.length aG):=ah rN.o 1
    go_wp2_with (go_at_call 132;refine(V2 143 _ _ _ ai (fun f=>decide (F9 ag l1 f<0)) _ (Kd.bN nC.o bs.o) eg ?_).mono ?_;rotate_left;rintro e w' ⟨rfl,hb⟩)
    ·go_ret
     refine⟨?_,au bs.o hb⟩
     unfold j1
     have:od ag l1=true:=by rw[fL.o,List.drop_length,List.drop_eq_nil_of_le (by have:=HLEN.o;omega)];rfl
     rw[this,Bool.true_and]
     rfl
    ·intro W f ed dR hf hB hle hC
     have:=apc f ed dR (w.heap.size+2) (w.heap.size+1) _ e7 W hC (ahb.o f hf) (ah (av uq.o hB) 0) (az (av uq.o hB)) (sN HO.o hB)
     rw[aqK HD.o]at this
     exact this
 ·rw[if_neg wu]at h
  exact absurd h tA2
end Go.Proofs.YtjgakaembhmhpaaGreatDoor.PA
