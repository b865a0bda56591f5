/- Part of the proof of SetsChanged: the walk and the plain laws. It holds without further conditions. -/
import Derived.Lib.SliceRun
import Derived.Lib.LazyBuf
import Derived.Shelf.Strings.Builder1
import Derived.Shelf.Strings.Builder2
import Derived.Shelf.Strings.OnBuilder
import Derived.Shelf.Small.Strs
import Derived.Shelf.LaysM
import Derived.Shelf.Strconv.Itoa3
import Derived.Shelf.SlGeneric
import Derived.Shelf.SlLaysF0
import Derived.Ground.SlsfProg
import Derived.Shelf.SlSortCmp.WholeK
import Derived.Shelf.SlLaysE0
import Derived.Ground.SlgnProg
import Derived.Shelf.SlicesQ.Reverse
import Derived.Test.YtjgakaembhmhpaaGreatDoorJAL
import Derived.Test.YtjgakaembhmhpaaGreatDoorJAM
set_option linter.unusedVariables false
set_option linter.unusedSimpArgs false
set_option maxHeartbeats 16000000
set_option maxRecDepth 100000
namespace Go.Proofs.YtjgakaembhmhpaaGreatDoor.PA
open Go.RowKit Go.Proofs.YtjgakaembhmhpaaGreatDoorW.PrintWords Go.Proofs.YtjgakaembhmhpaaGreatDoorW.PrintLast Go.Proofs.YtjgakaembhmhpaaGreatDoorW.PrintMore Go.Proofs.YtjgakaembhmhpaaGreatDoorM
theorem Fh (l:List aq)(k:Nat)(h:k<l.length):l.drop k=aw l (k:Int)::l.drop (k+1):=by
 rw[lF h]
 simp[aw,List.getD,b8 h]
theorem apW (x y:aq)(w:World):Calls Tryz.prog 130 #[.agg #[.string x.f0,.int .i64 x.f1,.int .i64 x.f2],.agg #[.string y.f0,.int .i64 y.f1,.int .i64 y.f2]] w fun e w'=>e= .returned (.bool (decide (x.f0=y.f0)))/\Below w.heap.size w w':=by
 have ak:=ae (ax (ax (Below.refl w.heap.size w) (.cells #[.string x.f0,.int .i64 x.f1,.int .i64 x.f2] 77)) (.cells #[.string y.f0,.int .i64 y.f1,.int .i64 y.f2] 77))
 go_enter Tryz.func130,Tryz.ntmps130
 go_wp2
 go_ret
 refine⟨?_,ak.o⟩
 have:(x.f0.toList==y.f0.toList)=decide (x.f0=y.f0):=by
  rw[Bool.eq_iff_iff]
  simp[pK]
 simp[this]
theorem aff (cU:Option Addr)(bf:Nat)(l0:List aq)(aN:Option Addr)(c1:Nat)(l1:List aq)(w:World)(dS:Kd.C cu w cU l0.length l0)(hr1:Kd.C cu w aN l1.length l1):
  Calls Tryz.prog 91 #[.slice cU l0.length bf,.slice aN l1.length c1,.func (.func 130) #[] #[]] w fun e w'=>e= .returned (.bool (decide (l0.map (·.f0)=l1.map (·.f0))))/\Below w.heap.size w w':=by
 have kj:=ae dS
 have fM:=ae hr1
 have FD:=dS.2.1
 have vh:=hr1.2.1
 have eg:=enters_of Tryz.func130 tA1 rfl
 clear dS hr1
 by_cases hl:(l0.length:Int)=(l1.length:Int)
 ·have br:af (l0.length=l1.length):=⟨tA0⟩
  go_enter Tryz.func91,Tryz.ntmps91
  have wD:¬ ((l0.length:Int)≠(l1.length:Int)):=fun h=>h hl
  go_wp2
  clear hl wD
  go_loopg [7,8,9,17] l0.length (fun bL _ _ _ sR wr=>∃kk:Nat,kk<=l0.length/\l0.length-kk<=bL/\sR= .int .i64 kk/\af (Below w.heap.size w wr)/\af (decide (l0.map (·.f0)=l1.map (·.f0))=decide ((l0.drop kk).map (·.f0)=(l1.drop kk).map (·.f0))))
  case atStart=>exact⟨0,Nat.zero_le _,tA0,rfl,⟨Below.refl _ w⟩,⟨tA2⟩⟩
  case round=>
   obtain⟨kk,eO,hg,rfl,bs,fL⟩:=hrel
   by_cases hlt:kk<l0.length
   ·have kA:kk<l1.length:=by have:=br.o;omega
    have cp:(kk:Int)< (l0.length:Int):=tA0
    have zW:(kk:Int)< (l1.length:Int):=tA0
    obtain⟨oH,e,x0,x1,x2⟩:=fe kj.o (kk:Int) tA0 tA0
    cases e
    obtain⟨Rg,e,aK,aC,bM⟩:=fe fM.o (kk:Int) tA0 tA0
    cases e
    replace x0:=bw bs.o x0
    replace x1:=bw bs.o x1
    replace x2:=bw bs.o x2
    replace aK:=bw bs.o aK
    replace aC:=bw bs.o aC
    replace bM:=bw bs.o bM
    simp only[eQ]at x0 x1 x2 aK aC bM
    have HD:af (decide ((l0.drop kk).map (·.f0)=(l1.drop kk).map (·.f0))=(decide ((aw l0 (kk:Int)).f0=(aw l1 (kk:Int)).f0)&&decide ((l0.drop (kk+1)).map (·.f0)=(l1.drop (kk+1)).map (·.f0)))):=⟨by
     rw[Fh l0 kk hlt,Fh l1 kk kA]
     rw[Bool.eq_iff_iff]
     simp⟩
    generalize aw l0 (kk:Int)=y at *
    generalize aw l1 (kk:Int)=z at *
    replace aK:=bw (ax (Below.refl wr.heap.size wr) (.cells #[.string y.f0,.int .i64 y.f1,.int .i64 y.f2] 77)) aK
    replace aC:=bw (ax (Below.refl wr.heap.size wr) (.cells #[.string y.f0,.int .i64 y.f1,.int .i64 y.f2] 77)) aC
    replace bM:=bw (ax (Below.refl wr.heap.size wr) (.cells #[.string y.f0,.int .i64 y.f1,.int .i64 y.f2] 77)) bM
    have HC:=ae (fun W=>apW y z W)
    cases hq:decide (y.f0=z.f0)with
    | true=>
     rw[hq]at HC HD
     clear hq
     go_wp2_with (go_at_fn 130)
     refine(HC.o _).mono ?_
     rintro e w' ⟨rfl,hb'⟩
     go_wp2
     go_roundg (l0.length- (kk+1))
     case measure=>omega
     case rel=>exact⟨kk+1,tA0,tA0,tA7,⟨au bs.o (au (ax (ax (Below.refl _ _) _) _) hb')⟩,⟨tBx⟩⟩
    | false=>
     rw[hq]at HC HD
     clear hq
     go_wp2_with (go_at_fn 130)
     refine(HC.o _).mono ?_
     rintro e w' ⟨rfl,hb'⟩
     go_wp2
     go_ret
     rw[fL.o,HD.o]
     exact⟨rfl,au bs.o (au (ax (ax (Below.refl _ _) _) _) hb')⟩
   ·have cp:¬ (kk:Int)< (l0.length:Int):=by omega
    have zW:¬ (kk:Int)< (l1.length:Int):=tAz
    have:kk=l0.length:=tA0
    subst this
    go_wp2
    go_ret
    rw[fL.o,List.drop_length,ji tAz]
    exact⟨rfl,bs.o⟩
 ·have br:af (decide (l0.map (·.f0)=l1.map (·.f0))=false):=⟨by
   rw[decide_eq_false_iff_not]
   intro e
   have:=congrArg List.length e
   simp at this
   omega⟩
  go_enter Tryz.func91,Tryz.ntmps91
  have wD:(l0.length:Int)≠(l1.length:Int):=hl
  go_wp2
  go_ret
  rw[br.o]
  exact⟨rfl,Below.refl _ _⟩
theorem apX (x y:aq)(w:World):Calls Tryz.prog 92 #[.agg #[.string x.f0,.int .i64 x.f1,.int .i64 x.f2],.agg #[.string y.f0,.int .i64 y.f1,.int .i64 y.f2]] w fun e w'=>e= .returned (.bool (decide (x.f0=y.f0)))/\Below w.heap.size w w':=by
 have ak:=ae (ax (ax (Below.refl w.heap.size w) (.cells #[.string x.f0,.int .i64 x.f1,.int .i64 x.f2] 77)) (.cells #[.string y.f0,.int .i64 y.f1,.int .i64 y.f2] 77))
 go_enter Tryz.func92,Tryz.ntmps92
 go_wp2
 go_ret
 refine⟨?_,ak.o⟩
 have:(x.f0.toList==y.f0.toList)=decide (x.f0=y.f0):=by
  rw[Bool.eq_iff_iff]
  simp[pK]
 simp[this]
theorem afg (cU:Option Addr)(bf:Nat)(l0:List aq)(aN:Option Addr)(c1:Nat)(l1:List aq)(w:World)(dS:Kd.C cu w cU l0.length l0)(hr1:Kd.C cu w aN l1.length l1):
  Calls Tryz.prog 91 #[.slice cU l0.length bf,.slice aN l1.length c1,.func (.func 92) #[] #[]] w fun e w'=>e= .returned (.bool (decide (l0.map (·.f0)=l1.map (·.f0))))/\Below w.heap.size w w':=by
 have kj:=ae dS
 have fM:=ae hr1
 have FD:=dS.2.1
 have vh:=hr1.2.1
 have eg:=enters_of Tryz.func92 tA1 rfl
 clear dS hr1
 by_cases hl:(l0.length:Int)=(l1.length:Int)
 ·have br:af (l0.length=l1.length):=⟨tA0⟩
  go_enter Tryz.func91,Tryz.ntmps91
  have wD:¬ ((l0.length:Int)≠(l1.length:Int)):=fun h=>h hl
  go_wp2
  clear hl wD
  go_loopg [7,8,9,17] l0.length (fun bL _ _ _ sR wr=>∃kk:Nat,kk<=l0.length/\l0.length-kk<=bL/\sR= .int .i64 kk/\af (Below w.heap.size w wr)/\af (decide (l0.map (·.f0)=l1.map (·.f0))=decide ((l0.drop kk).map (·.f0)=(l1.drop kk).map (·.f0))))
  case atStart=>exact⟨0,Nat.zero_le _,tA0,rfl,⟨Below.refl _ w⟩,⟨tA2⟩⟩
  case round=>
   obtain⟨kk,eO,hg,rfl,bs,fL⟩:=hrel
   by_cases hlt:kk<l0.length
   ·have kA:kk<l1.length:=by have:=br.o;omega
    have cp:(kk:Int)< (l0.length:Int):=tA0
    have zW:(kk:Int)< (l1.length:Int):=tA0
    obtain⟨oH,e,x0,x1,x2⟩:=fe kj.o (kk:Int) tA0 tA0
    cases e
    obtain⟨Rg,e,aK,aC,bM⟩:=fe fM.o (kk:Int) tA0 tA0
    cases e
    replace x0:=bw bs.o x0
    replace x1:=bw bs.o x1
    replace x2:=bw bs.o x2
    replace aK:=bw bs.o aK
    replace aC:=bw bs.o aC
    replace bM:=bw bs.o bM
    simp only[eQ]at x0 x1 x2 aK aC bM
    have HD:af (decide ((l0.drop kk).map (·.f0)=(l1.drop kk).map (·.f0))=(decide ((aw l0 (kk:Int)).f0=(aw l1 (kk:Int)).f0)&&decide ((l0.drop (kk+1)).map (·.f0)=(l1.drop (kk+1)).map (·.f0)))):=⟨by
     rw[Fh l0 kk hlt,Fh l1 kk kA]
     rw[Bool.eq_iff_iff]
     simp⟩
    generalize aw l0 (kk:Int)=y at *
    generalize aw l1 (kk:Int)=z at *
    replace aK:=bw (ax (Below.refl wr.heap.size wr) (.cells #[.string y.f0,.int .i64 y.f1,.int .i64 y.f2] 77)) aK
    replace aC:=bw (ax (Below.refl wr.heap.size wr) (.cells #[.string y.f0,.int .i64 y.f1,.int .i64 y.f2] 77)) aC
    replace bM:=bw (ax (Below.refl wr.heap.size wr) (.cells #[.string y.f0,.int .i64 y.f1,.int .i64 y.f2] 77)) bM
    have HC:=ae (fun W=>apX y z W)
    cases hq:decide (y.f0=z.f0)with
    | true=>
     rw[hq]at HC HD
     clear hq
     go_wp2_with (go_at_fn 92)
     refine(HC.o _).mono ?_
     rintro e w' ⟨rfl,hb'⟩
     go_wp2
     go_roundg (l0.length- (kk+1))
     case measure=>omega
     case rel=>exact⟨kk+1,tA0,tA0,tA7,⟨au bs.o (au (ax (ax (Below.refl _ _) _) _) hb')⟩,⟨tBx⟩⟩
    | false=>
     rw[hq]at HC HD
     clear hq
     go_wp2_with (go_at_fn 92)
     refine(HC.o _).mono ?_
     rintro e w' ⟨rfl,hb'⟩
     go_wp2
     go_ret
     rw[fL.o,HD.o]
     exact⟨rfl,au bs.o (au (ax (ax (Below.refl _ _) _) _) hb')⟩
   ·have cp:¬ (kk:Int)< (l0.length:Int):=by omega
    have zW:¬ (kk:Int)< (l1.length:Int):=tAz
    have:kk=l0.length:=tA0
    subst this
    go_wp2
    go_ret
    rw[fL.o,List.drop_length,ji tAz]
    exact⟨rfl,bs.o⟩
 ·have br:af (decide (l0.map (·.f0)=l1.map (·.f0))=false):=⟨by
   rw[decide_eq_false_iff_not]
   intro e
   have:=congrArg List.length e
   simp at this
   omega⟩
  go_enter Tryz.func91,Tryz.ntmps91
  have wD:(l0.length:Int)≠(l1.length:Int):=hl
  go_wp2
  go_ret
  rw[br.o]
  exact⟨rfl,Below.refl _ _⟩
def pC:List ay->List ay->Bool
 | [],[]=>true
 | a::l,b::r=>(a.f0.toList==b.f0.toList&&a.f1==b.f1)&&pC l r
 | _,_=>false
theorem Mr:∀(l r:List ay),pC l r=true↔l=r
 | [],[]=>by simp[pC]
 | [],b::r=>by simp[pC]
 | a::l,[]=>by simp[pC]
 | a::l,b::r=>by
  simp only[pC,Bool.and_eq_true,beq_iff_eq,pK,Mr l r,List.cons.injEq]
  constructor
  ·rintro⟨⟨h1,h2⟩,h3⟩
   exact⟨tCz,h3⟩
  ·rintro⟨rfl,h⟩
   exact⟨⟨rfl,rfl⟩,h⟩
def ql:List aq->List aq->Bool
 | [],[]=>true
 | a::l,b::r=>(a.f0.toList==b.f0.toList&&(a.f1==b.f1&&a.f2==b.f2))&&ql l r
 | _,_=>false
theorem Sc:∀(l r:List aq),ql l r=true↔l=r
 | [],[]=>by simp[ql]
 | [],b::r=>by simp[ql]
 | a::l,[]=>by simp[ql]
 | a::l,b::r=>by
  simp only[ql,Bool.and_eq_true,beq_iff_eq,pK,Sc l r,List.cons.injEq]
  constructor
  ·rintro⟨⟨h1,h2,h4⟩,h3⟩
   exact⟨tCz,h3⟩
  ·rintro⟨rfl,h⟩
   exact⟨⟨rfl,rfl,rfl⟩,h⟩
theorem alv:∀(l r:List ay),pC l r=true->l.length=r.length:=fun l r h=>by rw[(Mr l r).1 h]
theorem als:∀(l r:List aq),ql l r=true->l.length=r.length:=fun l r h=>by rw[(Sc l r).1 h]
theorem Y9 (l:List ay)(k:Nat)(h:k<l.length):l.drop k=aJ l (k:Int)::l.drop (k+1):=by
 rw[lF h]
 simp[aJ,List.getD,b8 h]
theorem alu (x0 x1:List ay)(hl:x0.length=x1.length)(hm:x0.length<=9223372036854775807):∀(m kk k:Nat),kk+m=x0.length->m<k->nM.l0 k x0 x1 (x0.length:Int) (kk:Int)=some (pC (x0.drop kk) (x1.drop kk)):=by
 intro m
 induction m with
 | zero=>
  intro kk k h1 h2
  cases k with
  | zero=>omega
  | succ k=>
   rw[nM.l0,if_neg tA0]
   rw[ji tA0,ji tA0]
   rfl
 | succ m ih=>
  intro kk k h1 h2
  cases k with
  | zero=>omega
  | succ k=>
   rw[nM.l0,if_pos tA0,if_pos tA0,if_pos tA0,if_pos tA0]
   have ec:wrap64 ((kk:Int)+1)=((kk+1:Nat):Int):=tAh
   rw[ec,Y9 x0 kk tA0,Y9 x1 kk tA0]
   generalize aJ x0 (kk:Int)=a
   generalize aJ x1 (kk:Int)=b
   cases hc:(a.f0.toList==b.f0.toList&&a.f1==b.f1)with
   | true=>
    rw[if_neg (by simp only[Bool.and_eq_true]at hc;simp[hc.1,hc.2]),ih (kk+1) k tA0 tA0]
    simp only[pC,hc,Bool.true_and]
   | false=>
    rw[if_pos (by rw[Bool.and_eq_false_iff]at hc;rcases hc with h|h<;>simp[h])]
    simp only[pC,hc,Bool.false_and]
theorem Zn (x0 x1:List ay)(hm:x0.length<=9223372036854775807):nM.f (x0.length+1) x0 x1=some (pC x0 x1):=by
 unfold nM.f
 by_cases hl:x0.length=x1.length
 ·rw[if_pos tA0]
  exact alu x0 x1 hl hm x0.length 0 (x0.length+1) tA0 tA0
 ·rw[if_neg tA0]
  cases he:pC x0 x1 with
  | true=>exact absurd (alv _ _ he) hl
  | false=>rfl
theorem alr (x0 x1:List aq)(hl:x0.length=x1.length)(hm:x0.length<=9223372036854775807):∀(m kk k:Nat),kk+m=x0.length->m<k->qc.l0 k x0 x1 (x0.length:Int) (kk:Int)=some (ql (x0.drop kk) (x1.drop kk)):=by
 intro m
 induction m with
 | zero=>
  intro kk k h1 h2
  cases k with
  | zero=>omega
  | succ k=>
   rw[qc.l0,if_neg tA0]
   rw[ji tA0,ji tA0]
   rfl
 | succ m ih=>
  intro kk k h1 h2
  cases k with
  | zero=>omega
  | succ k=>
   rw[qc.l0,if_pos tA0,if_pos tA0,if_pos tA0,if_pos tA0]
   have ec:wrap64 ((kk:Int)+1)=((kk+1:Nat):Int):=tAh
   rw[ec,Fh x0 kk tA0,Fh x1 kk tA0]
   generalize aw x0 (kk:Int)=a
   generalize aw x1 (kk:Int)=b
   cases hc:(a.f0.toList==b.f0.toList&&(a.f1==b.f1&&a.f2==b.f2))with
   | true=>
    rw[if_neg (by simp only[Bool.and_eq_true]at hc;simp[hc.1,hc.2.1,hc.2.2]),ih (kk+1) k tA0 tA0]
    simp only[ql,hc,Bool.true_and]
   | false=>
    rw[if_pos (by rw[Bool.and_eq_false_iff,Bool.and_eq_false_iff]at hc;rcases hc with h|h|h<;>simp[h])]
    simp only[ql,hc,Bool.false_and]
theorem alq (x0 x1:List aq)(hm:x0.length<=9223372036854775807):qc.f (x0.length+1) x0 x1=some (ql x0 x1):=by
 unfold qc.f
 by_cases hl:x0.length=x1.length
 ·rw[if_pos tA0]
  exact alr x0 x1 hl hm x0.length 0 (x0.length+1) tA0 tA0
 ·rw[if_neg tA0]
  cases he:ql x0 x1 with
  | true=>exact absurd (als _ _ he) hl
  | false=>rfl
def B1 (f g:aj):Bool:=decide (f.f0=g.f0)&&pC f.f1 g.f1
theorem alo (f g:aj):B1 f g=true↔f=g:=by
 simp only[B1,Bool.and_eq_true,decide_eq_true_eq,Mr]
 cases f;cases g;simp
def pB:List aj->List aj->Bool
 | [],[]=>true
 | a::l,b::r=>B1 a b&&pB l r
 | _,_=>false
theorem Sb:∀(l r:List aj),pB l r=true↔l=r
 | [],[]=>by simp[pB]
 | [],b::r=>by simp[pB]
 | a::l,[]=>by simp[pB]
 | a::l,b::r=>by simp only[pB,Bool.and_eq_true,alo,Sb l r,List.cons.injEq]
theorem alp:∀(l r:List aj),pB l r=true->l.length=r.length:=fun l r h=>by rw[(Sb l r).1 h]
theorem ar1 (f g:aj)(hm:f.f1.length<=9223372036854775807):J9.f (f.f1.length+1) f.f0 f.f1 g.f0 g.f1=some (B1 f g):=by
 unfold J9.f B1
 by_cases h:f.f0=g.f0
 ·rw[if_pos h,Zn _ _ hm]
  simp[h]
 ·rw[if_neg h]
  simp[h]
theorem Y8 (l:List aj)(k:Nat)(h:k<l.length):l.drop k=bH l (k:Int)::l.drop (k+1):=by
 rw[lF h]
 simp[bH,List.getD,b8 h]
theorem afh (cU:Option Addr)(bf:Nat)(l0:List aq)(aN:Option Addr)(c1:Nat)(l1:List aq)(w:World)(dS:Kd.C cu w cU l0.length l0)(hc0:l0.length<=bf)(hr1:Kd.C cu w aN l1.length l1)(hc1:l1.length<=c1):
  Calls Tryz.prog 103 #[.slice cU l0.length bf,.slice aN l1.length c1] w fun e w'=>e= .returned (.bool (ql l0 l1))/\aR w w':=
 qc.calls _ cU bf l0 aN c1 l1 _ w dS hc0 hr1 hc1 (alq l0 l1 dS.2.1)
theorem afd (cU:Option Addr)(bf:Nat)(l0:List aj)(aN:Option Addr)(c1:Nat)(l1:List aj)(w:World)(dS:Kd.C bc w cU l0.length l0)(hr1:Kd.C bc w aN l1.length l1):
  Calls Tryz.prog 149 #[.slice cU l0.length bf,.slice aN l1.length c1,.func (.func 150) #[] #[]] w fun e w'=>e= .returned (.bool (pB l0 l1))/\Below w.heap.size w w':=by
 have kj:=ae dS
 have fM:=ae hr1
 have FD:=dS.2.1
 have vh:=hr1.2.1
 have eg:=enters_of Tryz.func150 tA1 rfl
 clear dS hr1
 by_cases hl:(l0.length:Int)=(l1.length:Int)
 ·have br:af (l0.length=l1.length):=⟨tA0⟩
  go_enter Tryz.func149,Tryz.ntmps149
  have wD:¬ ((l0.length:Int)≠(l1.length:Int)):=fun h=>h hl
  go_wp2
  clear hl wD
  go_loopg [7,8,9,17] l0.length (fun bL _ _ _ sR wr=>∃kk:Nat,kk<=l0.length/\l0.length-kk<=bL/\sR= .int .i64 kk/\af (Below w.heap.size w wr)/\af (pB l0 l1=pB (l0.drop kk) (l1.drop kk)))
  case atStart=>exact⟨0,Nat.zero_le _,tA0,rfl,⟨Below.refl _ w⟩,⟨tA2⟩⟩
  case round=>
   obtain⟨kk,eO,hg,rfl,bs,fL⟩:=hrel
   by_cases hlt:kk<l0.length
   ·have kA:kk<l1.length:=by have:=br.o;omega
    have cp:(kk:Int)< (l0.length:Int):=tA0
    have zW:(kk:Int)< (l1.length:Int):=tA0
    obtain⟨oH,eT,b0,e,x0,x1,fF,VJ⟩:=rh kj.o (kk:Int) tA0 tA0
    cases e
    obtain⟨Rg,OD,b1,e,aK,aC,aeJ,aeI⟩:=rh fM.o (kk:Int) tA0 tA0
    cases e
    replace x0:=bw bs.o x0
    replace x1:=bw bs.o x1
    replace aK:=bw bs.o aK
    replace aC:=bw bs.o aC
    simp only[eQ]at x0 x1 aK aC
    have HD:af (pB (l0.drop kk) (l1.drop kk)=(B1 (bH l0 (kk:Int)) (bH l1 (kk:Int))&&pB (l0.drop (kk+1)) (l1.drop (kk+1)))):=⟨by
     rw[Y8 l0 kk hlt,Y8 l1 kk kA]
     rfl⟩
    generalize bH l0 (kk:Int)=y at *
    generalize bH l1 (kk:Int)=z at *
    replace aK:=bw (ax (Below.refl wr.heap.size wr) (.cells #[.int .i64 y.f0,.slice eT y.f1.length b0] 33)) aK
    replace aC:=bw (ax (Below.refl wr.heap.size wr) (.cells #[.int .i64 y.f0,.slice eT y.f1.length b0] 33)) aC
    have HC:=ae (fun W (hb:Below w.heap.size w W)=>J9.calls _ y.f0 eT b0 y.f1 z.f0 OD b1 z.f1 _ W (Kd.bN VJ hb) fF (Kd.bN aeI hb) aeJ (ar1 y z VJ.2.1))
    clear VJ aeI fF aeJ
    cases hq:B1 y z with
    | true=>
     rw[hq]at HC HD
     clear hq
     go_wp2_with (go_at_fn 150)
     refine(HC.o _ (ax (ax bs.o _) _)).mono ?_
     rintro e w' ⟨rfl,hb'⟩
     go_wp2
     go_roundg (l0.length- (kk+1))
     case measure=>omega
     case rel=>exact⟨kk+1,tA0,tA0,tA7,⟨au bs.o (au (ax (ax (Below.refl _ _) _) _) hb')⟩,⟨tBx⟩⟩
    | false=>
     rw[hq]at HC HD
     clear hq
     go_wp2_with (go_at_fn 150)
     refine(HC.o _ (ax (ax bs.o _) _)).mono ?_
     rintro e w' ⟨rfl,hb'⟩
     go_wp2
     go_ret
     rw[fL.o,HD.o]
     exact⟨rfl,au bs.o (au (ax (ax (Below.refl _ _) _) _) hb')⟩
   ·have cp:¬ (kk:Int)< (l0.length:Int):=by omega
    have zW:¬ (kk:Int)< (l1.length:Int):=tAz
    have:kk=l0.length:=tA0
    subst this
    go_wp2
    go_ret
    rw[fL.o,List.drop_length,ji tAz]
    exact⟨rfl,bs.o⟩
 ·have br:af (pB l0 l1=false):=⟨by
   cases he:pB l0 l1 with
   | false=>rfl
   | true=>exact absurd (alp _ _ he) tA0⟩
  go_enter Tryz.func149,Tryz.ntmps149
  have wD:(l0.length:Int)≠(l1.length:Int):=hl
  go_wp2
  go_ret
  rw[br.o]
  exact⟨rfl,Below.refl _ _⟩
theorem ai8 (cU:Option Addr)(bf:Nat)(l0:List aj)(aN:Option Addr)(c1:Nat)(l1:List aj)(w:World)(dS:Kd.C bc w cU l0.length l0)(hr1:Kd.C bc w aN l1.length l1):
  Calls Tryz.prog 104 #[.slice cU l0.length bf,.slice aN l1.length c1] w fun e w'=>e= .returned (.bool (pB l0 l1))/\Below w.heap.size w w':=by
 have HC:=ae (afd cU bf l0 aN c1 l1 w dS hr1)
 clear dS hr1
 go_enter Tryz.func104,Tryz.ntmps104
 go_wp2_with (go_at_call 149;refine HC.o.mono ?_;rintro e w1 ⟨rfl,hb⟩)
 go_ret
 exact⟨rfl,hb⟩
section
variable {A A' X X':Option Addr}{c c' cx cx':Nat}{l0 r0:List aq}{l1 r1:List aj}{w:World}
theorem aec (w:World)(a b:Value)(cs ds:Array Value)(t:TypeId):((w.alloc (.cells cs t)).alloc (.cells ds t)).heap[w.heap.size+1]?=some (.cells ds t (0,0)):=by simpa using a8 (w.alloc (.cells cs t)) (.cells ds t)
theorem ar3 (h:cD A c l0 A' c' l1 w)(g:cD X cx r0 X' cx' r1 w):
  Calls Tryz.prog 39 #[.agg #[.slice A l0.length c,.slice A' l1.length c'],.agg #[.slice X r0.length cx,.slice X' r1.length cx']] w fun e w'=>e= .returned (.bool (ql l0 r0&&pB l1 r1))/\Below w.heap.size w w':=by
 have bI:=ae (ax (ax (Below.refl w.heap.size w) (.cells #[.slice A l0.length c,.slice A' l1.length c'] 29)) (.cells #[.slice X r0.length cx,.slice X' r1.length cx'] 29))
 have cJ:=ae (aH (a8 w (.cells #[.slice A l0.length c,.slice A' l1.length c'] 29)) (.cells #[.slice X r0.length cx,.slice X' r1.length cx'] 29))
 have cq:=ae (aec w undef undef #[.slice A l0.length c,.slice A' l1.length c'] #[.slice X r0.length cx,.slice X' r1.length cx'] 29)
 have jc:=ae (afh A c l0 X cx r0 _ (Kd.bN h.hs bI.o) h.hc (Kd.bN g.hs bI.o) g.hc)
 have HK:=ae (fun W (hb:Below w.heap.size w W)=>ai8 A' c' l1 X' cx' r1 W (Kd.bN h.ks hb) (Kd.bN g.ks hb))
 clear h g
 cases hq:ql l0 r0 with
 | true=>
  rw[hq]at jc
  clear hq
  go_enter Tryz.func39,Tryz.ntmps39
  go_wp2_with (first|(go_at_call 103;refine jc.o.mono ?_;rintro e w2 ⟨rfl,hd⟩;have aI:=ae (py bI.o hd);have aC:w2.cell? ⟨w.heap.size,1,none⟩=some (.slice A' l1.length c'):=(mj (av cJ.o (py (Below.refl _ _) hd)) 1).trans rfl;have c2:w2.cell? ⟨w.heap.size+1,1,none⟩=some (.slice X' r1.length cx'):=(mj (av cq.o (py (Below.refl _ _) hd)) 1).trans rfl;clear hd)|(go_at_call 104;refine(HK.o _ aI.o).mono ?_;rintro e w3 ⟨rfl,hb3⟩;have bS:=ae (au aI.o hb3);clear hb3))
  go_ret
  exact⟨tA2,bS.o⟩
 | false=>
  rw[hq]at jc
  clear hq
  go_enter Tryz.func39,Tryz.ntmps39
  go_wp2_with (go_at_call 103;refine jc.o.mono ?_;rintro e w2 ⟨rfl,hd⟩;have aI:=ae (py bI.o hd);clear hd)
  go_ret
  exact⟨tA2,aI.o⟩
theorem ap0 (h:cD A c l0 A' c' l1 w)(g:cD X cx r0 X' cx' r1 w):
  Calls Tryz.prog 31 #[.agg #[.slice A l0.length c,.slice A' l1.length c'],.agg #[.slice X r0.length cx,.slice X' r1.length cx']] w fun e w'=>e= .returned (.bool (decide (l0.map (·.f0)=r0.map (·.f0))))/\Below w.heap.size w w':=by
 have bI:=ae (ax (ax (Below.refl w.heap.size w) (.cells #[.slice A l0.length c,.slice A' l1.length c'] 29)) (.cells #[.slice X r0.length cx,.slice X' r1.length cx'] 29))
 have HC:=ae (afg A c l0 X cx r0 _ (Kd.bN h.hs bI.o) (Kd.bN g.hs bI.o))
 clear h g
 go_enter Tryz.func31,Tryz.ntmps31
 go_wp2_with (go_at_call 91;refine HC.o.mono ?_;rintro e w2 ⟨rfl,hb⟩;have aI:=ae (au bI.o hb);clear hb)
 go_ret
 exact⟨rfl,aI.o⟩
def np (l0:List aq)(l1:List aj)(r0:List aq)(r1:List aj):Int:=
 if cQ l0 l1=0 then(if cQ r0 r1=0 then(if l0.map (·.f0)=r0.map (·.f0)then 0 else 3)else cQ r0 r1)else cQ l0 l1
end
section
variable {A A' X X':Option Addr}{c c' cx cx':Nat}{l0 r0:List aq}{l1 r1:List aj}{w:World}
theorem YP (h:cD A c l0 A' c' l1 w)(g:cD X cx r0 X' cx' r1 w){r:Int}(fW:np l0 l1 r0 r1=r):
  Calls Tryz.prog 77 #[.agg #[.slice A l0.length c,.slice A' l1.length c'],.agg #[.slice X r0.length cx,.slice X' r1.length cx']] w fun e w'=>e= .returned (.int .i64 r)/\Below w.heap.size w w':=by
 have bI:=ae (ax (ax (ax (Below.refl w.heap.size w) (.cells #[.slice A l0.length c,.slice A' l1.length c'] 29)) (.cells #[.slice X r0.length cx,.slice X' r1.length cx'] 29)) (.cells #[.slice A l0.length c,.slice A' l1.length c',.slice X r0.length cx,.slice X' r1.length cx'] 29))
 have cJ:=ae (aH (aH (a8 w (.cells #[.slice A l0.length c,.slice A' l1.length c'] 29)) (.cells #[.slice X r0.length cx,.slice X' r1.length cx'] 29)) (.cells #[.slice A l0.length c,.slice A' l1.length c',.slice X r0.length cx,.slice X' r1.length cx'] 29))
 have cq:=ae (aH (aec w undef undef #[.slice A l0.length c,.slice A' l1.length c'] #[.slice X r0.length cx,.slice X' r1.length cx'] 29) (.cells #[.slice A l0.length c,.slice A' l1.length c',.slice X r0.length cx,.slice X' r1.length cx'] 29))
 have eC:=ae (by simpa using a8 ((w.alloc (.cells #[.slice A l0.length c,.slice A' l1.length c'] 29)).alloc (.cells #[.slice X r0.length cx,.slice X' r1.length cx'] 29)) (.cells #[.slice A l0.length c,.slice A' l1.length c',.slice X r0.length cx,.slice X' r1.length cx'] 29):(((w.alloc (.cells #[.slice A l0.length c,.slice A' l1.length c'] 29)).alloc (.cells #[.slice X r0.length cx,.slice X' r1.length cx'] 29)).alloc (.cells #[.slice A l0.length c,.slice A' l1.length c',.slice X r0.length cx,.slice X' r1.length cx'] 29)).heap[w.heap.size+1+1]?=some (.cells #[.slice A l0.length c,.slice A' l1.length c',.slice X r0.length cx,.slice X' r1.length cx'] 29 (0,0)))
 have a7:=ae h
 have HG:=ae g
 have A9:=ae fW
 clear h g fW
 go_enter Tryz.func77,Tryz.ntmps77
 go_wp2
 go_loopg [6,7,12] 2 (fun bL _ _ s12 wr=>∃kk:Nat,kk<=2/\2-kk<=bL/\s12= .int .i64 kk/\af (Below w.heap.size w wr)/\af (0<kk->cQ l0 l1=0)/\af (1<kk->cQ r0 r1=0)/\af (wr.heap[w.heap.size]?=some (.cells #[.slice A l0.length c,.slice A' l1.length c'] 29 (0,0)))/\af (wr.heap[w.heap.size+1]?=some (.cells #[.slice X r0.length cx,.slice X' r1.length cx'] 29 (0,0)))/\af (wr.heap[w.heap.size+1+1]?=some (.cells #[.slice A l0.length c,.slice A' l1.length c',.slice X r0.length cx,.slice X' r1.length cx'] 29 (0,0))))
 case atStart=>exact⟨0,tA0,tA0,rfl,bI,⟨fun h=>absurd h tA0⟩,⟨fun h=>absurd h tA0⟩,cJ,cq,eC⟩
 case round=>
  clear bI cJ cq eC
  obtain⟨kk,eO,hg,rfl,bs,F1,GQ,cJ,cq,eC⟩:=hrel
  have x0:wr.cell? ⟨w.heap.size+1+1,0,none⟩=some (.slice A l0.length c):=ah eC.o 0
  have x1:wr.cell? ⟨w.heap.size+1+1,1,none⟩=some (.slice A' l1.length c'):=ah eC.o 1
  have x2:wr.cell? ⟨w.heap.size+1+1,2,none⟩=some (.slice X r0.length cx):=ah eC.o 2
  have x3:wr.cell? ⟨w.heap.size+1+1,3,none⟩=some (.slice X' r1.length cx'):=ah eC.o 3
  have aK:wr.cell? ⟨w.heap.size,0,none⟩=some (.slice A l0.length c):=ah cJ.o 0
  have z0:wr.cell? ⟨w.heap.size+1,0,none⟩=some (.slice X r0.length cx):=ah cq.o 0
  obtain rfl|rfl|rfl:kk=0\/kk=1\/kk=2:=tA0
  ·have HC:=ae (Ep (a7.o.below (ax bs.o (.cells #[.slice A l0.length c,.slice A' l1.length c'] 29))))
   by_cases e0:cQ l0 l1=0
   ·rw[e0]at HC
    go_wp2_with (go_at_call 51;refine HC.o.mono ?_;rintro e w2 ⟨rfl,hb⟩;have aI:=ae (au (ax (Below.refl _ _) _) hb))
    go_roundg 1
    case measure=>omega
    case rel=>exact⟨1,tA0,tA0,rfl,⟨au bs.o aI.o⟩,⟨fun _=>e0⟩,⟨fun h=>absurd h tA0⟩,⟨av cJ.o aI.o⟩,⟨av cq.o aI.o⟩,⟨av eC.o aI.o⟩⟩
   ·have hr:r=cQ l0 l1:=by rw[<- A9.o,np,if_neg e0]
    have hn:(cQ l0 l1 !=0)=true:=bne_iff_ne.2 e0
    go_wp2_with (go_at_call 51;refine HC.o.mono ?_;rintro e w2 ⟨rfl,hb⟩;have aI:=ae (au (ax (Below.refl _ _) _) hb))
    go_ret
    exact⟨by rw[hr];rfl,au bs.o aI.o⟩
  ·have HC:=ae (Ep (HG.o.below (ax bs.o (.cells #[.slice X r0.length cx,.slice X' r1.length cx'] 29))))
   have e0:=F1.o tA0
   by_cases e1:cQ r0 r1=0
   ·rw[e1]at HC
    go_wp2_with (go_at_call 51;refine HC.o.mono ?_;rintro e w2 ⟨rfl,hb⟩;have aI:=ae (au (ax (Below.refl _ _) _) hb))
    go_roundg 0
    case measure=>omega
    case rel=>exact⟨2,tA0,tA0,rfl,⟨au bs.o aI.o⟩,⟨fun _=>e0⟩,⟨fun _=>e1⟩,⟨av cJ.o aI.o⟩,⟨av cq.o aI.o⟩,⟨av eC.o aI.o⟩⟩
   ·have hr:r=cQ r0 r1:=by rw[<- A9.o,np,if_pos e0,if_neg e1]
    have hn:(cQ r0 r1 !=0)=true:=bne_iff_ne.2 e1
    go_wp2_with (go_at_call 51;refine HC.o.mono ?_;rintro e w2 ⟨rfl,hb⟩;have aI:=ae (au (ax (Below.refl _ _) _) hb))
    go_ret
    exact⟨by rw[hr];rfl,au bs.o aI.o⟩
  ·have e0:=F1.o tA0
   have e1:=GQ.o tA0
   have HC:=ae (aff A c l0 X cx r0 wr (Kd.bN a7.o.hs bs.o) (Kd.bN HG.o.hs bs.o))
   by_cases e2:l0.map (·.f0)=r0.map (·.f0)
   ·have hr:r=0:=by rw[<- A9.o,np,if_pos e0,if_pos e1,if_pos e2]
    rw[bn e2]at HC
    clear e2
    go_wp2_with (go_at_call 91;refine HC.o.mono ?_;rintro e w2 ⟨rfl,hb⟩)
    go_ret
    exact⟨by rw[hr];rfl,au bs.o hb⟩
   ·have hr:r=3:=by rw[<- A9.o,np,if_pos e0,if_pos e1,if_neg e2]
    rw[cE e2]at HC
    clear e2
    go_wp2_with (go_at_call 91;refine HC.o.mono ?_;rintro e w2 ⟨rfl,hb⟩)
    go_ret
    exact⟨by rw[hr];rfl,au bs.o hb⟩
end
def jv (l:List ay):List Value:=l.flatMap fun t=>[.string t.f0,.int .i64 t.f1]
theorem zJ (t:ay)(l:List ay):jv (t::l)= .string t.f0:: .int .i64 t.f1::jv l:=rfl
theorem zK:∀l:List ay,(jv l).length=l.length * 2
 | []=>rfl
 | t::l=>by rw[zJ,i6,i6,zK l,i6];omega
theorem Sm:∀(l:List ay) (j:Nat),j<l.length->(jv l)[j * 2]?=some (.string (l.getD j z79).f0)
 | [],j,h=>absurd h (Nat.not_lt_zero _)
 | t::l,0,_=>rfl
 | t::l,j+1,h=>by
  rw[zJ,show(j+1) * 2=j * 2+1+1 by omega,List.getElem?_cons_succ,List.getElem?_cons_succ,Sm l j tAi]
  rfl
theorem Sn:∀(l:List ay) (j:Nat),j<l.length->(jv l)[j * 2+1]?=some (.int .i64 (l.getD j z79).f1)
 | [],j,h=>absurd h (Nat.not_lt_zero _)
 | t::l,0,_=>rfl
 | t::l,j+1,h=>by
  rw[zJ,show(j+1) * 2+1=j * 2+1+1+1 by omega,List.getElem?_cons_succ,List.getElem?_cons_succ,Sn l j tAi]
  rfl
theorem Zy (a:ByteArray)(b:Int):∀(l:List ay) (j:Nat),((jv l).set (j * 2) (.string a)).set (j * 2+1) (.int .i64 b)=jv (l.set j ⟨a,b⟩)
 | [],j=>rfl
 | t::l,0=>rfl
 | t::l,j+1=>by
  rw[zJ,show(j+1) * 2=j * 2+1+1 by omega,List.set_cons_succ,List.set_cons_succ,List.set_cons_succ,List.set_cons_succ,Zy a b l j]
  rfl
theorem ZA:∀(l:List ay) (m:Nat),(jv l).take (m * 2)=jv (l.take m)
 | [],m=>by simp[jv]
 | t::l,0=>rfl
 | t::l,m+1=>by
  rw[zJ,show(m+1) * 2=m * 2+1+1 by omega,List.take_succ_cons,List.take_succ_cons,ZA l m]
  rfl
def cn (W:World)(X cap:Nat)(l:List ay):Prop:=∃cur:Array Value,W.heap[X]?=some (.cells cur 79 (0,0))/\l.length<=cap/\cap<=maxLen/\cur.size=cap * 2/\cur.toList.take (l.length * 2)=jv l
section
variable {W W':World}{X cap j m base:Nat}{l:List ay}
theorem cn.lt (h:cn W X cap l):X<W.heap.size:=by
 obtain⟨cur,h1,_⟩:=h
 exact az h1
theorem cn.same (h:cn W X cap l)(e:W'.heap[X]?=W.heap[X]?):cn W' X cap l:=by
 obtain⟨cur,h1,h2⟩:=h
 exact⟨cur,e.trans h1,h2⟩
theorem cn.below (h:cn W X cap l)(hb:Below W.heap.size W W'):cn W' X cap l:=h.same (hb.block X h.lt)
theorem cn.kept {S:Nat->Prop}(h:cn W X cap l)(hk:Kept W W' S)(hn:¬ S X):cn W' X cap l:=h.same (hk.2 X h.lt hn)
theorem cn.cell0 (h:cn W X cap l)(hj:j<l.length):W.cell? ⟨X,j * 2,none⟩=some (.string (l.getD j z79).f0):=by
 obtain⟨cur,h1,h2,h3,h4,h5⟩:=h
 rw[mj h1,<- Sm l j hj,<- h5,jC tA0,Array.getElem?_toList]
theorem cn.cell1 (h:cn W X cap l)(hj:j<l.length):W.cell? ⟨X,j * 2+1,none⟩=some (.int .i64 (l.getD j z79).f1):=by
 obtain⟨cur,h1,h2,h3,h4,h5⟩:=h
 rw[mj h1,<- Sn l j hj,<- h5,jC tA0,Array.getElem?_toList]
theorem cn.frozen (h:cn W X cap l)(i:Nat):W.frozen? ⟨X,i,none⟩=false:=by
 obtain⟨cur,h1,_⟩:=h
 exact ar h1 i
theorem cn.set (h:cn W X cap l)(j:Nat)(a:ByteArray)(b:Int):cn ((W.setCell ⟨X,j * 2,none⟩ (.string a)).setCell ⟨X,j * 2+1,none⟩ (.int .i64 b)) X cap (l.set j ⟨a,b⟩):=by
 obtain⟨cur,h1,h2,h3,h4,h5⟩:=h
 refine⟨(cur.setIfInBounds (j * 2) (.string a)).setIfInBounds (j * 2+1) (.int .i64 b),uV (uV h1 _ _) _ _,tD1,h3,by simpa using h4,?_⟩
 rw[List.length_set,Array.toList_setIfInBounds,Array.toList_setIfInBounds,List.take_set,List.take_set,h5,Zy]
theorem cn.take (h:cn W X cap l)(m:Nat):cn W X cap (l.take m):=by
 obtain⟨cur,h1,h2,h3,h4,h5⟩:=h
 refine⟨cur,h1,tAg,h3,h4,?_⟩
 rw[<- ZA,<- h5,List.take_take,bQ]
 congr 1
 omega
theorem cn.owns (h:cn W X cap l)(hb:base<=X):W.ownsRow base 79 2 (.slice (some ⟨X,0,none⟩) l.length cap) l.length (jv l):=by
 obtain⟨cur,h1,h2,h3,h4,h5⟩:=h
 exact⟨zK l,.inr ⟨X,cap,cur,rfl,hb,h1,h2,h3,h4,h5⟩⟩
theorem cn.acK {v:Value}(h:W.ownsRow base 79 2 v l.length (jv l))(hn:v≠ .slice none 0 0):∃X cap,v= .slice (some ⟨X,0,none⟩) l.length cap/\base<=X/\cn W X cap l:=by
 obtain⟨h0,h1⟩:=h
 rcases h1 with⟨e,_⟩|⟨g,cap,cur,rfl,h2,h3,h4,h5,h6,h7⟩
 ·exact absurd e hn
 ·exact⟨g,cap,rfl,h2,cur,h3,h4,h5,h6,h7⟩
theorem cn.F (h:cn W X cap l)(hl:l.length<=9223372036854775807):Kd.F cf W (fun k=>k=X) (some ⟨X,0,none⟩) l.length l:=by
 intro W' hW
 have h':=h.same (hW X rfl h.lt)
 refine⟨rfl,hl,fun _=>⟨_,rfl,fun j p hj=>?_⟩⟩
 obtain⟨gQ,Tk⟩:=iC.1 hj
 have e:l.getD j z79=p:=by simp[List.getD,hj]
 have bf:=h'.cell0 gQ
 have c1:=h'.cell1 gQ
 rw[e]at bf c1
 refine⟨[.string p.f0,.int .i64 p.f1],rfl,⟨[.string p.f0],[.int .i64 p.f1],rfl,rfl,rfl⟩,fun i u hu=>?_⟩
 show W'.cell? (Addr.add ⟨X,0,none⟩ (j * 2+i))=_
 rw[add_plain]
 cases i with
 | zero=>
  simp only[List.getElem?_cons_zero,Option.some.injEq]at hu
  subst hu
  exact bf
 | succ i=>
  cases i with
  | zero=>
   simp only[List.getElem?_cons_succ,List.getElem?_cons_zero,Option.some.injEq]at hu
   subst hu
   exact c1
  | succ i=>simp at hu
end
theorem ZN (a:ByteArray)(b:Int)(W:World):Calls Tryz.prog 108 #[.agg #[.string a,.int .i64 b]] W fun e w'=>∃q:Bool,e= .returned (.bool q)/\Below W.heap.size W w':=by
 go_enter Tryz.func108,Tryz.ntmps108
 go_wp2
 go_ret
 exact⟨_,rfl,ax (Below.refl _ _) _⟩
theorem ah4 {X cap:Nat}{l:List ay}{W:World}(h:cn W X cap l)(hl:l.length<=1000):
  Calls Tryz.prog 153 #[.slice (some ⟨X,0,none⟩) l.length cap,.func (.func 108) #[] #[]] W fun e w'=>∃r:Int,e= .returned (.int .i64 r)/\(-1<=r/\r<l.length)/\Below W.heap.size W w':=by
 have bT:=ae h
 have eg:=enters_of Tryz.func108 tA1 rfl
 clear h
 go_enter Tryz.func153,Tryz.ntmps153
 go_wp2
 go_loopg [5,8] l.length (fun bL _ kE wr=>∃kk:Nat,kk<=l.length/\l.length-kk<=bL/\kE= .int .i64 kk/\af (Below W.heap.size W wr))
 case atStart=>exact⟨0,Nat.zero_le _,tA0,rfl,⟨Below.refl _ _⟩⟩
 case round=>
  obtain⟨kk,eO,hg,rfl,ak⟩:=hrel
  by_cases hlt:kk<l.length
  ·have cp:(kk:Int)< (l.length:Int):=by omega
   have bf:=(bT.o.below ak.o).cell0 hlt
   have c1:=(bT.o.below ak.o).cell1 hlt
   generalize l.getD kk z79=y at *
   obtain⟨aK,aC⟩:=y
   go_wp2_with (go_at_fn 108)
   refine(ZN aK aC _).mono ?_
   rintro e w2 ⟨q,rfl,hb⟩
   have aI:=ae (au ak.o hb)
   clear hb
   cases q<;>go_wp2
   ·go_roundg (l.length- (kk+1))
    case measure=>omega
    case rel=>exact⟨kk+1,tA0,tA0,tA7,aI⟩
   ·go_ret
    exact⟨_,rfl,⟨tA0,tA0⟩,aI.o⟩
  ·have cp:¬ (kk:Int)< (l.length:Int):=by omega
   go_wp2
   go_ret
   exact⟨_,rfl,⟨tA0,tA0⟩,ak.o⟩
theorem cn.cells {W:World}{X cap:Nat}{l:List ay}(h:cn W X cap l)(j:Nat)(u:Value)(hj:(jv l)[j]?=some u):W.cell? ⟨X,j,none⟩=some u:=by
 obtain⟨cur,h1,h2,h3,h4,h5⟩:=h
 have hl:=(iC.1 hj).1
 rw[zK]at hl
 rw[mj h1,<- hj,<- h5,jC hl,Array.getElem?_toList]
theorem alG (l:List ay):∀u∈jv l,u.oneCell'=true:=by
 intro u hu
 unfold jv at hu
 obtain⟨t,_,ht⟩:=List.mem_flatMap.1 hu
 simp only[List.mem_cons,List.not_mem_nil,or_false]at ht
 rcases ht with rfl|rfl<;>rfl
theorem i79:∃i:TypeInfo,Tryz.prog.info? 79=some i/\i.zero=some (.agg #[.string ⟨#[]⟩,.int .i64 0])/\i.size=2/\i.bytes=24:=by
 have h:(Tryz.prog.info? 79).map (fun i=>(i.zero,i.size,i.bytes))=some (some (.agg #[.string ⟨#[]⟩,.int .i64 0]),2,24):=tA1
 obtain⟨i,hi,e⟩:=Option.map_eq_some_iff.1 h
 simp only[Prod.mk.injEq]at e
 exact⟨i,hi,e.1,e.2.1,e.2.2⟩
theorem ae4 {Y c:Nat}{l:List ay}{w:World}(h:cn w Y c l)(hl:l.length<=1000):
  Calls Tryz.prog 107 #[.slice (some ⟨Y,0,none⟩) l.length c] w fun e w'=>∃X cap,e= .returned (.slice (some ⟨X,0,none⟩) l.length cap)/\w.heap.size<=X/\cn w' X cap l/\Below w.heap.size w w':=by
 have bT:=ae h
 have ayr:∀(w:World) (a:Option Addr) (n c n' c':Nat),(binOp .eql 31 (.slice a n c) (.slice none n' c')).run Tryz.prog w= .ok (.bool a.isNone) w:=fun w a n c n' c'=>Lib.run_eql_slice_nil w _ _ a n c n' c' Tryz.underlying31
 obtain⟨i,ans,ant,anu,anv⟩:=i79
 clear h
 go_enter Tryz.func107,Tryz.ntmps107
 go_wp2_with (at_builtin;refine wpList_append_own _ rfl _ _ 31 rfl w.heap.size 79 i (.agg #[.string ⟨#[]⟩,.int .i64 0]) 2 24 Tryz.underlying31 ans ant anu anv rfl tA3 _ _ _ rfl (World.ownsRow_made w #[] 0 (bl _) (Nat.zero_le _) tA2) ⟨Y,0,none⟩ l.length c (jv l) rfl (zK l) ?qc2 (alG l) ?qc4 ?qc5 tA2 ?_)
 case qc2=>
  intro j u hj
  rw[add_plain]
  exact(bT.o.below (ax (Below.refl _ _) _)).cells j u hj
 case qc4=>unfold maxLen;omega
 case qc5=>omega
 intro v' w1 hown hgrow hnil
 have bm:=ae hnil
 have HO:=ae hown
 clear hown hnil
 go_wp2
 go_ret
 obtain⟨X,cap,rfl,hX,hT⟩:=cn.acK HO.o bm.o
 exact⟨X,cap,rfl,hX,hT,((Below.refl _ w).alloc (bl _) _).grown hgrow tA2 (by intro k hk;simp[Value.ownBlock]at hk;omega)⟩
theorem Yl (X s m:Nat)(L:List Value):∀(zs:List Value) (o:Nat) (W:World),m<=o->(∃cur:Array Value,W.heap[X]?=some (.cells cur 79 (0,0))/\cur.size=s/\cur.toList.take m=L)->∃cur:Array Value,(W.setCells X o zs).heap[X]?=some (.cells cur 79 (0,0))/\cur.size=s/\cur.toList.take m=L
 | [],o,W,_,h=>h
 | z::zs,o,W,hm,⟨cur,h1,h2,h3⟩=>Yl X s m L zs (o+1) (W.setCell ⟨X,o,none⟩ z) tA0 ⟨cur.setIfInBounds o z,uV h1 _ _,tBn,by
  rw[Array.toList_setIfInBounds,List.take_set,h3]
  rw[<- h3]
  exact List.set_eq_of_length_le tAg⟩
theorem cn.clear {W:World}{X cap:Nat}{l:List ay}(h:cn W X cap l)(i:Nat)(hi:i<=l.length)(zs:List Value):cn (W.setCells X (i * 2) zs) X cap (l.take i):=by
 obtain⟨cur,h1,h2,h3,h4,h5⟩:=h.take i
 rw[bQ,Nat.min_eq_left hi]at h5 h2
 obtain⟨cur',k1,k2,k3⟩:=Yl X (cap * 2) (i * 2) _ zs (i * 2) W (bl _) ⟨cur,h1,h4,h5⟩
 exact⟨cur',k1,by rw[bQ,Nat.min_eq_left hi];exact h2,h3,k2,by rw[bQ,Nat.min_eq_left hi];exact k3⟩
theorem CP (g:Nat){w0:World}{S:Nat->Prop}(hS:S g):∀(vs:List Value) (o:Nat) (W:World),Kept w0 W S->Kept w0 (W.setCells g o vs) S
 | [],_,_,h=>h
 | v::vs,o,W,h=>CP g hS vs (o+1) (W.setCell ⟨g,o,none⟩ v) (fN h (.inl hS) v)
theorem BM (g:Nat){w0:World}(hg:w0.heap.size<=g):∀(vs:List Value) (o:Nat) (W:World),Below w0.heap.size w0 W->Below w0.heap.size w0 (W.setCells g o vs)
 | [],_,_,h=>h
 | v::vs,o,W,h=>BM g hg vs (o+1) (W.setCell ⟨g,o,none⟩ v) (h.setCell (p:=⟨g,o,none⟩) hg v)
theorem U3 (W:World)(b o n c:Nat)(hn:0<n)(hc:∀j,j<n * 2->(W.cell? ⟨b,o+j,none⟩).isSome=true)(hf:∀j,j<n * 2->W.frozen? ⟨b,o+j,none⟩=false):
  ∃zs:List Value,∀ty,(Builtin.clear_ #[31] ty #[.slice (some ⟨b,o,none⟩) n c]).run Tryz.prog W= .ok (.tuple #[]) (W.setCells b o zs):=by
 have hv:∀w,(zeroValue 79).run Tryz.prog w= .ok (.agg #[.string ⟨#[]⟩,.int .i64 0]) w:=Tryz.zeroValue79
 refine⟨(Builtin.zeroCells (Value.agg #[.string ⟨#[]⟩,.int .i64 0]).cells n).toList,fun ty=>?_⟩
 have hcs:(Value.agg #[.string ⟨#[]⟩,.int .i64 0]).cells=#[.string ⟨#[]⟩,.int .i64 0]:=rfl
 have hlen:(Builtin.zeroCells (Value.agg #[.string ⟨#[]⟩,.int .i64 0]).cells n).toList.length=n * 2:=tC2
 have sH:∀v∈(Builtin.zeroCells (Value.agg #[.string ⟨#[]⟩,.int .i64 0]).cells n).toList,v.oneCell'=true:=by
  rw[hcs]
  intro v hv
  simp only[Builtin.zeroCells,Array.toList_map,List.mem_map]at hv
  obtain⟨i,_,rfl⟩:=hv
  have:i % 2=0\/i % 2=1:=tA0
  show(#[Value.string ⟨#[]⟩,Value.int .i64 0][i % 2]!).oneCell'=true
  rcases this with e|e<;>rw[e]<;>rfl
 have hst:=run_storeCells_cells (P:=Tryz.prog) b o _ 0 W tBq tCd sH
 simp only[Nat.add_zero]at hst
 obtain⟨m,rfl⟩:∃m,n=m+1:=⟨n-1,tA0⟩
 simp[Builtin.clear_,run_underlying Tryz.underlying31,hv,hst]
def n4 (t:ay):Prop:=t.f0.size<=10
theorem ae9 {X cap:Nat}{l:List ay}{w0 W:World}(h:cn W X cap l)(hl:l.length<=1000)(hn:∀t∈l,n4 t)(hX:w0.heap.size<=X)(hB:Below w0.heap.size w0 W):
  Calls Tryz.prog 106 #[.slice (some ⟨X,0,none⟩) l.length cap,.func (.func 108) #[] #[]] W fun e w'=>∃l':List ay,e= .returned (.slice (some ⟨X,0,none⟩) l'.length cap)/\l'.length<=l.length/\(∀t∈l',n4 t)/\cn w' X cap l'/\Kept W w' (fun k=>k=X)/\Below w0.heap.size w0 w':=by
 have bT:=ae h
 have bm:=ae hn
 have ak:=ae hB
 have eg:=enters_of Tryz.func108 tA1 rfl
 have nE:=ae (ah4 h hl)
 clear h hn hB
 go_enter Tryz.func106,Tryz.ntmps106
 go_wp2_with (go_at_call 153;refine nE.o.mono ?_;rintro e w1 ⟨r,rfl,hr,hb⟩;have bI:=ae hb;have fM:=ae (bT.o.below hb);clear hb;by_cases fW:r= -1)
 ·subst fW
  go_wp2
  go_ret
  exact⟨l,rfl,bl _,bm.o,fM.o,Kept.gF bI.o _,cm ak.o ak.o.size bI.o⟩
 ·have hr1:(r== -1)=false:=ey.2 fW
  obtain⟨i0,rfl⟩:∃i0:Nat,r=(i0:Int):=⟨r.toNat,tA0⟩
  have ru:i0<l.length:=tA0
  have bA:=ae (cm ak.o ak.o.size bI.o)
  clear hr fW
  go_wp2
  go_loopg [5,6,7] l.length (fun bL tQ qG _ wr=>∃(i j:Nat) (cur:List ay),i<j/\j<=l.length/\l.length-j<=bL/\tQ= .int .i64 i/\qG= .int .i64 j/\cur.length=l.length/\af (∀t∈cur,n4 t)/\af (cn wr X cap cur)/\af (Kept W wr (fun k=>k=X))/\af (Below w0.heap.size w0 wr))
  case atStart=>exact⟨i0,i0+1,l,tA0,tA0,tA0,rfl,tA7,rfl,bm,fM,⟨Kept.gF bI.o _⟩,bA⟩
  case round=>
   obtain⟨i,j,cur,Ce,hj,hg,rfl,rfl,gN,HC,b9,HK,dX⟩:=hrel
   by_cases hlt:j<l.length
   ·have cp:(j:Int)< (l.length:Int):=by omega
    have IY:(i:Int)< (l.length:Int):=tA0
    have bf:=b9.o.cell0 (j:=j) tA0
    have c1:=b9.o.cell1 (j:=j) tA0
    have dQ:af (n4 (cur.getD j z79)):=⟨HC.o _ (by
     have hj':j<cur.length:=tA0
     simp only[List.getD,b8 hj',Option.getD_some]
     exact List.getElem_mem hj')⟩
    have eJ:=ae gN
    clear gN
    generalize cur.getD j z79=y at *
    obtain⟨aK,aC⟩:=y
    have ie:=ae (ax (Below.refl wr.heap.size wr) (.cells #[.string aK,.int .i64 aC] 79))
    have ki:=ae (a8 wr (.cells #[.string aK,.int .i64 aC] 79))
    go_wp2_with (go_at_fn 108)
    refine(ZN aK aC _).mono ?_
    rintro e w2 ⟨q,rfl,hb⟩
    have aI:=ae (au ie.o hb)
    have gJ:=ae (av ki.o hb)
    clear hb bf c1
    have e9:=ae (b9.o.below aI.o)
    have dP:=ae (HK.o.below aI.o)
    have o7:=ae (cm dX.o dX.o.size aI.o)
    cases q with
    | true=>
     go_wp2
     go_roundg (l.length- (j+1))
     case measure=>omega
     case rel=>exact⟨i,j+1,cur,tA0,tA0,tA0,rfl,tA7,eJ.o,HC,e9,dP,o7⟩
    | false=>
     have z0:w2.cell? ⟨wr.heap.size,0,none⟩=some (.string aK):=ah gJ.o 0
     have c2:w2.cell? ⟨wr.heap.size,1,none⟩=some (.int .i64 aC):=ah gJ.o 1
     have s0:=e9.o.cell0 (j:=i) tAy
     have s1:=e9.o.cell1 (j:=i) tAy
     have f0:=e9.o.frozen (i * 2)
     have f1:=e9.o.frozen (i * 2+1)
     have sJ:=e9.o.lt
     go_wp2
     go_roundg (l.length- (j+1))
     case measure=>omega
     case rel=>exact⟨i+1,j+1,cur.set i ⟨aK,aC⟩,tA0,tA0,tA0,tA7,tA7,tC4,⟨fun t ht=>(List.mem_or_eq_of_mem_set ht).elim (HC.o t) (fun e=>by rw[e];exact dQ.o)⟩,⟨e9.o.set i aK aC⟩,⟨fN (p:=⟨X,i * 2+1,none⟩) (fN (p:=⟨X,i * 2,none⟩) dP.o (.inl rfl) _) (.inl rfl) _⟩,⟨(o7.o.setCell (p:=⟨X,i * 2,none⟩) hX _).setCell (p:=⟨X,i * 2+1,none⟩) hX _⟩⟩
   ·have cp:¬ (j:Int)< (l.length:Int):=by omega
    have mG:j=l.length:=tA0
    subst mG
    have B9:l.length<=cap:=by
     obtain⟨_,_,h2,_⟩:=bT.o
     exact h2
    obtain⟨zs,IU⟩:=U3 wr X (i * 2) (l.length-i) (cap-i) tA0 (fun k hk=>by
     have:∃u,(jv cur)[i * 2+k]?=some u:=⟨_,b8 (by rw[zK,gN];omega)⟩
     obtain⟨u,hu⟩:=this
     rw[b9.o.cells _ u hu]
     rfl) (fun k hk=>b9.o.frozen _)
    have eJ:=ae gN
    clear gN
    have Sr:(0:Int)<=(i:Int):=tA0
    have mJ:(i:Int)<=(l.length:Int):=tA0
    have Te:(i:Int)<=(cap:Int):=tA0
    have hne:¬ cap=i:=tA0
    go_wp2
    go_ret
    have zV:(cur.take i).length=i:=by rw[bQ];have:=eJ.o;omega
    exact⟨cur.take i,by rw[zV];rfl,by rw[zV];omega,fun t ht=>HC.o t (List.mem_of_mem_take ht),b9.o.clear i tAy zs,CP X (S:=fun k=>k=X) rfl _ _ _ HK.o,BM X hX _ _ _ dX.o⟩
end Go.Proofs.YtjgakaembhmhpaaGreatDoor.PA
namespace Go.Proofs
open Go.Shelf
def Tryz.aca:Go.Shelf.Ren:=⟨fun|156=>157|165=>195|166=>196|169=>197|240=>213|241=>214|276=>230|277=>231|n=>n,fun|31=>37|9=>9|3=>3|4=>4|0=>0|20=>20|72=>208|76=>211|70=>205|37=>206|75=>210|127=>225|164=>236|5=>5|80=>213|n=>n,fun|n=>n⟩
theorem Tryz.apy:Go.Proofs.Lays.n156 Tryz.prog Tryz.aca:={
 mixed:=by kernel_rfl
 f156:=Tryz.func157.trans (congrArg some (by kernel_rfl))
 f165:=Tryz.func195.trans (congrArg some (by kernel_rfl))
 f166:=Tryz.func196.trans (congrArg some (by kernel_rfl))
 f169:=Tryz.func197.trans (congrArg some (by kernel_rfl))
 f240:=Tryz.func213.trans (congrArg some (by kernel_rfl))
 f241:=Tryz.func214.trans (congrArg some (by kernel_rfl))
 f276:=Tryz.func230.trans (congrArg some (by kernel_rfl))
 f277:=Tryz.func231.trans (congrArg some (by kernel_rfl))
 t0:=Tryz.underlying0
 a0:=Tryz.isAgg0
 z0:=Tryz.sizeOf0
 v0:=Tryz.zeroValue0
 t3:=Tryz.underlying3
 a3:=Tryz.isAgg3
 z3:=Tryz.sizeOf3
 v3:=Tryz.zeroValue3
 t4:=Tryz.underlying4
 a4:=Tryz.isAgg4
 z4:=Tryz.sizeOf4
 v4:=Tryz.zeroValue4
 t9:=Tryz.underlying9
 a9:=Tryz.isAgg9
 z9:=Tryz.sizeOf9
 v9:=Tryz.zeroValue9
 t20:=Tryz.underlying20
 a20:=Tryz.isAgg20
 z20:=Tryz.sizeOf20
 v20:=Tryz.zeroValue20
 t31:=Tryz.underlying37
 a31:=Tryz.isAgg37
 z31:=Tryz.sizeOf37
 v31:=Tryz.zeroValue37
 t37:=Tryz.underlying206
 a37:=Tryz.isAgg206
 z37:=Tryz.sizeOf206
 v37:=Tryz.zeroValue206
 t70:=Tryz.underlying205
 a70:=Tryz.isAgg205
 z70:=Tryz.sizeOf205
 v70:=Tryz.zeroValue205
 t72:=Tryz.underlying208
 a72:=Tryz.isAgg208
 z72:=Tryz.sizeOf208
 v72:=Tryz.zeroValue208
 t75:=Tryz.underlying210
 a75:=Tryz.isAgg210
 z75:=Tryz.sizeOf210
 v75:=Tryz.zeroValue210
 t76:=Tryz.underlying211
 a76:=Tryz.isAgg211
 z76:=Tryz.sizeOf211
 v76:=Tryz.zeroValue211
 t127:=Tryz.underlying225
 a127:=Tryz.isAgg225
 z127:=Tryz.sizeOf225
 v127:=Tryz.zeroValue225
 t164:=Tryz.underlying236
 a164:=Tryz.isAgg236
 z164:=Tryz.sizeOf236
 v164:=Tryz.zeroValue236}
theorem Tryz.ae2:Builder.Extra Tryz.prog Tryz.aca:={
 sizeBuilder:=by kernel_rfl
 liesBuilder:=by kernel_rfl
 t5:=Tryz.underlying5
 a5:=Tryz.isAgg5
 z5:=Tryz.sizeOf5
 v5:=Tryz.zeroValue5
 infoByte:=by kernel_rfl
 cellsByte:=by kernel_rfl
 sizeByte:=by kernel_rfl
 neB5:=by decide}
open Go.RowKit in
open Go.RowKit in
theorem Tryz.strings_Join (LP o c:Nat)(xs:List ByteArray)(sep:ByteArray)(w:World)(qx:∀(j:Nat) x,xs[j]?=some x->w.cell? ⟨LP,o+j,none⟩=some (.string x))(amn:LP<w.heap.size)(hN:xs.length<=140737488355328)(B9:xs.length<=c)(hlen:(Lib.join (xs.map (·.data.toList)) sep.data.toList).length<=140737488355328):
 Calls Tryz.prog 157 #[.slice (some ⟨LP,o,none⟩) xs.length c,.string sep] w fun e w'=>e= .returned (.string ⟨(Lib.join (xs.map (·.data.toList)) sep.data.toList).toArray⟩)/\Below w.heap.size w w':=Any.strings_Join Tryz.apy Tryz.ae2 LP o c xs sep w qx amn hN B9 hlen
def Tryz.apx:Go.Shelf.Ren:=⟨fun|106=>111|213=>155|265=>193|n=>n,fun|9=>9|3=>3|n=>n,fun|n=>n⟩
theorem Tryz.apw:Go.Proofs.Lays.n106 Tryz.prog Tryz.apx:={
 mixed:=by kernel_rfl
 f106:=Tryz.func111.trans (congrArg some (by kernel_rfl))
 f213:=Tryz.func155.trans (congrArg some (by kernel_rfl))
 f265:=Tryz.func193.trans (congrArg some (by kernel_rfl))
 t3:=Tryz.underlying3
 a3:=Tryz.isAgg3
 z3:=Tryz.sizeOf3
 v3:=Tryz.zeroValue3
 t9:=Tryz.underlying9
 a9:=Tryz.isAgg9
 z9:=Tryz.sizeOf9
 v9:=Tryz.zeroValue9}
open Go.RowKit in
theorem Tryz.strings_Compare (a b:ByteArray)(w:World):
 Calls Tryz.prog 111 #[.string a,.string b] w fun e w'=>e= .returned (.int .i64 (Lib.compareBytes a.data.toList b.data.toList))/\w'=w:=Any.strings_Compare Tryz.apw a b w
def Tryz.apA:Go.Shelf.Ren:=⟨fun|171=>194|243=>212|246=>229|283=>237|284=>238|285=>239|286=>240|129=>170|317=>243|318=>244|319=>245|320=>246|337=>247|338=>248|n=>n,fun|3=>3|9=>9|2=>2|4=>4|171=>241|0=>0|53=>175|37=>206|5=>5|173=>243|212=>247|51=>172|20=>20|213=>248|46=>137|232=>249|233=>250|n=>n,fun|17=>1|18=>2|19=>3|n=>n⟩
theorem Tryz.apz:Go.Proofs.LaysM.n171 Tryz.prog Tryz.apA:={
 mixed:=by kernel_rfl
 f129:=Tryz.func170.trans (congrArg some (by kernel_rfl))
 f171:=Tryz.func194.trans (congrArg some (by kernel_rfl))
 f243:=Tryz.func212.trans (congrArg some (by kernel_rfl))
 f246:=Tryz.func229.trans (congrArg some (by kernel_rfl))
 f283:=Tryz.func237.trans (congrArg some (by kernel_rfl))
 f284:=Tryz.func238.trans (congrArg some (by kernel_rfl))
 f285:=Tryz.func239.trans (congrArg some (by kernel_rfl))
 f286:=Tryz.func240.trans (congrArg some (by kernel_rfl))
 f317:=Tryz.func243.trans (congrArg some (by kernel_rfl))
 f318:=Tryz.func244.trans (congrArg some (by kernel_rfl))
 f319:=Tryz.func245.trans (congrArg some (by kernel_rfl))
 f320:=Tryz.func246.trans (congrArg some (by kernel_rfl))
 f337:=Tryz.func247.trans (congrArg some (by kernel_rfl))
 f338:=Tryz.func248.trans (congrArg some (by kernel_rfl))
 t0:=Tryz.underlying0
 a0:=Tryz.isAgg0
 z0:=Tryz.sizeOf0
 v0:=Tryz.zeroValue0
 t2:=Tryz.underlying2
 a2:=Tryz.isAgg2
 z2:=Tryz.sizeOf2
 v2:=Tryz.zeroValue2
 t3:=Tryz.underlying3
 a3:=Tryz.isAgg3
 z3:=Tryz.sizeOf3
 v3:=Tryz.zeroValue3
 t4:=Tryz.underlying4
 a4:=Tryz.isAgg4
 z4:=Tryz.sizeOf4
 v4:=Tryz.zeroValue4
 t5:=Tryz.underlying5
 a5:=Tryz.isAgg5
 z5:=Tryz.sizeOf5
 v5:=Tryz.zeroValue5
 t9:=Tryz.underlying9
 a9:=Tryz.isAgg9
 z9:=Tryz.sizeOf9
 v9:=Tryz.zeroValue9
 t20:=Tryz.underlying20
 a20:=Tryz.isAgg20
 z20:=Tryz.sizeOf20
 v20:=Tryz.zeroValue20
 t37:=Tryz.underlying206
 a37:=Tryz.isAgg206
 z37:=Tryz.sizeOf206
 v37:=Tryz.zeroValue206
 t46:=Tryz.underlying137
 a46:=Tryz.isAgg137
 z46:=Tryz.sizeOf137
 v46:=Tryz.zeroValue137
 t51:=Tryz.underlying172
 a51:=Tryz.isAgg172
 z51:=Tryz.sizeOf172
 v51:=Tryz.zeroValue172
 t53:=Tryz.underlying175
 a53:=Tryz.isAgg175
 z53:=Tryz.sizeOf175
 v53:=Tryz.zeroValue175
 t171:=Tryz.underlying241
 a171:=Tryz.isAgg241
 z171:=Tryz.sizeOf241
 v171:=Tryz.zeroValue241
 t173:=Tryz.underlying243
 a173:=Tryz.isAgg243
 z173:=Tryz.sizeOf243
 v173:=Tryz.zeroValue243
 t212:=Tryz.underlying247
 a212:=Tryz.isAgg247
 z212:=Tryz.sizeOf247
 v212:=Tryz.zeroValue247
 t213:=Tryz.underlying248
 a213:=Tryz.isAgg248
 z213:=Tryz.sizeOf248
 t232:=Tryz.underlying249
 a232:=Tryz.isAgg249
 z232:=Tryz.sizeOf249
 v232:=Tryz.zeroValue249
 t233:=Tryz.underlying250
 a233:=Tryz.isAgg250
 z233:=Tryz.sizeOf250
 v233:=Tryz.zeroValue250
 g17:=by kernel_rfl
 g18:=by kernel_rfl
 g19:=by kernel_rfl
 i0:=by kernel_rfl
 i2:=by kernel_rfl
 i3:=by kernel_rfl
 i4:=by kernel_rfl
 i5:=by kernel_rfl
 i9:=by kernel_rfl
 i20:=by kernel_rfl
 i37:=by kernel_rfl
 i46:=by kernel_rfl
 i51:=by kernel_rfl
 i53:=by kernel_rfl
 i171:=by kernel_rfl
 i173:=by kernel_rfl
 i212:=by kernel_rfl
 i232:=by kernel_rfl
 i233:=by kernel_rfl
 m17:=by kernel_rfl
 m18:=by kernel_rfl
 m19:=by kernel_rfl}
open Go.RowKit Go.Sort Go.Lib in
theorem Tryz.strconv_Itoa (n:Int)(h0: -9223372036854775808<=n)(h1:n<=9223372036854775807)(w:World)(aos:Lib.TabIs Tryz.prog w "internal/strconv.uint64pow10" .u64 Lib.pow10Tab):
 Calls Tryz.prog 194 #[.int .i64 n] w fun e w'=>e= .returned (.string ⟨(Lib.itoa n).toArray⟩)/\∃k os,w'=grow (w.drewN k) os:=Any.strconv_Itoa Tryz.apz n h0 h1 w aos
def Tryz.adL:Go.Shelf.Ren:=⟨fun|6=>109|15=>123|14=>154|28=>169|29=>170|20=>185|21=>186|22=>187|23=>188|24=>189|25=>190|26=>191|27=>192|46=>209|47=>200|48=>201|49=>210|50=>211|57=>228|n=>n,fun|22=>31|24=>79|25=>145|3=>3|39=>137|0=>0|53=>172|55=>175|4=>4|46=>186|45=>185|50=>129|5=>5|9=>9|66=>214|70=>218|76=>226|77=>227|n=>n,fun|n=>n⟩
theorem Tryz.adK:Go.Proofs.SlLaysF0.n6 Tryz.prog Tryz.adL:={
 mixed:=by kernel_rfl
 f6:=⟨Tryz.f109.name,by decide,Tryz.func109.trans (congrArg some (by kernel_rfl))⟩
 f14:=⟨Tryz.f154.name,by decide,Tryz.func154.trans (congrArg some (by kernel_rfl))⟩
 f15:=Tryz.func123.trans (congrArg some (by kernel_rfl))
 f20:=⟨Tryz.f185.name,by decide,Tryz.func185.trans (congrArg some (by kernel_rfl))⟩
 f21:=⟨Tryz.f186.name,by decide,Tryz.func186.trans (congrArg some (by kernel_rfl))⟩
 f22:=⟨Tryz.f187.name,by decide,Tryz.func187.trans (congrArg some (by kernel_rfl))⟩
 f23:=⟨Tryz.f188.name,by decide,Tryz.func188.trans (congrArg some (by kernel_rfl))⟩
 f24:=⟨Tryz.f189.name,by decide,Tryz.func189.trans (congrArg some (by kernel_rfl))⟩
 f25:=⟨Tryz.f190.name,by decide,Tryz.func190.trans (congrArg some (by kernel_rfl))⟩
 f26:=⟨Tryz.f191.name,by decide,Tryz.func191.trans (congrArg some (by kernel_rfl))⟩
 f27:=⟨Tryz.f192.name,by decide,Tryz.func192.trans (congrArg some (by kernel_rfl))⟩
 f28:=Tryz.func169.trans (congrArg some (by kernel_rfl))
 f29:=Tryz.func170.trans (congrArg some (by kernel_rfl))
 f46:=⟨Tryz.f209.name,by decide,Tryz.func209.trans (congrArg some (by kernel_rfl))⟩
 f47:=Tryz.func200.trans (congrArg some (by kernel_rfl))
 f48:=Tryz.func201.trans (congrArg some (by kernel_rfl))
 f49:=⟨Tryz.f210.name,by decide,Tryz.func210.trans (congrArg some (by kernel_rfl))⟩
 f50:=⟨Tryz.f211.name,by decide,Tryz.func211.trans (congrArg some (by kernel_rfl))⟩
 f57:=⟨Tryz.f228.name,by decide,Tryz.func228.trans (congrArg some (by kernel_rfl))⟩
 t0:=Tryz.underlying0
 a0:=Tryz.isAgg0
 z0:=Tryz.sizeOf0
 v0:=Tryz.zeroValue0
 t3:=Tryz.underlying3
 a3:=Tryz.isAgg3
 z3:=Tryz.sizeOf3
 v3:=Tryz.zeroValue3
 t4:=Tryz.underlying4
 a4:=Tryz.isAgg4
 z4:=Tryz.sizeOf4
 v4:=Tryz.zeroValue4
 t5:=Tryz.underlying5
 a5:=Tryz.isAgg5
 z5:=Tryz.sizeOf5
 v5:=Tryz.zeroValue5
 t9:=Tryz.underlying9
 a9:=Tryz.isAgg9
 z9:=Tryz.sizeOf9
 v9:=Tryz.zeroValue9
 t22:=Tryz.underlying31
 a22:=Tryz.isAgg31
 z22:=Tryz.sizeOf31
 v22:=Tryz.zeroValue31
 t25:=Tryz.underlying145
 a25:=Tryz.isAgg145
 z25:=Tryz.sizeOf145
 v25:=Tryz.zeroValue145
 t39:=Tryz.underlying137
 a39:=Tryz.isAgg137
 z39:=Tryz.sizeOf137
 v39:=Tryz.zeroValue137
 t45:=Tryz.underlying185
 a45:=Tryz.isAgg185
 z45:=Tryz.sizeOf185
 v45:=Tryz.zeroValue185
 t46:=Tryz.underlying186
 a46:=Tryz.isAgg186
 z46:=Tryz.sizeOf186
 v46:=Tryz.zeroValue186
 t50:=Tryz.underlying129
 a50:=Tryz.isAgg129
 z50:=Tryz.sizeOf129
 v50:=Tryz.zeroValue129
 t53:=Tryz.underlying172
 a53:=Tryz.isAgg172
 z53:=Tryz.sizeOf172
 v53:=Tryz.zeroValue172
 t55:=Tryz.underlying175
 a55:=Tryz.isAgg175
 z55:=Tryz.sizeOf175
 v55:=Tryz.zeroValue175
 t66:=Tryz.underlying214
 a66:=Tryz.isAgg214
 z66:=Tryz.sizeOf214
 v66:=Tryz.zeroValue214
 t70:=Tryz.underlying218
 a70:=Tryz.isAgg218
 z70:=Tryz.sizeOf218
 v70:=Tryz.zeroValue218
 t76:=Tryz.underlying226
 a76:=Tryz.isAgg226
 z76:=Tryz.sizeOf226
 v76:=Tryz.zeroValue226
 t77:=Tryz.underlying227
 a77:=Tryz.isAgg227
 z77:=Tryz.sizeOf227
 v77:=Tryz.zeroValue227}
end Go.Proofs
namespace Go.Proofs.YtjgakaembhmhpaaGreatDoor.PA
open Go.RowKit Go.Proofs.YtjgakaembhmhpaaGreatDoorW.PrintWords Go.Proofs.YtjgakaembhmhpaaGreatDoorW.PrintLast Go.Proofs.YtjgakaembhmhpaaGreatDoorW.PrintMore Go.Proofs.YtjgakaembhmhpaaGreatDoorM
theorem RI:∀a b:List UInt8,(Lib.compareBytes a b<0)↔a<b
 | [],[]=>tB7
 | [],_::_=>tB7
 | _::_,[]=>tB7
 | x::xs,y::ys=>by
  have ih:=RI xs ys
  unfold Lib.compareBytes
  rw[List.cons_lt_cons_iff]
  by_cases h1:x<y
  ·simp[h1]
  ·by_cases h2:y<x
   ·have h3:x≠y:=fun e=>h1 (e▸h2)
    simp[h1,h2,h3]
   ·have h3:x=y:=UInt8.le_antisymm (UInt8.not_lt.1 h2) (UInt8.not_lt.1 h1)
    simp[h1,h2,ih,h3]
instance:Inhabited ay:=⟨z79⟩
def nQ (t:ay):List Value:=[.string t.f0,.int .i64 t.f1]
def uX (s t:ay):Int:=Lib.compareBytes s.f0.data.toList t.f0.data.toList
theorem Nw (s t:ay):ltOf uX s t=decide (s.f0.data.toList<t.f0.data.toList):=by
 unfold ltOf uX
 exact decide_eq_decide.2 (RI _ _)
theorem adR:Go.Sort.SWO (ltOf uX) where
 irrefl x:=by simp[Nw,List.lt_irrefl]
 trans x y z h1 h2:=by simp only[Nw,decide_eq_true_eq]at *;exact List.lt_trans h1 h2
 ntrans x y z h1 h2:=by
  simp only[Nw,decide_eq_false_iff_not,List.not_lt]at *
  exact List.le_trans h2 h1
theorem alL (a:ByteArray)(b:Int)(c:ByteArray)(d:Int)(W:World):Calls Tryz.prog 110 #[.agg #[.string a,.int .i64 b],.agg #[.string c,.int .i64 d]] W fun e w'=>e= .returned (.int .i64 (Lib.compareBytes a.data.toList c.data.toList))/\∃q os,w'=Go.Sort.grow (W.drewN q) os:=by
 go_enter Tryz.func110,Tryz.ntmps110
 go_wp2_with (go_at_call 111;refine(Tryz.strings_Compare a c _).mono ?_;rintro e w2 ⟨rfl,rfl⟩)
 go_ret
 exact⟨rfl,0,#[.cells #[.string a,.int .i64 b] 79,.cells #[.string c,.int .i64 d] 79],by
  rw[Go.Sort.alloc_eq_grow,Go.Sort.alloc_eq_grow,Go.Sort.grow_grow]
  rfl⟩
theorem Zw (l:List ay)(j:Nat)(hj:j<l.length * 2):(jv l)[j]?=some (Go.Sort.flatK nQ 2 l.toArray)[j]!:=by
 rw[Go.Sort.get_flatK nQ 2 l.toArray j tAv]
 have hl:j / 2<l.length:=tA0
 have e:l.toArray[j / 2]! =l.getD (j / 2) z79:=by
  rw[getElem!_pos l.toArray (j / 2) tBj]
  simp[List.getD,b8 hl]
 rw[e]
 have:j % 2=0\/j % 2=1:=tA0
 rcases this with h|h
 ·have:=Sm l (j / 2) hl
  rw[show j / 2 * 2=j by omega]at this
  rw[this,h]
  rfl
 ·have:=Sn l (j / 2) hl
  rw[show j / 2 * 2+1=j by omega]at this
  rw[this,h]
  rfl
theorem cn.holds {W:World}{X cap:Nat}{l:List ay}(h:cn W X cap l):Go.Sort.HoldsK nQ 2 W X 0 l.toArray:=by
 intro j hj
 have hj':j<l.length * 2:=tAv
 rw[Nat.zero_add]
 exact⟨h.cells j _ (Zw l j hj'),h.frozen j⟩
theorem cn.sorted {W:World}{X cap n:Nat}{l:List ay}{d:Array ay}{os:Array Obj}(h:cn W X cap l)(hd:d.size=l.length):cn (sortWorldK nQ 2 W X 0 n d os) X cap d.toList:=by
 have hH:=h.holds
 obtain⟨cur,h1,h2,h3,h4,h5⟩:=h
 have hlt:=az h1
 have ama:Go.Sort.HoldsK nQ 2 (sortWorldK nQ 2 W X 0 n d os) X 0 d:=by
  unfold sortWorldK Go.Sort.HoldsK
  refine Go.Sort.holds_grow id _ os X 0 _ ?_ ?_
  ·simpa[Go.Sort.putRowK,Go.Sort.putRow,Go.Sort.mapBlock,Go.Sort.ahead]using hlt
  ·exact Go.Sort.holds_putRow id _ X 0 (Go.Sort.flatK nQ 2 l.toArray) _ hH (by simp[hd])
 obtain⟨cur',k1,k2⟩:∃cur':Array Value,(sortWorldK nQ 2 W X 0 n d os).heap[X]?=some (.cells cur' 79 (0,0))/\cur'.size=cur.size:=by
  refine⟨Go.Sort.putCells id 0 (Go.Sort.flatK nQ 2 d) cur,?_,by simp[Go.Sort.putCells]⟩
  unfold sortWorldK
  rw[Go.Sort.heap_grow_old _ _ (by simpa[Go.Sort.putRowK,Go.Sort.putRow,Go.Sort.mapBlock,Go.Sort.ahead]using hlt)]
  simp[Go.Sort.putRowK,Go.Sort.putRow,Go.Sort.mapBlock,Go.Sort.ahead,Array.getElem?_modify,h1,Go.Sort.onCells]
 have MF:d.toList.length=l.length:=by simpa using hd
 refine⟨cur',k1,by rw[MF];exact h2,h3,by rw[k2,h4],?_⟩
 apply List.ext_getElem?
 intro j
 rw[MF]
 by_cases hj:j<l.length * 2
 ·rw[jC hj,Array.getElem?_toList,<- mj k1]
  have:=(ama j (by simp[hd];exact hj)).1
  rw[Nat.zero_add]at this
  rw[this,Zw d.toList j (by rw[MF];exact hj)]
  rfl
 ·rw[List.getElem?_eq_none tAg,List.getElem?_eq_none (by rw[zK,MF];omega)]
theorem N3 (W:World)(X n:Nat)(d:Array ay)(os:Array Obj):Kept W (sortWorldK nQ 2 W X 0 n d os) (fun k=>k=X):=by
 unfold sortWorldK Go.Sort.putRowK Go.Sort.putRow Go.Sort.mapBlock
 refine⟨by simp[Go.Sort.grow,Go.Sort.ahead],fun k hk hn=>?_⟩
 rw[Go.Sort.heap_grow_old _ _ (by simpa[Go.Sort.ahead]using hk)]
 have:¬ X=k:=fun e=>hn e.symm
 simp[Go.Sort.ahead,Array.getElem?_modify,this]
theorem Vk {w0 W:World}(X n:Nat)(d:Array ay)(os:Array Obj)(hB:Below w0.heap.size w0 W)(hX:w0.heap.size<=X):Below w0.heap.size w0 (sortWorldK nQ 2 W X 0 n d os):=by
 have hk:=N3 W X n d os
 exact⟨hB.os,hB.tape,hB.output,bj hB.size hk.1,fun i hi=>(hk.2 i (fy hi hB.size) (fun e=>tA0)).trans (hB.block i hi)⟩
theorem ajf {X cap:Nat}{l:List ay}{w0 W:World}(h:cn W X cap l)(hl:l.length<=1000)(hn:∀t∈l,n4 t)(hX:w0.heap.size<=X)(hB:Below w0.heap.size w0 W):
  Calls Tryz.prog 109 #[.slice (some ⟨X,0,none⟩) l.length cap,.func (.func 110) #[] #[]] W fun e w'=>e= .returned (.tuple #[])/\∃l':List ay,l'.length=l.length/\(∀t∈l',n4 t)/\cn w' X cap l'/\Kept W w' (fun k=>k=X)/\Below w0.heap.size w0 w':=by
 have eg:∀args w,(callFunc 110 args).run Tryz.prog w= .ok (.enter 110 args) w:=enters_of Tryz.func110 tA1 rfl
 have hcon:=AnyQ.slices_SortFunc Tryz.adK 2 (fun w=>Tryz.isAgg79 w) (fun w=>Tryz.sizeOf79 w) nQ (fun _=>rfl) (fun t v hv=>by
  simp only[nQ,List.mem_cons,List.not_mem_nil,or_false]at hv
  rcases hv with rfl|rfl<;>rfl) uX adR 110 #[] X 0 cap l.toArray W eg (fun m os dk hs x y=>by
   exact alL x.f0 x.f1 y.f0 y.f1 _) h.holds h.lt tAb
 change Calls Tryz.prog 109 _ _ _ at hcon
 have e0:l.toArray.size=l.length:=tA2
 rw[e0]at hcon
 refine hcon.mono fun e w' ⟨he,d',n,os,hp,hs,hw⟩=>⟨he,d'.toList,?_,?_,?_,?_,?_⟩
 ·rw[Array.length_toList,hp.1,e0]
 ·have:=hp.2.2
  rw[show d'.extract 0 l.length=d' by rw[<- e0,<- hp.1];simp,show l.toArray.extract 0 l.length=l.toArray by rw[<- e0];simp]at this
  intro t ht
  exact hn t (this.mem_iff.1 ht)
 ·rw[hw];exact h.sorted (by rw[hp.1,e0])
 ·rw[hw];exact N3 W X n d' os
 ·rw[hw];exact Vk X n d' os hB hX
theorem alR {Y c:Nat}{l:List ay}{n:Int}{w:World}(h:cn w Y c l)(hl:l.length<=1000)(hn:∀t∈l,n4 t):
  Calls Tryz.prog 43 #[.int .i64 n,.slice (some ⟨Y,0,none⟩) l.length c] w fun e w'=>∃(X cap:Nat) (l':List ay),e= .returned (.agg #[.int .i64 n,.slice (some ⟨X,0,none⟩) l'.length cap])/\w.heap.size<=X/\l'.length<=l.length/\(∀t∈l',n4 t)/\af (cn w' X cap l')/\af (Below w.heap.size w w'):=by
 have bm:=ae hn
 have bI:=ae (ax (Below.refl w.heap.size w) (.cells #[.int .i64 0,.slice none 0 0] 33))
 have cJ:=ae (a8 w (.cells #[.int .i64 0,.slice none 0 0] 33))
 have jc:=ae (ae4 (h.below bI.o) hl)
 have lw:=az cJ.o
 clear h hn
 go_enter Tryz.func43,Tryz.ntmps43
 go_wp2_with (first|(go_at_call 107;refine jc.o.mono ?_;rintro e w2 ⟨X,cap,rfl,hX,hT,hb⟩;have cv:=ae hX;have b9:=ae hT;have aI:=ae (au bI.o hb);have cq:=ae (av cJ.o hb);clear hX hT hb)|(go_at_call 106;refine(ae9 (w0:=w) b9.o hl bm.o (by have:=cv.o;have:=lw;omega) aI.o).mono ?_;rintro e w3 ⟨l3,rfl,anD,vn,aac,hk3,hb3⟩;have mD:=ae vn;have HI:=ae aac;have bS:=ae hb3;have eC:=ae (iD cq.o hk3 (fun e=>tAq));clear vn aac hb3 hk3)|(go_at_call 109;refine(ajf (w0:=w) HI.o tA0 mD.o (by have:=cv.o;have:=lw;omega) bS.o).mono ?_;rintro e w4 ⟨rfl,JA,hl4,abi,aad,hk4,hb4⟩;have Hq:=ae abi;have K8:=ae aad;have cO:=ae hb4;have Hl:=ae hl4;have b4:=iD eC.o hk4 (fun e=>tAq);have x0:w4.cell? ⟨w.heap.size,0,none⟩=some (.int .i64 0):=(mj b4 0).trans rfl;have x1:w4.cell? ⟨w.heap.size,1,none⟩=some (.slice none 0 0):=(mj b4 1).trans rfl;have f0:=ar b4 0;have f1:=ar b4 1;have l0:=az b4;clear abi aad hk4 hb4 hl4))
 have q1:=a6 (a6 b4 0 (.int .i64 n) rfl) 1 (.slice (some ⟨X,0,none⟩) l3.length cap) rfl
 refine bodyPost_ret (results_cell_row rfl _ _ w.heap.size 33 #[.int .i64 n,.slice (some ⟨X,0,none⟩) l3.length cap] (0,0) _ rfl q1 Tryz.underlying33 rfl tA1) rfl ?_
 have hne:X≠w.heap.size:=tAq
 exact⟨X,cap,JA,by rw[Hl.o],tAq,by have:=Hl.o;omega,Hq.o,⟨(K8.o.same (jZ _ ⟨w.heap.size,0,none⟩ _ X hne)).same (jZ _ ⟨w.heap.size,1,none⟩ _ X hne)⟩,⟨(cO.o.setCell (p:=⟨w.heap.size,0,none⟩) (bl _) _).setCell (p:=⟨w.heap.size,1,none⟩) (bl _) _⟩⟩
end Go.Proofs.YtjgakaembhmhpaaGreatDoor.PA
namespace Go.Proofs
open Go.Shelf
def Tryz.arz:Go.Shelf.Ren:=⟨fun|35=>44|n=>n,fun|22=>31|23=>79|3=>3|4=>4|0=>0|n=>n,fun|n=>n⟩
theorem Tryz.ary:Go.Proofs.SlLaysE0.n35 Tryz.prog Tryz.arz:={
 mixed:=by kernel_rfl
 f35:=⟨Tryz.f44.name,by decide,Tryz.func44.trans (congrArg some (by kernel_rfl))⟩
 t0:=Tryz.underlying0
 a0:=Tryz.isAgg0
 z0:=Tryz.sizeOf0
 v0:=Tryz.zeroValue0
 t3:=Tryz.underlying3
 a3:=Tryz.isAgg3
 z3:=Tryz.sizeOf3
 v3:=Tryz.zeroValue3
 t4:=Tryz.underlying4
 a4:=Tryz.isAgg4
 z4:=Tryz.sizeOf4
 v4:=Tryz.zeroValue4
 t22:=Tryz.underlying31
 a22:=Tryz.isAgg31
 z22:=Tryz.sizeOf31
 v22:=Tryz.zeroValue31}
end Go.Proofs
namespace Go.Proofs.YtjgakaembhmhpaaGreatDoor.PA
open Go.RowKit Go.Proofs.YtjgakaembhmhpaaGreatDoorW.PrintWords Go.Proofs.YtjgakaembhmhpaaGreatDoorW.PrintLast Go.Proofs.YtjgakaembhmhpaaGreatDoorW.PrintMore Go.Proofs.YtjgakaembhmhpaaGreatDoorM
theorem ai6 {X cap:Nat}{l:List ay}{w0 W:World}(h:cn W X cap l)(hl:l.length<=1000)(hn:∀t∈l,n4 t)(hX:w0.heap.size<=X)(hB:Below w0.heap.size w0 W):
  Calls Tryz.prog 44 #[.slice (some ⟨X,0,none⟩) l.length cap] W fun e w'=>e= .returned (.tuple #[])/\∃l':List ay,l'.length=l.length/\(∀t∈l',n4 t)/\cn w' X cap l'/\Kept W w' (fun k=>k=X)/\Below w0.heap.size w0 w':=by
 have hcon:=AnyQ.slices_Reverse Tryz.ary 2 (fun w=>Tryz.isAgg79 w) (fun w=>Tryz.sizeOf79 w) nQ (fun _=>rfl) (fun t v hv=>by
  simp only[nQ,List.mem_cons,List.not_mem_nil,or_false]at hv
  rcases hv with rfl|rfl<;>rfl) X 0 cap l.toArray W h.holds tAb
 change Calls Tryz.prog 44 _ _ _ at hcon
 have e0:l.toArray.size=l.length:=tA2
 rw[e0]at hcon
 refine hcon.mono fun e w' ⟨he,n,hw⟩=>⟨he,l.toArray.reverse.toList,tA2,fun t ht=>hn t (by simpa using ht),?_⟩
 have hw2:w'=sortWorldK nQ 2 W X 0 n l.toArray.reverse #[]:=by
  rw[hw]
  unfold sortWorldK
  rw[Go.Sort.grow_empty]
 rw[hw2]
 exact⟨h.sorted tA2,N3 W X n _ _,Vk X n _ _ hB hX⟩
theorem LJ {w0 W:World}{g:Nat}{d:List Int}{b:Nat}(hst:dV w0 W g d b)(hb:b<=1000000)(hB:Below w0.heap.size w0 W)(l:List Int)(hl:1<=l.length)(hl2:l.length<=1000)(n:Nat)(hn:n=l.length):
  Calls Tryz.prog 40 #[.pointer (some ⟨g,0,none⟩),.slice (some ⟨W.heap.size,0,none⟩) n n] (W.alloc (.cells (nums .i64 l).toArray 3)) fun e w'=>∃r,e= .returned (.int .i64 r)/\af (r∈l)/\af (dV w0 w' g d (b+1))/\af (Below w0.heap.size w0 w')/\af (bF W w' g none):=by
 subst hn
 have hb1:=ax (Below.refl W.heap.size W) (.cells (nums .i64 l).toArray 3)
 exact(Ez (hst.below hb1) hb (cm hB hB.size hb1) W.heap.size l.length l (a8 W _) (bl _) hl hl2).mono fun e w' ⟨r,he,hr,h1,h2,h3⟩=>⟨r,he,⟨hr⟩,⟨h1⟩,⟨h2⟩,⟨(bF.gF hb1 g none).trans h3 (.inl rfl)⟩⟩
theorem dV.more {w0 W:World}{g:Nat}{d:List Int}{b b':Nat}(h:dV w0 W g d b)(hb:b<=b'):dV w0 W g d b':=by
 obtain⟨p,h1,h2,h3⟩:=h
 exact⟨p,h1,tA0,h3⟩
def Fi (t:ay):List Value:=[.string t.f0,.int .i64 t.f1]
theorem Zx:∀(l:List ay) (j:Nat),(jv l).drop (j * 2)=jv (l.drop j)
 | [],j=>by simp[jv]
 | t::l,0=>rfl
 | t::l,j+1=>by
  rw[zJ,show(j+1) * 2=j * 2+1+1 by omega,List.drop_succ_cons,List.drop_succ_cons,Zx l j]
  rfl
theorem alH (l:List ay):bU (fun x cs=>cs=x/\cs.length=2/\∀u∈cs,u.oneCell'=true) 2 (l.map Fi) (jv l):=by
 refine⟨by rw[zK,fc],fun j p hj=>?_⟩
 rw[List.getElem?_map]at hj
 obtain⟨t,ht,rfl⟩:=Option.map_eq_some_iff.1 hj
 obtain⟨gQ,e⟩:=iC.1 ht
 rw[Zx,lF gQ,e,zJ]
 refine⟨rfl,rfl,fun u hu=>?_⟩
 simp only[List.take_succ_cons,List.take_zero,List.mem_cons,List.not_mem_nil,or_false]at hu
 rcases hu with rfl|rfl<;>rfl
theorem adb:∀(l:List ay) (inner:List Value),bU (fun x cs=>cs=x/\cs.length=2/\∀u∈cs,u.oneCell'=true) 2 (l.map Fi) inner->inner=jv l
 | [],inner,h=>List.length_eq_zero_iff.1 (by have:=h.1;simpa using this)
 | t::l,inner,h=>by
  have h0:=(h.2 0 (Fi t) rfl).1
  simp only[Nat.zero_mul,List.drop_zero]at h0
  have hr:bU (fun x cs=>cs=x/\cs.length=2/\∀u∈cs,u.oneCell'=true) 2 (l.map Fi) (inner.drop 2):=by
   refine⟨by rw[List.length_drop,h.1,List.map_cons,i6];omega,fun j p hj=>?_⟩
   have:=h.2 (j+1) p tAv
   rwa[List.drop_drop,show 2+j * 2=(j+1) * 2 by omega]
  rw[<- List.take_append_drop 2 inner,h0,adb l _ hr]
  rfl
theorem cn.Gs {W:World}{X cap base:Nat}{l:List ay}(h:cn W X cap l)(hb:base<=X):Kd.N cf 79 W base (fun k=>k=X) (.slice (some ⟨X,0,none⟩) l.length cap) l:=by
 refine⟨fun k hk=>by simp[Value.ownBlock]at hk;exact hk.symm,l.map Fi,fc _,⟨fun k hk=>hk.symm,jv l,by rw[fc];exact h.owns hb,alH l⟩,fun j x c hx hc=>?_⟩
 rw[List.getElem?_map,hx]at hc
 have hc:=bo hc
 rw[<- hc]
 exact fun W' hW=>yh W x.f0 x.f1 W' (fun k hk=>hk.elim)
theorem cn.FZ {W:World}{base:Nat}{ok:Nat->Prop}{v:Value}{l:List ay}(h:Kd.N cf 79 W base ok v l)(hl:l≠[]):∃X cap,v= .slice (some ⟨X,0,none⟩) l.length cap/\ok X/\base<=X/\cn W X cap l:=by
 obtain⟨h0,rows,kz,⟨dS,inner,ho,Je⟩,hf⟩:=h
 have e:rows=l.map Fi:=by
  apply List.ext_getElem?
  intro j
  rw[List.getElem?_map]
  by_cases hj:j<l.length
  ·have h1:=b8 hj
   have h2:=b8 (show j<rows.length by omega)
   have:=Ue (Kd.o6 (hf j _ _ h1 h2))
   rw[h1,h2,this]
   rfl
  ·rw[List.getElem?_eq_none tA0,List.getElem?_eq_none tA0]
   rfl
 subst e
 have ak7:=adb l inner Je
 subst ak7
 rw[fc]at ho
 obtain⟨X,cap,rfl,hX,hT⟩:=cn.acK ho (fun e=>by
  rw[e]at ho
  obtain⟨_,h1⟩:=ho
  rcases h1 with⟨_,h2⟩|⟨g,cap,cur,h2,_⟩
  ·exact hl (List.length_eq_zero_iff.1 h2)
  ·cases h2)
 exact⟨X,cap,rfl,h0 X rfl,hX,hT⟩
structure kh (w0 w:World)(g aT eB:Nat)(d:List Int)(b:Nat)(a:Int)(X cap:Nat)(l:List ay)(W:World):Prop where
 st:dV w0 W g d b
 sU:cn W X cap l
 box:W.heap[eB]?=some (.cells #[.int .i64 a,.slice (some ⟨X,0,none⟩) l.length cap] 33 (0,0))
 b2:W.heap[aT]?=some (.cells #[.int .i64 0,.slice none 0 0] 33 (0,0))
 kb:bF w W g none
 c4:Below w0.heap.size w0 W
 ne:aT≠g/\eB≠g/\X≠g/\aT≠eB/\X≠aT/\X≠eB
 ge:w.heap.size<=aT/\w.heap.size<=eB/\w.heap.size<=X/\w0.heap.size<=w.heap.size
 ok:l.length<=3/\∀t∈l,n4 t
section
variable {w0 w W W':World}{g aT eB b a' X cap:Nat}{d:List Int}{a:Int}{l:List ay}
theorem kh.stream (h:kh w0 w g aT eB d b a X cap l W){b':Nat}(hs:dV w0 W' g d b')(hB:Below w0.heap.size w0 W')(hk:bF W W' g none):kh w0 w g aT eB d b' a X cap l W':=
 ⟨hs,h.sU.same (hk.2 X h.sU.lt h.ne.2.2.1 tA2),hk.blk h.box h.ne.2.1 tA2,hk.blk h.b2 h.ne.1 tA2,h.kb.trans hk (.inl rfl),hB,h.ne,h.ge,h.ok⟩
theorem kh.below (h:kh w0 w g aT eB d b a X cap l W)(hb:Below W.heap.size W W'):kh w0 w g aT eB d b a X cap l W':=
 h.stream (h.st.below hb) (cm h.c4 h.c4.size hb) (bF.gF hb g none)
theorem kh.ar6 (h:kh w0 w g aT eB d b a X cap l W)(r:Int):kh w0 w g aT eB d b r X cap l (W.setCell ⟨eB,0,none⟩ (.int .i64 r)):=by
 obtain⟨p,h1,h2,h3⟩:=h.st
 have hk:Kept W (W.setCell ⟨eB,0,none⟩ (.int .i64 r)) (fun k=>k=eB):=fN (p:=⟨eB,0,none⟩) (Kept.refl W (fun k=>k=eB)) (.inl rfl) _
 exact⟨h.st.kept hk (fun e=>h.ne.2.1 e.symm),h.sU.kept hk h.ne.2.2.2.2.2,a6 h.box 0 _ rfl,iD h.b2 hk h.ne.2.2.2.1,Nq h.kb (p:=⟨eB,0,none⟩) h.ge.2.1 _,h.c4.setCell (p:=⟨eB,0,none⟩) (bj h.ge.2.2.2 h.ge.2.1) _,h.ne,h.ge,h.ok⟩
theorem kh.cells (h:kh w0 w g aT eB d b a X cap l W):W.cell? ⟨eB,0,none⟩=some (.int .i64 a)/\W.cell? ⟨eB,1,none⟩=some (.slice (some ⟨X,0,none⟩) l.length cap)/\W.cell? ⟨aT,0,none⟩=some (.int .i64 0)/\W.cell? ⟨aT,1,none⟩=some (.slice none 0 0)/\W.frozen? ⟨eB,0,none⟩=false/\W.frozen? ⟨eB,1,none⟩=false/\W.frozen? ⟨aT,0,none⟩=false/\W.frozen? ⟨aT,1,none⟩=false/\aT<W.heap.size/\eB<W.heap.size/\aT≠eB/\eB≠aT:=
 ⟨ah h.box 0,ah h.box 1,ah h.b2 0,ah h.b2 1,ar h.box 0,ar h.box 1,ar h.b2 0,ar h.b2 1,az h.b2,az h.box,h.ne.2.2.2.1,h.ne.2.2.2.1.symm⟩
theorem kh.fin (h:kh w0 w g aT eB d b a X cap l W){b':Nat}(hb:b<=b')(v1 v2:Value):cn ((W.setCell ⟨aT,0,none⟩ v1).setCell ⟨aT,1,none⟩ v2) X cap l/\dV w0 ((W.setCell ⟨aT,0,none⟩ v1).setCell ⟨aT,1,none⟩ v2) g d b'/\Below w0.heap.size w0 ((W.setCell ⟨aT,0,none⟩ v1).setCell ⟨aT,1,none⟩ v2)/\bF w ((W.setCell ⟨aT,0,none⟩ v1).setCell ⟨aT,1,none⟩ v2) g none:=by
 have hk:Kept W ((W.setCell ⟨aT,0,none⟩ v1).setCell ⟨aT,1,none⟩ v2) (fun k=>k=aT):=fN (p:=⟨aT,1,none⟩) (fN (p:=⟨aT,0,none⟩) (Kept.refl W (fun k=>k=aT)) (.inl rfl) _) (.inl rfl) _
 have h0:=bj h.ge.2.2.2 h.ge.1
 exact⟨h.sU.kept hk h.ne.2.2.2.2.1,(h.st.kept hk (fun e=>h.ne.1 e.symm)).more hb,(h.c4.setCell (p:=⟨aT,0,none⟩) h0 _).setCell (p:=⟨aT,1,none⟩) h0 _,Nq (Nq h.kb (p:=⟨aT,0,none⟩) h.ge.1 _) (p:=⟨aT,1,none⟩) h.ge.1 _⟩
theorem kh.turn (h:kh w0 w g aT eB d b a X cap l W){l':List ay}(hl:l'.length=l.length)(ho:∀t∈l',n4 t)(ht:cn W' X cap l')(hk:Kept W W' (fun k=>k=X))(hB:Below w0.heap.size w0 W'):kh w0 w g aT eB d b a X cap l' W':=by
 refine⟨h.st.kept hk (fun e=>h.ne.2.2.1 e.symm),ht,by rw[hl];exact iD h.box hk (fun e=>h.ne.2.2.2.2.2 e.symm),iD h.b2 hk (fun e=>h.ne.2.2.2.2.1 e.symm),⟨bj h.kb.1 hk.1,fun i hi hg hr=>?_⟩,hB,h.ne,h.ge,by rw[hl];exact⟨h.ok.1,ho⟩⟩
 have:=h.ge.2.2.1
 exact(hk.2 i (fy hi h.kb.1) (fun e=>tA0)).trans (h.kb.2 i hi hg hr)
end
theorem kh.grow {w0 w W W':World}{g aT eB b X cap:Nat}{d:List Int}{a:Int}{l:List ay}{t:ay}{v':Value}(h:kh w0 w g aT eB d b a X cap l W)(hg:W.grownBy W' (some X))(hN:Kd.N cf 79 W' w0.heap.size (fun k=>k=X\/W.heap.size<=k) v' (l++[t]))(hB:Below w0.heap.size w0 W')(ht:n4 t)(hl:l.length<=2):
  ∃X' cap',v'= .slice (some ⟨X',0,none⟩) (l.length+1) cap'/\kh w0 w g aT eB d b a X' cap' (l++[t]) (W'.setCell ⟨eB,1,none⟩ v'):=by
 obtain⟨X',cap',rfl,bX,_,hT⟩:=cn.FZ hN tA2
 have hlen:(l++[t]).length=l.length+1:=tA2
 obtain⟨n1,n2,n3,JI,n5,n6⟩:=h.ne
 obtain⟨g1,g2,g3,g4⟩:=h.ge
 have sJ:=h.sU.lt
 have l2:=az h.b2
 have l3:=az h.box
 have ayk:=h.st.lt
 have hs:W.heap.size<=W'.heap.size:=hg.size
 have IL:X'≠g/\X'≠aT/\X'≠eB/\w.heap.size<=X':=by
  rcases bX with rfl|bX
  ·exact⟨n3,n5,n6,g3⟩
  ·exact⟨tA0,tA0,tA0,tA0⟩
 have same:∀k,k<W.heap.size->k≠X->W'.heap[k]?=W.heap[k]?:=fun k hk hn=>hg.block k hk (fun e=>hn (bo e))
 have hK:Kept W W' (fun k=>k=X):=⟨hs,fun k hk hn=>same k hk hn⟩
 have hK2:Kept W' (W'.setCell ⟨eB,1,none⟩ (.slice (some ⟨X',0,none⟩) (l.length+1) cap')) (fun k=>k=eB):=fN (p:=⟨eB,1,none⟩) (Kept.refl W' (fun k=>k=eB)) (.inl rfl) _
 rw[hlen]
 refine⟨X',cap',rfl,(h.st.kept hK (fun e=>n3 e.symm)).kept hK2 (fun e=>n2 e.symm),hT.kept hK2 IL.2.2.1,?_,iD (iD h.b2 hK (fun e=>n5 e.symm)) hK2 JI,?_,hB.setCell (p:=⟨eB,1,none⟩) (bj g4 g2) _,⟨n1,n2,IL.1,JI,IL.2.1,IL.2.2.1⟩,⟨g1,g2,IL.2.2.2,g4⟩,⟨by rw[hlen];omega,fun t' TN=>?_⟩⟩
 ·rw[hlen]
  exact a6 (iD h.box hK (fun e=>n6 e.symm)) 1 _ rfl
 ·exact Nq (h.kb.trans (bF.Al hg g) (.inr ⟨X,rfl,g3⟩)) (p:=⟨eB,1,none⟩) g2 _
 ·rcases List.mem_append.1 TN with h1|h1
  ·exact h.ok.2 t' h1
  ·rw[il.1 h1];exact ht
theorem afk {w0 w W:World}{g aT eB b X cap:Nat}{d:List Int}{a:Int}{l:List ay}(h:kh w0 w g aT eB d b a X cap l W)(hb:b<=1000000)(Y:Nat)(ss:List ByteArray)(hr:kY W Y ss)(hl:1<=ss.length)(hl2:ss.length<=1000)(n:Nat)(hn:n=ss.length):
  Calls Tryz.prog 8 #[.pointer (some ⟨g,0,none⟩),.slice (some ⟨Y,0,none⟩) n n] W fun e w'=>∃y,e= .returned (.string y)/\af (y∈ss)/\af (kh w0 w g aT eB d (b+1) a X cap l w')/\af (bF W w' g none)/\w'.cell? ⟨eB,1,none⟩=some (.slice (some ⟨X,0,none⟩) l.length cap)/\eB<w'.heap.size:=by
 subst hn
 exact(QY h.st hb h.c4 Y ss.length ss hr (bl _) hl hl2).mono fun e w' ⟨y,he,hy,hst,hB,hK⟩=>by
  have hf:=h.stream hst hB hK
  exact⟨y,he,⟨hy⟩,⟨hf⟩,⟨hK⟩,hf.cells.2.1,az hf.box⟩
theorem afj {w0 w W:World}{g aT eB b X cap:Nat}{d:List Int}{a:Int}{l:List ay}(h:kh w0 w g aT eB d b a X cap l W)(hb:b<=1000000)(Y:Nat)(ns:List Int)(hr:gL W Y ns)(hl:1<=ns.length)(hl2:ns.length<=1000)(n:Nat)(hn:n=ns.length):
  Calls Tryz.prog 40 #[.pointer (some ⟨g,0,none⟩),.slice (some ⟨Y,0,none⟩) n n] W fun e w'=>∃r,e= .returned (.int .i64 r)/\af (kh w0 w g aT eB d (b+1) a X cap l w')/\w'.cell? ⟨eB,1,none⟩=some (.slice (some ⟨X,0,none⟩) l.length cap)/\eB<w'.heap.size:=by
 subst hn
 exact(Ez h.st hb h.c4 Y ns.length ns hr (bl _) hl hl2).mono fun e w' ⟨r,he,hy,hst,hB,hK⟩=>by
  have hf:=h.stream hst hB hK
  exact⟨r,he,⟨hf⟩,hf.cells.2.1,az hf.box⟩
theorem asn {y:ByteArray}{r:Int}(h:y∈([⟨#[97]⟩,⟨#[122]⟩,⟨#[]⟩,⟨#[102,111,114]⟩]:List ByteArray)):n4 ⟨y,r⟩:=by
 show y.size<=10
 simp only[List.mem_cons,List.not_mem_nil,or_false]at h
 rcases h with rfl|rfl|rfl|rfl<;>decide
theorem afl {w0 w w2 w3 w4 aZ:World}{g b X cap:Nat}{d:List Int}{l:List ay}(aa9:g<w.heap.size)(hw0:w0.heap.size<=w.heap.size)(hx:(w.alloc (.cells #[.int .i64 0,.slice none 0 0] 33)).heap[w.heap.size]?=some (.cells #[.int .i64 0,.slice none 0 0] 33 (0,0)))
  (h2:bF (w.alloc (.cells #[.int .i64 0,.slice none 0 0] 33)) w2 g none) (h3:bF w2 w3 g none) (h4:bF w3 w4 g none) (h5:Below w4.heap.size w4 aZ) (hs:dV w0 w4 g d b) (hw:Below w0.heap.size w0 w4) (ht:cn aZ X cap l) (ho:w4.heap.size<=X/\l.length<=2/\∀t∈l,n4 t) (r:Int):
  kh w0 w g w.heap.size aZ.heap.size d b r X cap l (aZ.alloc (.cells #[.int .i64 r,.slice (some ⟨X,0,none⟩) l.length cap] 33)):=by
 have B8:=ax (Below.refl aZ.heap.size aZ) (.cells #[.int .i64 r,.slice (some ⟨X,0,none⟩) l.length cap] 33)
 have s2:=h2.1
 rw[show(w.alloc (.cells #[.int .i64 0,.slice none 0 0] 33)).heap.size=w.heap.size+1 by simp]at s2
 have kD:=h3.1
 have sS:=h4.1
 have tQ:=h5.size
 have ayR:=ht.lt
 have hk4:=(h2.trans h3 (.inl rfl)).trans h4 (.inl rfl)
 have IZ:=(hk4.trans (bF.gF h5 g none) (.inl rfl)).trans (bF.gF B8 g none) (.inl rfl)
 exact⟨(hs.below h5).below B8,ht.below B8,a8 aZ _,IZ.blk hx tA0 tA2,(bF.gF (ax (Below.refl _ _) _) g none).trans IZ (.inl rfl),cm (cm hw hw.size h5) (bj hw.size h5.size) B8,⟨tA0,tA0,tA0,tA0,tA0,tA0⟩,⟨tA0,tA0,tA0,hw0⟩,⟨tA0,ho.2.2⟩⟩
theorem aeT (w0 w:World)(g b:Nat)(d:List Int)(hst:dV w0 w g d b)(hb:b<=100000)(hB:Below w0.heap.size w0 w):
  Calls Tryz.prog 6 #[.pointer (some ⟨g,0,none⟩)] w fun e w'=>∃(X cap:Nat) (a:Int) (l:List ay),e= .returned (.agg #[.int .i64 a,.slice (some ⟨X,0,none⟩) l.length cap])/\(l.length<=3/\∀t∈l,n4 t)/\w.heap.size<=X/\af (cn w' X cap l)/\af (dV w0 w' g d (b+10))/\af (Below w0.heap.size w0 w')/\af (bF w w' g none):=by
 have aa9:=hst.lt
 have hw0:=hB.size
 have hb1:=ax (Below.refl w.heap.size w) (.cells #[.int .i64 0,.slice none 0 0] 33)
 have cq:=ae (a8 w (.cells #[.int .i64 0,.slice none 0 0] 33))
 have fU:af (Calls Tryz.prog 40 #[.pointer (some ⟨g,0,none⟩),.slice (some ⟨w.heap.size+1,0,none⟩) 5 5] ((w.alloc (.cells #[.int .i64 0,.slice none 0 0] 33)).alloc (.cells #[.int .i64 0,.int .i64 1,.int .i64 (-3),.int .i64 4,.int .i64 6] 3)) fun e w'=>∃r,e= .returned (.int .i64 r)/\af (r∈([0,1,-3,4,6]:List Int))/\af (dV w0 w' g d (b+1))/\af (Below w0.heap.size w0 w')/\af (bF (w.alloc (.cells #[.int .i64 0,.slice none 0 0] 33)) w' g none)):=⟨by
  have h:=LJ (hst.below hb1) tA0 (cm hB hB.size hb1) [0,1,-3,4,6] tA2 tA2 5 rfl
  rw[show(w.alloc (.cells #[.int .i64 0,.slice none 0 0] 33)).heap.size=w.heap.size+1 by simp]at h
  exact h⟩
 have xl:af (∀W,dV w0 W g d (b+1)->Below w0.heap.size w0 W->Calls Tryz.prog 40 #[.pointer (some ⟨g,0,none⟩),.slice (some ⟨W.heap.size,0,none⟩) 5 5] (W.alloc (.cells #[.int .i64 0,.int .i64 1,.int .i64 2,.int .i64 (-4),.int .i64 6] 3)) fun e w'=>∃r,e= .returned (.int .i64 r)/\af (r∈([0,1,2,-4,6]:List Int))/\af (dV w0 w' g d (b+2))/\af (Below w0.heap.size w0 w')/\af (bF W w' g none)):=⟨fun W h1 h2=>LJ h1 tA0 h2 [0,1,2,-4,6] tA2 tA2 5 rfl⟩
 have G2:af (∀W,dV w0 W g d (b+2)->Below w0.heap.size w0 W->Calls Tryz.prog 40 #[.pointer (some ⟨g,0,none⟩),.slice (some ⟨W.heap.size,0,none⟩) 5 5] (W.alloc (.cells #[.int .i64 0,.int .i64 0,.int .i64 2,.int .i64 3,.int .i64 (-6)] 3)) fun e w'=>∃r,e= .returned (.int .i64 r)/\af (r∈([0,0,2,3,-6]:List Int))/\af (dV w0 w' g d (b+3))/\af (Below w0.heap.size w0 w')/\af (bF W w' g none)):=⟨fun W h1 h2=>LJ h1 tA0 h2 [0,0,2,3,-6] tA2 tA2 5 rfl⟩
 have fX:af (∀(W:World) (n c1 bb:Int),Calls Tryz.prog 43 #[.int .i64 n,.slice (some ⟨W.heap.size,0,none⟩) 2 2] (W.alloc (.cells #[.string ⟨#[105]⟩,.int .i64 c1,.string ⟨#[106]⟩,.int .i64 bb] 79)) fun e w'=>∃(X cap:Nat) (l':List ay),e= .returned (.agg #[.int .i64 n,.slice (some ⟨X,0,none⟩) l'.length cap])/\af (W.heap.size<=X/\l'.length<=2/\∀t∈l',n4 t)/\af (cn w' X cap l')/\af (Below W.heap.size W w')):=⟨fun W n c1 bb=>by
  have hb:=ax (Below.refl W.heap.size W) (.cells #[.string ⟨#[105]⟩,.int .i64 c1,.string ⟨#[106]⟩,.int .i64 bb] 79)
  have ht:cn (W.alloc (.cells #[.string ⟨#[105]⟩,.int .i64 c1,.string ⟨#[106]⟩,.int .i64 bb] 79)) W.heap.size 2 [⟨⟨#[105]⟩,c1⟩,⟨⟨#[106]⟩,bb⟩]:=⟨_,a8 W _,bl _,by unfold maxLen;decide,rfl,rfl⟩
  refine(alR ht tA2 (fun t ht=>by
   simp only[List.mem_cons,List.not_mem_nil,or_false]at ht
   rcases ht with rfl|rfl
   ·show(⟨#[105]⟩:ByteArray).size<=10
    decide
   ·show(⟨#[106]⟩:ByteArray).size<=10
    decide)).mono fun e w' ⟨X,cap,l',he,h1,h2,h3,h4,h5⟩=>⟨X,cap,l',he,⟨bj tA2 h1,h2,h3⟩,h4,⟨au hb h5.o⟩⟩⟩
 clear hst hB hb1
 go_enter Tryz.func6,Tryz.ntmps6
 go_wp2_with (first|(go_at_call 40;refine(G2.o _ HB.o ahH.o).mono ?_;rintro e w4 ⟨r3,rfl,Xj,HE,ahI,vJ⟩)|(go_at_call 40;refine(xl.o _ fV.o ahG.o).mono ?_;rintro e w3 ⟨r2,rfl,K2,HB,ahH,qR⟩)|(go_at_call 40;refine fU.o.mono ?_;rintro e w2 ⟨r1,rfl,fM,fV,ahG,dP⟩)|(go_at_call 43;refine(fX.o _ _ _ _).mono ?_;rintro e aZ ⟨X,cap,eD,rfl,Pw,oA,bq⟩;have Pf:=ae (afl aa9 hw0 cq.o dP.o qR.o vJ.o bq.o HE.o ahI.o oA.o Pw.o r1))|(go_at_call 9;refine(LI Pf.o.st tA0 Pf.o.c4 15 tA0 tA0).mono ?_;rintro e aY ⟨q,rfl,abA,Ng,IZ⟩;have y7:=ae (Pf.o.stream abA Ng IZ);clear abA Ng IZ;obtain⟨x0,x1,x2,x3,f0,f1,f2,f3,l2,l3,n1,n2⟩:=y7.o.cells;cases q)|(go_at_call 10;fail))
 ·refine bodyPost_ret (results_cell_row rfl _ _ w.heap.size 33 #[.int .i64 r1,.slice (some ⟨X,0,none⟩) eD.length cap] (0,0) _ rfl (a6 (a6 y7.o.b2 0 (.int .i64 r1) rfl) 1 (.slice (some ⟨X,0,none⟩) eD.length cap) rfl) Tryz.underlying33 rfl tA1) rfl ?_
  obtain⟨gR,yA,ib,CM⟩:=y7.o.fin (b':=b+10) tA0 (.int .i64 r1) (.slice (some ⟨X,0,none⟩) eD.length cap)
  exact⟨X,cap,r1,eD,rfl,y7.o.ok,y7.o.ge.2.2.1,⟨gR⟩,⟨yA⟩,⟨ib⟩,⟨CM⟩⟩
 ·clear x0 x1 x2 x3 f0 f1 f2 f3 l2 l3 n1 n2
  go_wp2_with (first|(go_at_call 10;refine(Yf y7.o.st tA0 y7.o.c4 3 tA0 tA0).mono ?_;rintro e bt ⟨r,rfl,hr,abB,FO,aa0⟩;have mB:=ae (y7.o.stream abB FO aa0);clear abB FO aa0;obtain⟨x0,x1,x2,x3,f0,f1,f2,f3,l2,l3,n1,n2⟩:=mB.o.cells;obtain rfl|rfl|rfl:r=0\/r=1\/r=2:=tA0)|(go_at_call 40;refine(LJ mB.o.st tA0 mB.o.c4 [1000001,-1000000] tA2 tA2 2 rfl).mono ?_;rintro e fq ⟨JR,rfl,_,abC,Ji,I0⟩;have rW:=ae (mB.o.stream abC.o Ji.o I0.o);clear x0 x1 x2 x3 f0 f1 f2 f3 l2 l3 n1 n2;obtain⟨x0,x1,x2,x3,f0,f1,f2,f3,l2,l3,n1,n2⟩:=rW.o.cells;clear abC Ji I0)|(go_at_call 44;refine(ai6 (w0:=w0) mB.o.sU (by have:=mB.o.ok.1;omega) mB.o.ok.2 (bj mB.o.ge.2.2.2 mB.o.ge.2.2.1) mB.o.c4).mono ?_;rintro e fq ⟨rfl,yD,Fz,zX,abL,I0,Ji⟩;have rW:=ae (mB.o.turn Fz zX abL I0 Ji);clear x0 x1 x2 x3 f0 f1 f2 f3 l2 l3 n1 n2;obtain⟨x0,x1,x2,x3,f0,f1,f2,f3,l2,l3,n1,n2⟩:=rW.o.cells;clear zX abL I0 Ji))
  ·have uE:=ae (rW.o.ar6 JR)
   refine bodyPost_ret (results_cell_row rfl _ _ w.heap.size 33 #[.int .i64 JR,.slice (some ⟨X,0,none⟩) eD.length cap] (0,0) _ rfl (a6 (a6 uE.o.b2 0 (.int .i64 JR) rfl) 1 (.slice (some ⟨X,0,none⟩) eD.length cap) rfl) Tryz.underlying33 rfl tA1) rfl ?_
   obtain⟨gR,yA,ib,CM⟩:=uE.o.fin (b':=b+10) tA0 (.int .i64 JR) (.slice (some ⟨X,0,none⟩) eD.length cap)
   exact⟨X,cap,JR,eD,rfl,uE.o.ok,uE.o.ge.2.2.1,⟨gR⟩,⟨yA⟩,⟨ib⟩,⟨CM⟩⟩
  ·have kO:=ae (mB.o.below (cB (ax (Below.refl _ _) (.cells #[.string ⟨#[97]⟩,.string ⟨#[122]⟩,.string ⟨#[]⟩,.string ⟨#[102,111,114]⟩] 9))))
   have hf2:=ae (mB.o.below (cB (ax (ax (Below.refl _ _) (.cells #[.string ⟨#[97]⟩,.string ⟨#[122]⟩,.string ⟨#[]⟩,.string ⟨#[102,111,114]⟩] 9)) (.cells #[.int .i64 0,.int .i64 1,.int .i64 1001] 3))))
   have hf3:=ae (mB.o.below (cB (ax (ax (Below.refl _ _) (.cells #[.int .i64 0,.int .i64 1,.int .i64 1001] 3)) (.cells #[.string ⟨#[97]⟩,.string ⟨#[122]⟩,.string ⟨#[]⟩,.string ⟨#[102,111,114]⟩] 9))))
   have yy:af (kY ((bt.alloc (.cells #[.string ⟨#[97]⟩,.string ⟨#[122]⟩,.string ⟨#[]⟩,.string ⟨#[102,111,114]⟩] 9)).drew) bt.heap.size [⟨#[97]⟩,⟨#[122]⟩,⟨#[]⟩,⟨#[102,111,114]⟩]):=⟨a8 bt _⟩
   have FL:af (kY (((bt.alloc (.cells #[.string ⟨#[97]⟩,.string ⟨#[122]⟩,.string ⟨#[]⟩,.string ⟨#[102,111,114]⟩] 9)).alloc (.cells #[.int .i64 0,.int .i64 1,.int .i64 1001] 3)).drew) bt.heap.size [⟨#[97]⟩,⟨#[122]⟩,⟨#[]⟩,⟨#[102,111,114]⟩]):=⟨aH yy.o _⟩
   have FM:af (kY (((bt.alloc (.cells #[.int .i64 0,.int .i64 1,.int .i64 1001] 3)).alloc (.cells #[.string ⟨#[97]⟩,.string ⟨#[122]⟩,.string ⟨#[]⟩,.string ⟨#[102,111,114]⟩] 9)).drew) (bt.heap.size+1) [⟨#[97]⟩,⟨#[122]⟩,⟨#[]⟩,⟨#[102,111,114]⟩]):=⟨by
    have:=a8 (bt.alloc (.cells #[.int .i64 0,.int .i64 1,.int .i64 1001] 3)) (.cells #[.string ⟨#[97]⟩,.string ⟨#[122]⟩,.string ⟨#[]⟩,.string ⟨#[102,111,114]⟩] 9)
    rw[show(bt.alloc (.cells #[.int .i64 0,.int .i64 1,.int .i64 1001] 3)).heap.size=bt.heap.size+1 by simp]at this
    exact this⟩
   have wA:af (gL (((bt.alloc (.cells #[.string ⟨#[97]⟩,.string ⟨#[122]⟩,.string ⟨#[]⟩,.string ⟨#[102,111,114]⟩] 9)).alloc (.cells #[.int .i64 0,.int .i64 1,.int .i64 1001] 3)).drew) (bt.heap.size+1) [0,1,1001]):=⟨by
    have:=a8 (bt.alloc (.cells #[.string ⟨#[97]⟩,.string ⟨#[122]⟩,.string ⟨#[]⟩,.string ⟨#[102,111,114]⟩] 9)) (.cells #[.int .i64 0,.int .i64 1,.int .i64 1001] 3)
    rw[show(bt.alloc (.cells #[.string ⟨#[97]⟩,.string ⟨#[122]⟩,.string ⟨#[]⟩,.string ⟨#[102,111,114]⟩] 9)).heap.size=bt.heap.size+1 by simp]at this
    exact this⟩
   have wB:af (gL (((bt.alloc (.cells #[.int .i64 0,.int .i64 1,.int .i64 1001] 3)).alloc (.cells #[.string ⟨#[97]⟩,.string ⟨#[122]⟩,.string ⟨#[]⟩,.string ⟨#[102,111,114]⟩] 9)).drew) bt.heap.size [0,1,1001]):=⟨aH (a8 bt _) _⟩
   have qz:=ae mB.o.st.lt
   have Bi:af ((eD.length+1) * 24<=140737488355328):=⟨by have:=Pw.o.2.1;omega⟩
   have ra:af (w0.heap.size<=X):=⟨bj mB.o.ge.2.2.2 mB.o.ge.2.2.1⟩
   clear x0 x2 x3 f0 f2 f3
   go_region_law (first|(refine Kd.th cf w0.heap.size tA5 (.tmp 33) (.tmp 41) 31 79 (.agg #[.string ⟨#[]⟩,.int .i64 0]) 24 tA5 Tryz.underlying31 Ac rfl tA3 tA3 (.slice (some ⟨X,0,none⟩) eD.length cap) eD ⟨Oz,NM⟩ [.string Oz,.int .i64 NM] (fun k=>k=X\/dG.heap.size<=k) (fun _=>False) tA5 tA5 (yh _ _ _) (fun _ h=>h.elim) (fun _ h=> .inr h) (Kd.et (uE.o.sU.Gs ra.o) (fun _ h=> .inl h)) uE.o.c4 uE.o.c4.size Bi.o ?_;intro v10 DD B6 IJ zR IM;obtain⟨LK,c10,rfl,Z2⟩:=uE.o.grow zR B6 IJ (by exact asn ahU.o) Pw.o.2.1;have G9:=ae Z2;have LO:=gf uE.o.box zR (fun e=>uE.o.ne.2.2.2.2.2 (bo e).symm);have ajM:DD.cell? ⟨aZ.heap.size,1,none⟩=some (.slice (some ⟨X,0,none⟩) eD.length cap):=(mj LO 1).trans rfl;have f10:=ar LO 1;have l10:=az LO;clear B6 IJ zR IM LO Z2)|(go_simp;go_at_call 8;refine(afk (by first|exact kO.o|exact hf2.o|exact hf3.o) tA0 _ [⟨#[97]⟩,⟨#[122]⟩,⟨#[]⟩,⟨#[102,111,114]⟩] tCr tA2 tA2 4 rfl).mono ?_;rintro e fq ⟨Oz,rfl,ahU,rW,WH,c8,d8⟩)|(go_simp;go_at_call 40;refine(afj (by first|exact rW.o|exact rW.o.below (ax (Below.refl _ _) _)) tA0 _ [0,1,1001] (by first|exact a8 fq _|exact(WH.o.2 _ (az wA.o) tB3 tA2).trans wA.o|exact(WH.o.2 _ (az wB.o) tB3 tA2).trans wB.o) tA2 tA2 3 rfl).mono ?_;rintro e dG ⟨NM,rfl,uE,c9,d9⟩))
   all_goals
    clear x1 f1 l2 l3 n1 n2 kO hf2 hf3 yy FL FM wA wB
    obtain⟨x0,x1,x2,x3,f0,f1,f2,f3,l2,l3,n1,n2⟩:=G9.o.cells
    have hlen:(eD++[(⟨Oz,NM⟩:ay)]).length=eD.length+1:=tA2
    rw[hlen]at x1
    go_wp2
    refine bodyPost_ret (results_cell_row rfl _ _ w.heap.size 33 #[.int .i64 r1,.slice (some ⟨LK,0,none⟩) (eD.length+1) c10] (0,0) _ rfl (a6 (a6 G9.o.b2 0 (.int .i64 r1) rfl) 1 (.slice (some ⟨LK,0,none⟩) (eD.length+1) c10) rfl) Tryz.underlying33 rfl tA1) rfl ?_
    obtain⟨gR,yA,ib,CM⟩:=G9.o.fin (b':=b+10) tA0 (.int .i64 r1) (.slice (some ⟨LK,0,none⟩) (eD.length+1) c10)
    exact⟨LK,c10,r1,eD++[⟨Oz,NM⟩],by rw[hlen],G9.o.ok,G9.o.ge.2.2.1,⟨gR⟩,⟨yA⟩,⟨ib⟩,⟨CM⟩⟩
  ·refine bodyPost_ret (results_cell_row rfl _ _ w.heap.size 33 #[.int .i64 r1,.slice (some ⟨X,0,none⟩) eD.length cap] (0,0) _ rfl (a6 (a6 rW.o.b2 0 (.int .i64 r1) rfl) 1 (.slice (some ⟨X,0,none⟩) eD.length cap) rfl) Tryz.underlying33 rfl tA1) rfl ?_
   obtain⟨gR,yA,ib,CM⟩:=rW.o.fin (b':=b+10) tA0 (.int .i64 r1) (.slice (some ⟨X,0,none⟩) eD.length cap)
   exact⟨X,cap,r1,yD,by rw[Fz],rW.o.ok,rW.o.ge.2.2.1,⟨gR⟩,⟨yA⟩,⟨ib⟩,⟨CM⟩⟩
theorem YR:∀a b:List UInt8,Lib.compareBytes a b=0↔a=b
 | [],[]=>tB7
 | [],_::_=>tB7
 | _::_,[]=>tB7
 | x::xs,y::ys=>by
  have ih:=YR xs ys
  unfold Lib.compareBytes
  by_cases h1:x<y
  ·have h3:x≠y:=fun e=>by subst e;exact absurd h1 (UInt8.lt_irrefl _)
   simp[h1,h3]
  ·by_cases h2:y<x
   ·have h3:x≠y:=fun e=>h1 (e▸h2)
    simp[h1,h2,h3]
   ·have h3:x=y:=UInt8.le_antisymm (UInt8.not_lt.1 h2) (UInt8.not_lt.1 h1)
    simp[h1,h2,ih,h3]
theorem Zt (a:ByteArray)(b:Int)(s:ByteArray)(W:World):Calls Tryz.prog 179 #[.agg #[.string a,.int .i64 b],.string s] W fun e w'=>e= .returned (.int .i64 (Lib.compareBytes a.data.toList s.data.toList))/\Below W.heap.size W w':=by
 have ak:=ae (ax (Below.refl W.heap.size W) (.cells #[.string a,.int .i64 b] 79))
 go_enter Tryz.func179,Tryz.ntmps179
 go_wp2_with (go_at_call 111;refine(Tryz.strings_Compare a s _).mono ?_;rintro e w2 ⟨rfl,rfl⟩)
 go_ret
 exact⟨rfl,ak.o⟩
def Ib (l:List ay):Prop:=∀i j:Nat,i<j->j<l.length->(l.getD i z79).f0.data.toList< (l.getD j z79).f0.data.toList
def H8 (l:List ay)(s:ByteArray)(p:Nat):Prop:=p<=l.length/\(∀i,i<p->(l.getD i z79).f0.data.toList<s.data.toList)/\∀i,p<=i->i<l.length->¬ (l.getD i z79).f0.data.toList<s.data.toList
def foundAt (l:List ay)(s:ByteArray)(p:Nat):Bool:=decide (p<l.length/\(l.getD p z79).f0=s)
theorem ajb {A:Option Addr}{c:Nat}{l:List ay}{w:World}(h:Kd.C cf w A l.length l)(hn:l.length<=1000)(hs:Ib l)(s:ByteArray):
  Calls Tryz.prog 178 #[.slice A l.length c,.string s,.func (.func 179) #[] #[]] w fun e w'=>∃p:Nat,H8 l s p/\e= .returned (.tuple #[.int .i64 (p:Int),.bool (foundAt l s p)])/\Below w.heap.size w w':=by
 have bT:=ae h
 have HS:=ae hs
 have br:=ae hn
 have eg:=enters_of Tryz.func179 tA1 rfl
 clear h hs hn
 go_enter Tryz.func178,Tryz.ntmps178
 go_wp2
 go_loopg [9,10,11] l.length (fun bL lj Dx _ wr=>∃lo hi:Nat,lo<=hi/\hi<=l.length/\hi-lo<=bL/\lj= .int .i64 (lo:Int)/\Dx= .int .i64 (hi:Int)/\af (Below w.heap.size w wr)/\af (∀i,i<lo->(l.getD i z79).f0.data.toList<s.data.toList)/\af (∀i,hi<=i->i<l.length->¬ (l.getD i z79).f0.data.toList<s.data.toList))
 case atStart=>exact⟨0,l.length,tA0,tA0,tA0,rfl,rfl,⟨Below.refl _ w⟩,⟨fun i h=>absurd h tA0⟩,⟨fun i h1 h2=>absurd h2 tA0⟩⟩
 case round=>
  obtain⟨lo,hi,axc,anq,hg,rfl,rfl,bs,F1,GQ⟩:=hrel
  have iW:=br.o
  by_cases hlt:lo<hi
  ·have cp:(lo:Int)< (hi:Int):=by omega
   obtain⟨m,hm⟩:∃m,m=(lo+hi) / 2:=⟨_,rfl⟩
   have vh:lo<=m:=tA0
   have hm2:m<hi:=tA0
   have e1:wrap64 ((lo:Int)+(hi:Int))=((lo+hi:Nat):Int):=tAh
   obtain⟨ad,e,x0,x1⟩:=jD bT.o (m:Int) tA0 tA0
   cases e
   simp only[eQ]at x0 x1
   replace x0:=bw bs.o x0
   replace x1:=bw bs.o x1
   have ht:aJ l (m:Int)=l.getD m z79:=by simp[aJ]
   rw[ht]at x0 x1
   have HC:=ae (Zt (l.getD m z79).f0 (l.getD m z79).f1 s wr)
   have kA:=RI (l.getD m z79).f0.data.toList s.data.toList
   generalize Lib.compareBytes (l.getD m z79).f0.data.toList s.data.toList=v at HC kA
   rw[hm]at x0 x1
   rw[hm]at HC
   have em:((lo:Int)+(hi:Int)) / 2=(m:Int):=tA0
   by_cases h0:v<0
   ·have uN:=ae (kA.1 h0)
    have dC:=ae hm
    have fx:=ae em
    clear kA hm em
    go_wp2_with (go_at_fn 179)
    refine HC.o.mono ?_
    rintro e w2 ⟨rfl,hb⟩
    go_wp2
    go_roundg (hi- (m+1))
    case measure=>have:=dC.o;omega
    case rel=>exact⟨m+1,hi,tA0,tA0,tA0,tDs,rfl,⟨au bs.o hb⟩,⟨fun i hi'=>by
     rcases Nat.lt_or_ge i m with h|h
     ·exact List.lt_trans (HS.o i m h tA0) uN.o
     ·rw[show i=m by omega];exact uN.o⟩,GQ⟩
   ·have uN:af (¬ (l.getD m z79).f0.data.toList<s.data.toList):=⟨fun h=>h0 (kA.2 h)⟩
    have dC:=ae hm
    have fx:=ae em
    clear kA hm em
    go_wp2_with (go_at_fn 179)
    refine HC.o.mono ?_
    rintro e w2 ⟨rfl,hb⟩
    go_wp2
    go_roundg (m-lo)
    case measure=>have:=dC.o;omega
    case rel=>exact⟨lo,m,tA0,tA0,tA0,rfl,tDs,⟨au bs.o hb⟩,F1,⟨fun i h1 h2=>by
     rcases Nat.lt_or_ge m i with h|h
     ·exact fun hc=>uN.o (List.lt_trans (HS.o m i h h2) hc)
     ·rw[show i=m by omega];exact uN.o⟩⟩
  ·have cp:¬ (lo:Int)< (hi:Int):=by omega
   obtain rfl:lo=hi:=tA0
   have ig:af (H8 l s lo):=⟨⟨anq,F1.o,GQ.o⟩⟩
   clear F1 GQ
   by_cases zV:lo<l.length
   ·have anI:(lo:Int)< (l.length:Int):=by omega
    obtain⟨ad,e,x0,x1⟩:=jD bT.o (lo:Int) tA0 tA0
    cases e
    simp only[eQ]at x0 x1
    replace x0:=bw bs.o x0
    replace x1:=bw bs.o x1
    have ht:aJ l (lo:Int)=l.getD lo z79:=by simp[aJ]
    rw[ht]at x0 x1
    have HC:=ae (Zt (l.getD lo z79).f0 (l.getD lo z79).f1 s wr)
    have S5:=YR (l.getD lo z79).f0.data.toList s.data.toList
    generalize Lib.compareBytes (l.getD lo z79).f0.data.toList s.data.toList=v at HC S5
    have HD:af (foundAt l s lo=(v==0)):=⟨by
     unfold foundAt
     rw[Bool.eq_iff_iff,decide_eq_true_eq,beq_iff_eq,S5]
     exact⟨fun h=>by rw[h.2],fun h=>⟨zV,pK.1 (by rw[ByteArray.toList_eq,ByteArray.toList_eq];exact h)⟩⟩⟩
    clear S5 ht
    generalize l.getD lo z79=t at x0 x1 HC
    go_wp2_with (go_at_fn 179)
    refine HC.o.mono ?_
    rintro e w2 ⟨rfl,hb⟩
    go_wp2
    refine bodyPost_ret (results_tmp2 rfl _ _ _) rfl ?_
    exact⟨lo,ig.o,by rw[HD.o];first|rfl|simp,au bs.o hb⟩
   ·have anI:¬ (lo:Int)< (l.length:Int):=by omega
    have HD:af (foundAt l s lo=false):=⟨cE (fun h=>zV h.1)⟩
    go_wp2
    refine bodyPost_ret (results_tmp2 rfl _ _ _) rfl ?_
    exact⟨lo,ig.o,by rw[HD.o];first|rfl|simp,bs.o⟩
def bu:List ay->ByteArray->Int
 | [],_=>0
 | t::l,s=>if t.f0=s then t.f1 else bu l s
theorem BZ:∀(l:List ay) (s:ByteArray),(∀t∈l,t.f0≠s)->bu l s=0
 | [],_,_=>rfl
 | t::l,s,h=>by
  rw[bu,if_neg (h t tA2),BZ l s (fun u hu=>h u (by simp[hu]))]
theorem YY:∀(l:List ay) (s:ByteArray) (p:Nat),p<l.length->(l.getD p z79).f0=s->(∀i,i<p->(l.getD i z79).f0≠s)->bu l s=(l.getD p z79).f1
 | [],_,_,h,_,_=>absurd h tA2
 | t::l,s,0,_,h,_=>by
  have h':t.f0=s:=h
  rw[bu,if_pos h']
  rfl
 | t::l,s,p+1,hp,h,hi=>by
  have h0:t.f0≠s:=hi 0 tA0
  rw[bu,if_neg h0]
  exact YY l s p (by simpa using hp) h (fun i hlt=>hi (i+1) tA0)
theorem wJ {a b:ByteArray}(h:a.data.toList<b.data.toList):a≠b:=fun e=>by rw[e]at h;exact List.lt_irrefl _ h
theorem YZ {l:List ay}{s:ByteArray}{p:Nat}(hp:H8 l s p)(hf:foundAt l s p=true):p<l.length/\bu l s=(l.getD p z79).f1:=by
 unfold foundAt at hf
 obtain⟨h1,h2⟩:=bg hf
 exact⟨h1,YY l s p h1 h2 (fun i hi=>wJ (hp.2.1 i hi))⟩
theorem Y0 {l:List ay}{s:ByteArray}{p:Nat}(hs:Ib l)(hp:H8 l s p)(hf:foundAt l s p=false):∀t∈l,t.f0≠s:=by
 intro t ht he
 obtain⟨i,hi,rfl⟩:=List.mem_iff_getElem.1 ht
 have e1:l.getD i z79=l[i]:=by simp[List.getD,b8 hi]
 unfold foundAt at hf
 rcases Nat.lt_or_ge i p with h|h
 ·exact wJ (hp.2.1 i h) (by rw[e1];exact he)
 ·rcases Nat.eq_or_lt_of_le h with h|h
  ·subst h
   exact absurd ⟨hi,by rw[e1];exact he⟩ (of_decide_eq_false hf)
  ·have h1:=hs p i h hi
   rw[e1,he]at h1
   exact hp.2.2 p (bl _) tA0 h1
theorem Zu {A:Option Addr}{c:Nat}{f:aj}{w:World}(h:gl A c f w)(hs:Ib f.f1)(s:ByteArray):
  Calls Tryz.prog 141 #[.agg #[.int .i64 f.f0,.slice A f.f1.length c],.string s] w fun e w'=>∃(p:Nat) (b:Bool),H8 f.f1 s p/\af (foundAt f.f1 s p=b)/\e= .returned (.tuple #[.int .i64 (p:Int),.bool b])/\Below w.heap.size w w':=by
 have bI:=ae (ax (Below.refl w.heap.size w) (.cells #[.int .i64 f.f0,.slice A f.f1.length c] 33))
 have HC:=ae (ajb (c:=c) (Kd.bN h.tm bI.o) h.n1 hs s)
 clear h hs
 go_enter Tryz.func141,Tryz.ntmps141
 go_wp2_with (go_at_call 178;refine HC.o.mono ?_;rintro e w2 ⟨p,hp,rfl,hb⟩;have ig:=ae hp;have aI:=ae (au bI.o hb);clear hp hb)
 refine bodyPost_ret (results_tmp2 rfl _ _ _) rfl ?_
 exact⟨p,foundAt f.f1 s p,ig.o,⟨rfl⟩,rfl,aI.o⟩
theorem RJ {A:Option Addr}{c:Nat}{f:aj}{w:World}(h:gl A c f w)(hs:Ib f.f1)(s:ByteArray):
  Calls Tryz.prog 88 #[.agg #[.int .i64 f.f0,.slice A f.f1.length c],.string s] w fun e w'=>e= .returned (.int .i64 (bu f.f1 s))/\Below w.heap.size w w':=by
 have bI:=ae (ax (Below.refl w.heap.size w) (.cells #[.int .i64 f.f0,.slice A f.f1.length c] 33))
 have cJ:=ae (a8 w (.cells #[.int .i64 f.f0,.slice A f.f1.length c] 33))
 have HC:=ae (Zu (h.below bI.o) hs s)
 have HS:=ae hs
 have b9:=ae h.tm
 have br:=ae h.n1
 clear h hs
 go_enter Tryz.func88,Tryz.ntmps88
 go_wp2_with (go_at_call 141;refine HC.o.mono ?_;rintro e w2 ⟨p,b,hp,jK,rfl,hb⟩;have ig:=ae hp;have aI:=ae (au bI.o hb);have aC:w2.cell? ⟨w.heap.size,1,none⟩=some (.slice A f.f1.length c):=(mj (av cJ.o hb) 1).trans rfl;clear hp hb;cases b;case' true=>(obtain⟨hlt,yo⟩:=YZ ig.o jK.o;have jd:=ae yo;clear yo;have cp:(p:Int)< (f.f1.length:Int):= tA0;obtain⟨ad,e,x0,x1⟩:=jD (Kd.bN b9.o aI.o) (p:Int) tA0 tA0;cases e;simp only[eQ]at x0 x1;have lv:af (aJ f.f1 (p:Int)=f.f1.getD p z79):=⟨by simp[aJ]⟩;generalize aJ f.f1 (p:Int)=u at x0 x1 lv))
 all_goals go_ret
 all_goals first
  | exact⟨by rw[BZ _ _ (Y0 HS.o ig.o jK.o)];rfl,aI.o⟩
  | exact⟨by rw[jd.o,<- lv.o];rfl,aI.o⟩
end Go.Proofs.YtjgakaembhmhpaaGreatDoor.PA
