/- Part of the proof of SetsChanged: printed contracts, struck. It holds without further conditions. -/
import Derived.Test.YtjgakaembhmhpaaGreatDoorJAC
set_option linter.unusedVariables false
set_option linter.unusedSimpArgs false
set_option maxHeartbeats 16000000
set_option maxRecDepth 100000
namespace Go.Proofs.YtjgakaembhmhpaaGreatDoor.PA
open Go.RowKit Go.Proofs.YtjgakaembhmhpaaGreatDoorW.PrintWords Go.Proofs.YtjgakaembhmhpaaGreatDoorW.PrintLast Go.Proofs.YtjgakaembhmhpaaGreatDoorW.PrintMore
open Go.Proofs.YtjgakaembhmhpaaGreatDoorM
attribute [local go_sem] str_leq str_gtr str_geq
attribute [local go_sem] max2_int min2_int max_two min_two max_three min_three max_four min_four
theorem XR (g:Nat)(lb:Array Value)(A:Option Addr)(c:Nat)(l:List aq)(p:aq->Bool)(w:World)(hr:Kd.C cu w A l.length l)
  (eg:∀args w,(callFunc g args).run Tryz.prog w= .ok (.enter g args) w)
  (hp:∀(W:World) (x:aq),x∈l->Below w.heap.size w W->Calls Tryz.prog g (#[.agg #[.string x.f0,.int .i64 x.f1,.int .i64 x.f2]]++lb) W fun e w'=>e= .returned (.bool (p x))/\Below w.heap.size w w'):
  Calls Tryz.prog 120 #[.slice A l.length c,.func (.func g) #[] lb] w fun e w'=>e= .returned (.int .i64 (idxFrom p l 0))/\Below w.heap.size w w':=by
 have bT:=ae hr
 have ig:=ae hp
 clear hr hp
 have hm:=bT.o.2.1
 go_enter Tryz.func120,Tryz.ntmps120
 go_wp2
 go_loopg [5,8] l.length (fun bL _ kE wr=>∃kk:Nat,kk<=l.length/\l.length-kk<=bL/\kE= .int .i64 kk/\af (Below w.heap.size w wr)/\af (idxFrom p l 0=idxFrom p (l.drop kk) kk))
 case atStart=>exact⟨0,Nat.zero_le _,tA0,rfl,⟨Below.refl _ w⟩,⟨tA2⟩⟩
 case round=>
  obtain⟨kk,eO,hg,rfl,bs,A⟩:=hrel
  by_cases hlt:kk<l.length
  ·have cp:(kk:Int)< (l.length:Int):=by omega
   obtain⟨ad,e,hx0,hx1,hx2⟩:=fe bT.o (kk:Int) tA0 tA0
   cases e
   replace hx0:=(bs.o.cell (b7 w _ hx0)).trans hx0
   replace hx1:=(bs.o.cell (b7 w _ hx1)).trans hx1
   replace hx2:=(bs.o.cell (b7 w _ hx2)).trans hx2
   simp only[eQ]at hx0 hx1 hx2
   have hy:aw l (kk:Int)=l[kk]:=tC1
   have mo:=ig.o wr (aw l (kk:Int)) tB0 bs.o
   have dK:=ae (T2 p l z77 kk hlt)
   have dQ:af (l.getD kk z77=aw l (kk:Int)):=⟨rfl⟩
   clear hy
   cases hq:p (aw l (kk:Int))with
   | true=>
    rw[hq]at mo
    have uJ:=ae hq
    clear hq
    go_wp2_with (go_at_fn g;refine mo.mono ?_;rintro e w' ⟨rfl,hb'⟩)
    go_ret
    refine⟨?_,hb'⟩
    rw[A.o,dK.o,dQ.o,uJ.o]
    rfl
   | false=>
    rw[hq]at mo
    have uJ:=ae hq
    clear hq
    go_wp2_with (go_at_fn g;refine mo.mono ?_;rintro e w' ⟨rfl,hb'⟩)
    go_roundg (l.length- (kk+1))
    case measure=>omega
    case rel=>
     refine⟨kk+1,tA0,tA0,tA7,⟨hb'⟩,⟨?_⟩⟩
     rw[A.o,dK.o,dQ.o,uJ.o]
     rfl
  ·have cp:¬ (kk:Int)< (l.length:Int):=by omega
   have:kk=l.length:=tA0
   subst this
   go_wp2
   go_ret
   refine⟨?_,bs.o⟩
   rw[A.o,List.drop_length]
   rfl
theorem asg (a:ByteArray)(f1 f2:Int)(name:ByteArray)(B:Nat)(W:World)(hb:W.heap[B]?=some (.cells #[.string name] 9 (0,0))):
  Calls Tryz.prog 121 #[.agg #[.string a,.int .i64 f1,.int .i64 f2],.pointer (some ⟨B,0,none⟩)] W fun e w'=>e= .returned (.bool (a.toList==name.toList))/\Below W.heap.size W w':=by
 have hc:W.cell? ⟨B,0,none⟩=some (.string name):=ah hb 0
 have hlt:=az hb
 go_enter Tryz.func121,Tryz.ntmps121
 go_wp2
 go_ret
 exact⟨rfl,ax (Below.refl _ _) _⟩
def px.f (ag:List aq)(ai:List aj)(a1:ByteArray):Option Int:=some (idxFrom (fun x:aq=>x.f0.toList==a1.toList) ag 0)
theorem px.calls (bP:Option Addr)(bh:Nat)(ag:List aq)(aQ:Option Addr)(aG:Nat)(ai:List aj)(a1:ByteArray)(r:Int)(w:World)(kB:Kd.C cu w bP ag.length ag)(mn:ag.length<=bh)(h9:Kd.C bc w aQ ai.length ai)(iH:ai.length<=aG)(h:px.f ag ai a1=some r):
  Calls Tryz.prog 59 #[.agg #[.slice bP ag.length bh,.slice aQ ai.length aG],.string a1] w fun e w'=>e= .returned (.int .i64 r)/\Below w.heap.size w w':=by
 obtain rfl:=bo h
 clear h
 have bT:=ae kB
 clear kB h9
 have eg:=enters_of Tryz.func121 tA1 rfl
 go_enter Tryz.func59,Tryz.ntmps59
 go_wp2_with (go_at_call 120;refine(XR 121 _ _ _ ag (fun x:aq=>x.f0.toList==a1.toList) _ (Kd.bN bT.o (ax (ax (Below.refl _ _) _) _)) eg ?_).mono ?_;rotate_left;rintro e w' ⟨rfl,hb⟩)
 ·go_ret
  exact⟨rfl,au (ax (ax (Below.refl _ _) _) _) hb⟩
 ·intro W x hx hB
  exact(asg _ _ _ _ _ _ (av (by simpa using a8 (w.alloc _) _) hB)).mono fun e w' ⟨he,hb⟩=>⟨he,au hB hb⟩
def tN.f (a0:Int):Option (Bool):=if a0>=97 then(some (decide (a0<=122)))else(some false)
theorem tN.calls (a0:Int)(r:Bool)(w:World)(h:tN.f a0=some r):
  Calls Tryz.prog 158 #[.int .u8 a0] w fun e w'=>e= .returned (.bool r)/\aR w w':=by
 have H:(if a0>=97 then(some (decide (a0<=122)))else(some false))=some r:=h
 clear h
 by_cases bb:a0>=97
 ·rw[if_pos bb]at H
  have lI:decide (97<=a0)=true:=bn bb
  clear bb
  obtain rfl:=bo H
  go_enter Tryz.func158,Tryz.ntmps158
  go_wp2
  go_ret
  exact⟨tA6,tA8⟩
 ·rw[if_neg bb]at H
  have lI:decide (97<=a0)=false:=cE bb
  clear bb
  obtain rfl:=bo H
  go_enter Tryz.func158,Tryz.ntmps158
  go_wp2
  go_ret
  exact⟨tA6,tA8⟩
def yB.f (a0:Int):Option (Bool):=if a0>=48 then(some (decide (a0<=57)))else(some false)
theorem yB.calls (a0:Int)(r:Bool)(w:World)(h:yB.f a0=some r):
  Calls Tryz.prog 159 #[.int .u8 a0] w fun e w'=>e= .returned (.bool r)/\aR w w':=by
 have H:(if a0>=48 then(some (decide (a0<=57)))else(some false))=some r:=h
 clear h
 by_cases bb:a0>=48
 ·rw[if_pos bb]at H
  have lI:decide (48<=a0)=true:=bn bb
  clear bb
  obtain rfl:=bo H
  go_enter Tryz.func159,Tryz.ntmps159
  go_wp2
  go_ret
  exact⟨tA6,tA8⟩
 ·rw[if_neg bb]at H
  have lI:decide (48<=a0)=false:=cE bb
  clear bb
  obtain rfl:=bo H
  go_enter Tryz.func159,Tryz.ntmps159
  go_wp2
  go_ret
  exact⟨tA6,tA8⟩
theorem stringslite_IndexByte.calls (s:ByteArray)(c:Int)(w:World):
  Calls Tryz.prog 198 #[.string s,.int .u8 c] w fun e w'=>e= .returned (.int .i64 (Lib.indexByte s.data.toList c.toNat.toUInt8))/\w'=w:=by
 go_enter Tryz.func198,Tryz.ntmps198
 go_wp2
 rw[run_callFunc_extern Tryz.func215 tA1 tA1 tA1 (e:=Extern.BytealgIndexByte.indexByte) tA1,Lib.run_indexByteString]
 simp only[Result.andThen]
 rw[Oper.upon_value]
 go_wp2
 go_ret
 exact⟨rfl,rfl⟩
def strings_IndexByte.f (a0:ByteArray)(a1:Int):Option Int:=some (Lib.indexByte a0.data.toList a1.toNat.toUInt8)
theorem strings_IndexByte.calls (a0:ByteArray)(a1:Int)(r:Int)(w:World)(h:strings_IndexByte.f a0 a1=some r):
  Calls Tryz.prog 160 #[.string a0,.int .u8 a1] w fun e w'=>e= .returned (.int .i64 r)/\aR w w':=by
 obtain rfl:=bo h
 go_enter Tryz.func160,Tryz.ntmps160
 go_wp2_with (go_at_call 198;refine(stringslite_IndexByte.calls _ _ _).mono ?_;rintro e w' ⟨rfl,rfl⟩)
 go_ret
 exact⟨rfl,aR.refl _⟩
mutual
def fC.fl:Nat->ByteArray->ByteArray->Bool->Option (Bool)
 | 0,_,_,_=>none
 | k+1,x0,x1,ua=>if ua=true then(some false)else(fC.l0 k x0 x1 (x0.size:Int) 0)
def fC.l0:Nat->ByteArray->ByteArray->Int->Int->Option (Bool)
 | 0,_,_,_,_=>none
 | k+1,x0,x1,rL,yR=>if yR<rL then(if 0<=yR then(if yR< (x0.size:Int)then((tN.f (bG x0 yR)).bind fun N5=>(if N5=true then(fC.l0 k x0 x1 rL (wrap64 (yR+1)))else((yB.f (bG x0 yR)).bind fun Av=>(if Av=true then(fC.l0 k x0 x1 rL (wrap64 (yR+1)))else((strings_IndexByte.f x1 (bG x0 yR)).bind fun rF=>(if rF<0 then(some false)else(fC.l0 k x0 x1 rL (wrap64 (yR+1)))))))))else(none))else(none))else(some true)
end
def fC.f (k:Nat)(a0:ByteArray)(a1:ByteArray):Option (Bool):=if(a0.size:Int)<1 then(fC.fl k a0 a1 true)else(if(a0.size:Int)>40 then(fC.fl k a0 a1 true)else(if 0< (a0.size:Int)then((tN.f (bG a0 0)).bind fun DB=>(fC.fl k a0 a1 (!DB)))else(none)))
theorem fC.calls (k:Nat)(a0:ByteArray)(a1:ByteArray)(r:Bool)(w:World)(h:fC.f k a0 a1=some r):
  Calls Tryz.prog 118 #[.string a0,.string a1] w fun e w'=>e= .returned (.bool r)/\aR w w':=by
 have H:(if(a0.size:Int)<1 then(fC.fl k a0 a1 true)else(if(a0.size:Int)>40 then(fC.fl k a0 a1 true)else(if 0< (a0.size:Int)then((tN.f (bG a0 0)).bind fun DB=>(fC.fl k a0 a1 (!DB)))else(none))))=some r:=h
 clear h
 have G2:=ae H
 clear H
 go_enter Tryz.func118,Tryz.ntmps118
 go_upto_region 1 with(fail)
 go_cut [19] (fun v19 wc=>∃(cy:Nat) (Oq:Bool),v19= .bool Oq/\af (fC.fl cy a0 a1 Oq=some r)/\af (cy<=k)/\aR w wc)
 case first=>
  have H:=G2.o
  clear G2
  by_cases aV:(a0.size:Int)<1
  ·rw[if_pos aV]at H
   have fB:=bn aV
   have lJ:decide (a0.size<1)=true:=bn tA0
   clear aV
   (first|rw[fB]|(simp only[Ab,CJ];rw[fB])|skip)
   have bk:=ae H
   clear H
   go_wp2
   go_meet
   case rel=>exact⟨_,(true),tA6,bk,⟨tB5⟩,tA8⟩
  ·rw[if_neg aV]at H
   have fB:=cE aV
   have lJ:decide (a0.size<1)=false:=cE tA0
   clear aV
   (first|rw[fB]|(simp only[Ab,CJ];rw[fB])|skip)
   by_cases bW:(a0.size:Int)>40
   ·rw[if_pos bW]at H
    have nO:decide (40< (a0.size:Int))=true:=bn bW
    have zF:decide (40<a0.size)=true:=bn tA0
    clear bW
    have bk:=ae H
    clear H
    go_wp2
    go_meet
    case rel=>exact⟨_,(true),tA6,bk,⟨tB5⟩,tA8⟩
   ·rw[if_neg bW]at H
    have nO:decide (40< (a0.size:Int))=false:=cE bW
    have zF:decide (40<a0.size)=false:=cE tA0
    clear bW
    by_cases c6:0< (a0.size:Int)
    ·rw[if_pos c6]at H
     have x9:=bn c6
     have EX:decide (0<a0.size)=true:=bn tA0
     clear c6
     replace H:=eL.mp H
     obtain⟨DB,VT,H⟩:=H
     replace H:(fC.fl k a0 a1 (!DB))=some r:=H
     have jJ:=ae VT
     clear VT
     have bk:=ae H
     clear H
     have UK:0<=(0:Int):= tA0
     have ac8:0<a0.size:= tC3
     have Nh:∀h:0<a0.size,((a0[0]'h).toNat:Int)=bG a0 0:=kt a0 0
     clear UK
     have ayt:(0< (a0.size:Int))=True:=eq_true (bg tA4)
     replace ac8:=eq_true ac8
     go_wp2_with (first|(go_at_call 158;(with_reducible refine(tN.calls (bG a0 0) DB _ jJ.o).mono ?_);rintro e w' ⟨rfl,⟨cg,rfl⟩⟩))
     go_meet
     case rel=>exact⟨_,(!DB),tA6,bk,⟨tB5⟩,tA8⟩
    ·rw[if_neg c6]at H
     exact absurd H tA2
 case rest=>
  clear G2
  obtain⟨cy,Oq,rfl,a7,D3,⟨ayp,rfl⟩⟩:=hcut
  cases cy with
  | zero=>exact absurd a7.o (by simp[fC.fl])
  | succ Uh=>
   have H:=a7.o
   clear a7
   simp only[fC.fl]at H
   by_cases c9:Oq=true
   ·subst c9
    replace H:(some false)=some r:=tAd
    obtain rfl:=bo H
    go_wp2
    go_ret
    exact⟨tA6,tA8⟩
   ·replace c9:=ju.mpr c9
    subst c9
    replace H:(fC.l0 Uh a0 a1 (a0.size:Int) 0)=some r:=tAe
    have bk:=ae H
    clear H
    go_wp2
    go_loopg [22] Uh (fun cy v22 w'=>∃(dv:Int),v22= .int .i64 dv/\af (fC.l0 cy a0 a1 (a0.size:Int) dv=some r)/\af (cy<=Uh)/\aR w w')
    case atStart=>exact⟨(0),tA6,bk,⟨bl _⟩,tA8⟩
    case round=>
     clear bk
     try clear c9
     obtain⟨dv,rfl,a7,dP,⟨m2,rfl⟩⟩:=hrel
     cases gk with
     | zero=>exact absurd a7.o (by simp[fC.l0])
     | succ k2=>
      have H:=a7.o
      clear a7
      simp only[fC.l0]at H
      by_cases c10:dv< (a0.size:Int)
      ·rw[if_pos c10]at H
       have xY:=bn c10
       clear c10
       by_cases c11:0<=dv
       ·rw[if_pos c11]at H
        have BO:=bn c11
        clear c11
        by_cases c12:dv< (a0.size:Int)
        ·rw[if_pos c12]at H
         have Rt:=bn c12
         clear c12
         replace H:=eL.mp H
         obtain⟨N5,GH,H⟩:=H
         replace H:(if N5=true then(fC.l0 k2 a0 a1 (a0.size:Int) (wrap64 (dv+1)))else((yB.f (bG a0 dv)).bind fun Av=>(if Av=true then(fC.l0 k2 a0 a1 (a0.size:Int) (wrap64 (dv+1)))else((strings_IndexByte.f a1 (bG a0 dv)).bind fun rF=>(if rF<0 then(some false)else(fC.l0 k2 a0 a1 (a0.size:Int) (wrap64 (dv+1))))))))=some r:=H
         have AO:=ae GH
         clear GH
         by_cases c15:N5=true
         ·subst c15
          replace H:(fC.l0 k2 a0 a1 (a0.size:Int) (wrap64 (dv+1)))=some r:=tAd
          have bk:=ae H
          clear H
          have vx:0<=(dv:Int):=bg tA4
          have vy:dv< (a0.size:Int):=bg tA4
          have TV:=kt a0 dv
          replace vx:=eq_true vx
          replace vy:=eq_true vy
          go_wp2_with (first|((with_reducible refine cV (f:=158) rfl ?_);refine cW (some 28) rfl rfl Tryz.func158 tA1 rfl #[.int .u8 (bG a0 dv)] rfl tA9 ?_;(with_reducible refine(tN.calls (bG a0 dv) true _ AO.o).mono ?_);rintro e w' ⟨rfl,⟨cg,rfl⟩⟩;refine⟨_,rfl,?_⟩))
          go_roundg k2
          case measure=>have:=D3.o;have:=dP.o;omega
          case rel=>exact⟨(wrap64 (dv+1)),tA6,bk,⟨tCk⟩,tA8⟩
         ·replace c15:=ju.mpr c15
          subst c15
          replace H:((yB.f (bG a0 dv)).bind fun Av=>(if Av=true then(fC.l0 k2 a0 a1 (a0.size:Int) (wrap64 (dv+1)))else((strings_IndexByte.f a1 (bG a0 dv)).bind fun rF=>(if rF<0 then(some false)else(fC.l0 k2 a0 a1 (a0.size:Int) (wrap64 (dv+1)))))))=some r:=tAe
          replace H:=eL.mp H
          obtain⟨Av,VN,H⟩:=H
          replace H:(if Av=true then(fC.l0 k2 a0 a1 (a0.size:Int) (wrap64 (dv+1)))else((strings_IndexByte.f a1 (bG a0 dv)).bind fun rF=>(if rF<0 then(some false)else(fC.l0 k2 a0 a1 (a0.size:Int) (wrap64 (dv+1))))))=some r:=H
          have OB:=ae VN
          clear VN
          by_cases c18:Av=true
          ·subst c18
           replace H:(fC.l0 k2 a0 a1 (a0.size:Int) (wrap64 (dv+1)))=some r:=tAd
           have bk:=ae H
           clear H
           have vx:0<=(dv:Int):=bg tA4
           have vy:dv< (a0.size:Int):=bg tA4
           have TV:=kt a0 dv
           replace vx:=eq_true vx
           replace vy:=eq_true vy
           go_wp2_with (first|((with_reducible refine cV (f:=158) rfl ?_);refine cW (some 28) rfl rfl Tryz.func158 tA1 rfl #[.int .u8 (bG a0 dv)] rfl tA9 ?_;(with_reducible refine(tN.calls (bG a0 dv) false _ AO.o).mono ?_);rintro e w' ⟨rfl,⟨cg,rfl⟩⟩;refine⟨_,rfl,?_⟩;have wM:0<=(dv:Int):=bg tA4;have vz:dv< (a0.size:Int):=bg tA4;have yz:=kt a0 dv;replace wM:=eq_true wM;replace vz:=eq_true vz)|(go_at_call 159;(with_reducible refine(yB.calls (bG a0 dv) true _ OB.o).mono ?_);rintro e w' ⟨rfl,⟨cg,rfl⟩⟩))
           go_roundg k2
           case measure=>have:=D3.o;have:=dP.o;omega
           case rel=>exact⟨(wrap64 (dv+1)),tA6,bk,⟨tCk⟩,tA8⟩
          ·replace c18:=ju.mpr c18
           subst c18
           replace H:((strings_IndexByte.f a1 (bG a0 dv)).bind fun rF=>(if rF<0 then(some false)else(fC.l0 k2 a0 a1 (a0.size:Int) (wrap64 (dv+1)))))=some r:=tAe
           replace H:=eL.mp H
           obtain⟨rF,GI,H⟩:=H
           replace H:(if rF<0 then(some false)else(fC.l0 k2 a0 a1 (a0.size:Int) (wrap64 (dv+1))))=some r:=H
           have nv:=ae GI
           clear GI
           by_cases nN:rF<0
           ·rw[if_pos nN]at H
            have Ru:=bn nN
            clear nN
            obtain rfl:=bo H
            have vx:0<=(dv:Int):=bg tA4
            have vy:dv< (a0.size:Int):=bg tA4
            have TV:=kt a0 dv
            replace vx:=eq_true vx
            replace vy:=eq_true vy
            go_wp2_with (first|((with_reducible refine cV (f:=158) rfl ?_);refine cW (some 28) rfl rfl Tryz.func158 tA1 rfl #[.int .u8 (bG a0 dv)] rfl tA9 ?_;(with_reducible refine(tN.calls (bG a0 dv) false _ AO.o).mono ?_);rintro e w' ⟨rfl,⟨cg,rfl⟩⟩;refine⟨_,rfl,?_⟩;have wM:0<=(dv:Int):=bg tA4;have vz:dv< (a0.size:Int):=bg tA4;have yz:=kt a0 dv;replace wM:=eq_true wM;replace vz:=eq_true vz)|(go_at_call 159;(with_reducible refine(yB.calls (bG a0 dv) false _ OB.o).mono ?_);rintro e w' ⟨rfl,⟨cg,rfl⟩⟩;have JK:0<=(dv:Int):=bg tA4;have JQ:dv< (a0.size:Int):=bg tA4;have aoK:=kt a0 dv;replace JK:=eq_true JK;replace JQ:=eq_true JQ)|(go_at_call 160;(with_reducible refine(strings_IndexByte.calls a1 (bG a0 dv) rF _ nv.o).mono ?_);rintro e w' ⟨rfl,⟨cg,rfl⟩⟩))
            go_ret
            exact⟨tA6,tA8⟩
           ·rw[if_neg nN]at H
            have Ru:=cE nN
            clear nN
            have bk:=ae H
            clear H
            have vx:0<=(dv:Int):=bg tA4
            have vy:dv< (a0.size:Int):=bg tA4
            have TV:=kt a0 dv
            replace vx:=eq_true vx
            replace vy:=eq_true vy
            go_wp2_with (first|((with_reducible refine cV (f:=158) rfl ?_);refine cW (some 28) rfl rfl Tryz.func158 tA1 rfl #[.int .u8 (bG a0 dv)] rfl tA9 ?_;(with_reducible refine(tN.calls (bG a0 dv) false _ AO.o).mono ?_);rintro e w' ⟨rfl,⟨cg,rfl⟩⟩;refine⟨_,rfl,?_⟩;have wM:0<=(dv:Int):=bg tA4;have vz:dv< (a0.size:Int):=bg tA4;have yz:=kt a0 dv;replace wM:=eq_true wM;replace vz:=eq_true vz)|(go_at_call 159;(with_reducible refine(yB.calls (bG a0 dv) false _ OB.o).mono ?_);rintro e w' ⟨rfl,⟨cg,rfl⟩⟩;have JK:0<=(dv:Int):=bg tA4;have JQ:dv< (a0.size:Int):=bg tA4;have aoK:=kt a0 dv;replace JK:=eq_true JK;replace JQ:=eq_true JQ)|(go_at_call 160;(with_reducible refine(strings_IndexByte.calls a1 (bG a0 dv) rF _ nv.o).mono ?_);rintro e w' ⟨rfl,⟨cg,rfl⟩⟩))
            go_roundg k2
            case measure=>have:=D3.o;have:=dP.o;omega
            case rel=>exact⟨(wrap64 (dv+1)),tA6,bk,⟨tCk⟩,tA8⟩
        ·rw[if_neg c12]at H
         exact absurd H tA2
       ·rw[if_neg c11]at H
        exact absurd H tA2
      ·rw[if_neg c10]at H
       have xY:=cE c10
       clear c10
       obtain rfl:=bo H
       go_wp2
       go_ret
       exact⟨tA6,tA8⟩
def yC.f (a0:ByteArray):Option (Bool):=if a0.toList=([97,114,114,97,121]:List UInt8)then(some true)else(if a0.toList=([102,111,114]:List UInt8)then(some true)else(if a0.toList=([105,102]:List UInt8)then(some true)else(if a0.toList=([109,97,120]:List UInt8)then(some true)else(if a0.toList=([109,105,110]:List UInt8)then(some true)else(some false)))))
theorem yC.calls (a0:ByteArray)(r:Bool)(w:World)(h:yC.f a0=some r):
  Calls Tryz.prog 119 #[.string a0] w fun e w'=>e= .returned (.bool r)/\aR w w':=by
 have H:(if a0.toList=([97,114,114,97,121]:List UInt8)then(some true)else(if a0.toList=([102,111,114]:List UInt8)then(some true)else(if a0.toList=([105,102]:List UInt8)then(some true)else(if a0.toList=([109,97,120]:List UInt8)then(some true)else(if a0.toList=([109,105,110]:List UInt8)then(some true)else(some false))))))=some r:=h
 clear h
 by_cases bb:a0.toList=([97,114,114,97,121]:List UInt8)
 ·rw[if_pos bb]at H
  have lI:(a0.toList==([97,114,114,97,121]:List UInt8))=true:=beq_iff_eq.mpr bb
  have sf:(a0.toList !=([97,114,114,97,121]:List UInt8))=false:=bne_eq_false_iff_eq.mpr bb
  clear bb
  obtain rfl:=bo H
  go_enter Tryz.func119,Tryz.ntmps119
  go_wp2
  go_ret
  exact⟨tA6,tA8⟩
 ·rw[if_neg bb]at H
  have lI:(a0.toList==([97,114,114,97,121]:List UInt8))=false:=ey.mpr bb
  have sf:(a0.toList !=([97,114,114,97,121]:List UInt8))=true:=bne_iff_ne.mpr bb
  by_cases aM:a0.toList=([102,111,114]:List UInt8)
  ·rw[if_pos aM]at H
   have jE:(a0.toList==([102,111,114]:List UInt8))=true:=beq_iff_eq.mpr aM
   have k6:(a0.toList !=([102,111,114]:List UInt8))=false:=bne_eq_false_iff_eq.mpr aM
   clear aM
   obtain rfl:=bo H
   go_enter Tryz.func119,Tryz.ntmps119
   go_wp2
   go_ret
   exact⟨tA6,tA8⟩
  ·rw[if_neg aM]at H
   have jE:(a0.toList==([102,111,114]:List UInt8))=false:=ey.mpr aM
   have k6:(a0.toList !=([102,111,114]:List UInt8))=true:=bne_iff_ne.mpr aM
   by_cases aV:a0.toList=([105,102]:List UInt8)
   ·rw[if_pos aV]at H
    have fB:(a0.toList==([105,102]:List UInt8))=true:=beq_iff_eq.mpr aV
    have lJ:(a0.toList !=([105,102]:List UInt8))=false:=bne_eq_false_iff_eq.mpr aV
    clear aV
    obtain rfl:=bo H
    go_enter Tryz.func119,Tryz.ntmps119
    go_wp2
    go_ret
    exact⟨tA6,tA8⟩
   ·rw[if_neg aV]at H
    have fB:(a0.toList==([105,102]:List UInt8))=false:=ey.mpr aV
    have lJ:(a0.toList !=([105,102]:List UInt8))=true:=bne_iff_ne.mpr aV
    by_cases bW:a0.toList=([109,97,120]:List UInt8)
    ·rw[if_pos bW]at H
     have nO:(a0.toList==([109,97,120]:List UInt8))=true:=beq_iff_eq.mpr bW
     have zF:(a0.toList !=([109,97,120]:List UInt8))=false:=bne_eq_false_iff_eq.mpr bW
     clear bW
     obtain rfl:=bo H
     go_enter Tryz.func119,Tryz.ntmps119
     go_wp2
     go_ret
     exact⟨tA6,tA8⟩
    ·rw[if_neg bW]at H
     have nO:(a0.toList==([109,97,120]:List UInt8))=false:=ey.mpr bW
     have zF:(a0.toList !=([109,97,120]:List UInt8))=true:=bne_iff_ne.mpr bW
     by_cases c6:a0.toList=([109,105,110]:List UInt8)
     ·rw[if_pos c6]at H
      have x9:(a0.toList==([109,105,110]:List UInt8))=true:=beq_iff_eq.mpr c6
      have EX:(a0.toList !=([109,105,110]:List UInt8))=false:=bne_eq_false_iff_eq.mpr c6
      clear c6
      obtain rfl:=bo H
      go_enter Tryz.func119,Tryz.ntmps119
      go_wp2
      go_ret
      exact⟨tA6,tA8⟩
     ·rw[if_neg c6]at H
      have x9:(a0.toList==([109,105,110]:List UInt8))=false:=ey.mpr c6
      have EX:(a0.toList !=([109,105,110]:List UInt8))=true:=bne_iff_ne.mpr c6
      obtain rfl:=bo H
      go_enter Tryz.func119,Tryz.ntmps119
      go_wp2
      go_ret
      exact⟨tA6,tA8⟩
def nX.f (k:Nat)(a0:ByteArray):Option (Bool):=(fC.f k a0 (⟨#[95]⟩:ByteArray)).bind fun Gi=>(if Gi=true then((yC.f a0).bind fun wT=>(some (!wT)))else(some false))
theorem nX.calls (k:Nat)(a0:ByteArray)(r:Bool)(w:World)(h:nX.f k a0=some r):
  Calls Tryz.prog 58 #[.string a0] w fun e w'=>e= .returned (.bool r)/\aR w w':=by
 have H:((fC.f k a0 (⟨#[95]⟩:ByteArray)).bind fun Gi=>(if Gi=true then((yC.f a0).bind fun wT=>(some (!wT)))else(some false)))=some r:=h
 clear h
 replace H:=eL.mp H
 obtain⟨Gi,nv,H⟩:=H
 replace H:(if Gi=true then((yC.f a0).bind fun wT=>(some (!wT)))else(some false))=some r:=H
 have fG:=ae nv
 clear nv
 by_cases aM:Gi=true
 ·subst aM
  replace H:((yC.f a0).bind fun wT=>(some (!wT)))=some r:=tAd
  replace H:=eL.mp H
  obtain⟨wT,ui,H⟩:=H
  replace H:(some (!wT))=some r:=H
  have uh:=ae ui
  clear ui
  obtain rfl:=bo H
  go_enter Tryz.func58,Tryz.ntmps58
  go_wp2_with (first|((with_reducible refine cV (f:=118) rfl ?_);refine cW (some 4) rfl rfl Tryz.func118 tA1 rfl #[.string a0,.string (⟨#[95]⟩:ByteArray)] rfl tA9 ?_;(with_reducible refine(fC.calls k a0 (⟨#[95]⟩:ByteArray) true _ fG.o).mono ?_);rintro e w' ⟨rfl,⟨cg,rfl⟩⟩;refine⟨_,rfl,?_⟩)|(go_at_call 119;(with_reducible refine(yC.calls a0 wT _ uh.o).mono ?_);rintro e w' ⟨rfl,⟨cg,rfl⟩⟩))
  go_ret
  exact⟨tA6,tA8⟩
 ·replace aM:=ju.mpr aM
  subst aM
  replace H:(some false)=some r:=tAe
  obtain rfl:=bo H
  go_enter Tryz.func58,Tryz.ntmps58
  go_wp2_with (first|((with_reducible refine cV (f:=118) rfl ?_);refine cW (some 4) rfl rfl Tryz.func118 tA1 rfl #[.string a0,.string (⟨#[95]⟩:ByteArray)] rfl tA9 ?_;(with_reducible refine(fC.calls k a0 (⟨#[95]⟩:ByteArray) false _ fG.o).mono ?_);rintro e w' ⟨rfl,⟨cg,rfl⟩⟩;refine⟨_,rfl,?_⟩))
  go_ret
  exact⟨tA6,tA8⟩
def fQ.f (a0:Int)(a1:Int)(a2:Int):Option (Bool):=if a0>=a1 then(some (decide (a0<=a2)))else(some false)
theorem fQ.calls (a0:Int)(a1:Int)(a2:Int)(r:Bool)(w:World)(h:fQ.f a0 a1 a2=some r):
  Calls Tryz.prog 113 #[.int .i64 a0,.int .i64 a1,.int .i64 a2] w fun e w'=>e= .returned (.bool r)/\aR w w':=by
 have H:(if a0>=a1 then(some (decide (a0<=a2)))else(some false))=some r:=h
 clear h
 by_cases aV:a0>=a1
 ·rw[if_pos aV]at H
  have fB:decide (a1<=a0)=true:=bn aV
  clear aV
  obtain rfl:=bo H
  go_enter Tryz.func113,Tryz.ntmps113
  go_wp2
  go_ret
  exact⟨tA6,tA8⟩
 ·rw[if_neg aV]at H
  have fB:decide (a1<=a0)=false:=cE aV
  clear aV
  obtain rfl:=bo H
  go_enter Tryz.func113,Tryz.ntmps113
  go_wp2
  go_ret
  exact⟨tA6,tA8⟩
end Go.Proofs.YtjgakaembhmhpaaGreatDoor.PA
