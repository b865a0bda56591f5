/- Part of the proof of SetsChanged: printed contracts, struck. It holds without further conditions. -/
import Derived.Test.YtjgakaembhmhpaaGreatDoorJAE
import Derived.Test.YtjgakaembhmhpaaGreatDoorJAH
set_option linter.unusedVariables false
set_option linter.unusedSimpArgs false
set_option maxHeartbeats 16000000
set_option maxRecDepth 100000
namespace Go.Proofs.YtjgakaembhmhpaaGreatDoor.PA
open Go.RowKit Go.Proofs.YtjgakaembhmhpaaGreatDoorW.PrintWords Go.Proofs.YtjgakaembhmhpaaGreatDoorW.PrintLast Go.Proofs.YtjgakaembhmhpaaGreatDoorW.PrintMore
open Go.Proofs.YtjgakaembhmhpaaGreatDoorM
attribute [local go_sem] str_leq str_gtr str_geq
attribute [local go_sem] max2_int min2_int max_two min_two max_three min_three max_four min_four
def cmp_isNaN_int.f (a0:Int):Option (Bool):=some (a0 !=a0)
def aku.f (a0:Int)(a1:Int):Option (Int):=(cmp_isNaN_int.f a0).bind fun asE=>((cmp_isNaN_int.f a1).bind fun adS=>(if asE=true then(if adS=true then(some 0)else(some (-1)))else(if adS=true then(some 1)else(if a0<a1 then(some (-1))else(if a0>a1 then(some 1)else(some 0))))))
def Vj.l0:Nat->List Int->List Int->List Int->Int->Int->Option (Int)
 | 0,_,_,_,_,_=>none
 | k+1,x0,x1,rM,Kc,rJ=>if rJ<Kc then(if 0<=rJ then(if rJ< (rM.length:Int)then(if rJ>=(x1.length:Int)then(some 1)else(if rJ< (x1.length:Int)then((aku.f (rd rM rJ) (rd x1 rJ)).bind fun adT=>(if adT=0 then(Vj.l0 k x0 x1 rM Kc (wrap64 (rJ+1)))else(some adT)))else(none)))else(none))else(none))else(if(x0.length:Int)< (x1.length:Int)then(some (-1))else(some 0))
def Vj.f (k:Nat)(l0:List Int)(l1:List Int):Option (Int):=Vj.l0 k l0 l1 l0 (l0.length:Int) 0
def pM.l0:Nat->List ByteArray->List (aq)->Int->Int->Int->List (ay)->Option (Int)
 | 0,_,_,_,_,_,_=>none
 | k+1,wY,rM,Kc,rJ,aeq,aer=>if rJ<Kc then(if 0<=rJ then(if rJ< (rM.length:Int)then(if wY.length<8796093022208 then(pM.l0 k (wY++[(aw rM rJ).f0]) rM Kc (wrap64 (rJ+1)) aeq aer)else(none))else(none))else(none))else((ln.f k aeq aer wY).bind fun N8=>(some N8))
def pM.f (k:Nat)(ag:List (aq))(ai:List (aj))(ew:Int)(cC:List (ay)):Option (Int):=pM.l0 k ([]:List ByteArray) ag (ag.length:Int) 0 ew cC
theorem pM.calls (k:Nat)(bP:Option Addr)(bh:Nat)(ag:List (aq))(aQ:Option Addr)(aG:Nat)(ai:List (aj))(ew:Int)(jb:Option Addr)(im:Nat)(cC:List (ay))(r:Int)(w:World)(kB:Kd.C cu w bP ag.length ag)(mn:ag.length<=bh)(h9:Kd.C bc w aQ ai.length ai)(iH:ai.length<=aG)(zY:Kd.C cf w jb cC.length cC)(zM:cC.length<=im)(h:pM.f k ag ai ew cC=some r):
  Calls Tryz.prog 16 #[.agg #[.slice bP ag.length bh,.slice aQ ai.length aG],.agg #[.int .i64 ew,.slice jb cC.length im]] w fun e w'=>e= .returned (.int .i64 r)/\Below w.heap.size w w':=by
 have TP:=Tryz.underlying29
 have Ci:=Tryz.underlying33
 have TQ:=Tryz.underlying77
 have iY:=ae kB
 have uC:=ae mn
 clear kB mn
 have iZ:=ae h9
 have nA:=ae iH
 clear h9 iH
 have zj:=ae zY
 have DZ:=ae zM
 clear zY zM
 have ak:=ae (Below.refl w.heap.size w)
 have H:(pM.l0 k ([]:List ByteArray) ag (ag.length:Int) 0 ew cC)=some r:=h
 clear h
 have bk:=ae H
 clear H
 go_enter Tryz.func16,Tryz.ntmps16
 go_wp2_with (first|((with_reducible refine c5 (N:=2) rfl ?_);refine dD ?hg (N:=2) ?hd (cs:=#[.slice bP ag.length bh,.slice aQ ai.length aG]) (t:=29) ?hr ?_;(case hd=>rfl);(case hg=>rfl);(case hr=>first|(go_simp;done)|(go_simp;rfl));intro sx hg w3 aU hb;have rU:=ae (aU);have atw:=ae (bC:w.heap.size<=sx);have att:=ae (bC:w.heap.size<=sx);replace ak:=ae (au aD hb);clear hb aU hg)|((with_reducible refine c5 (N:=3) rfl ?_);refine dD ?hg (N:=3) ?hd (cs:=#[.int .i64 ew,.slice jb cC.length im]) (t:=33) ?hr ?_;(case hd=>rfl);(case hg=>rfl);(case hr=>first|(go_simp;done)|(go_simp;rfl));intro tA hg w4 aU hb;have sY:=ae (aU);have atx:=ae (bC:w.heap.size<=tA);have atu:=ae (bC:w.heap.size<=tA);replace ak:=ae (au aD hb);have X0:=ae (fA:sx≠tA);have X1:=ae (fz:tA≠sx);replace rU:=ae (av (g:=sx) (o:= .cells #[.slice bP ag.length bh,.slice aQ ai.length aG] 29 (0,0)) cM hb);clear hb aU hg;have axy:=X0.o;have axW:=X1.o;have oP:w4.cell? ⟨sx,0,none⟩=some (.slice bP ag.length bh):=ah rU.o 0;have oQ:w4.cell? ⟨sx,1,none⟩=some (.slice aQ ai.length aG):=ah rU.o 1;have oT:=ar rU.o 0;have oU:=ar rU.o 1))
 go_loopg [5,11] k (fun cy v5 v11 w'=>∃(AH:List ByteArray) (kR:Int),v11= .int .i64 kR/\af (pM.l0 cy AH ag (ag.length:Int) kR ew cC=some r)/\af (cy<=k)/\af (Kd.R Kd.string 9 w' w.heap.size (fun _=>True) v5 AH)/\af (w'.heap[sx]?=some (.cells #[(.slice bP ag.length bh),(.slice aQ ai.length aG)] 29 (0,0)))/\af (w'.heap[tA]?=some (.cells #[.int .i64 ew,(.slice jb cC.length im)] 33 (0,0)))/\af (Below w.heap.size w w'))
 case atStart=>exact⟨(([]:List ByteArray)),(0),tA6,bk,⟨bl _⟩,⟨tD7⟩,⟨tE4⟩,⟨tEp⟩,⟨aD⟩⟩
 case round=>
  clear bk
  try clear oP;try clear oQ;try clear oT;try clear oU
  obtain⟨AH,kR,rfl,a7,dU,s8,rU,sY,ak⟩:=hrel
  cases gk with
  | zero=>exact absurd a7.o (by simp[pM.l0])
  | succ k1=>
   have H:=a7.o
   clear a7
   simp only[pM.l0]at H
   by_cases c7:kR< (ag.length:Int)
   ·rw[if_pos c7]at H
    have qh:=bn c7
    clear c7
    by_cases c8:0<=kR
    ·rw[if_pos c8]at H
     have ya:=bn c8
     clear c8
     by_cases c9:kR< (ag.length:Int)
     ·rw[if_pos c9]at H
      have wh:=bn c9
      clear c9
      by_cases c10:AH.length<8796093022208
      ·rw[if_pos c10]at H
       have aim:=ae c10
       clear c10
       obtain⟨aeD,Jp⟩:∃DN:List ByteArray,DN=(AH++[(aw ag kR).f0]):=⟨_,rfl⟩
       replace H:(pM.l0 k1 aeD ag (ag.length:Int) (wrap64 (kR+1)) ew cC)=some r:=by first|(rw[Jp];with_reducible exact H)|(have pP:=(Option.bind_some _ _).symm.trans H;rw[Jp];with_reducible exact pP)|(have pP:=(Option.bind_some _ _).symm.trans H;with_reducible exact pP)|with_reducible exact H|(rw[Jp];exact H)|exact H
       have aiJ:=ae Jp
       clear Jp
       have bk:=ae H
       clear H
       have UJ:0<=(kR:Int):=bg tA4
       have UX:kR< (ag.length:Int):=bg tA4
       obtain⟨Ym,akW,TW,TX,TY⟩:=fe iY.o kR UJ UX
       cases akW
       replace TW:=(ak.o.cell (b7 w _ TW)).trans TW
       replace TX:=(ak.o.cell (b7 w _ TX)).trans TX
       replace TY:=(ak.o.cell (b7 w _ TY)).trans TY
       replace UJ:=eq_true UJ
       replace UX:=eq_true UX
       go_wp2_with (first|((with_reducible refine c5 (N:=7) rfl ?_);refine dD ?hg (N:=7) ?hd (cs:=#[.string (⟨#[]⟩:ByteArray),.int .i64 0,.int .i64 0]) (t:=77) ?hr ?_;(case hd=>rfl);(case hg=>rfl);(case hr=>first|(go_simp;done)|(go_simp;rfl));intro sy hg gh aU hb;replace s8:=ae (Kd.oG tDc hb);have uk:=ae (aU);have aty:=ae (bC:w.heap.size<=sy);have atv:=ae (bC:w.heap.size<=sy);replace ak:=ae (au aD hb);have aiw:=ae (fA:sx≠sy);have aiy:=ae (fz:sy≠sx);replace rU:=ae (av (g:=sx) (o:= .cells #[.slice (some Ym) ag.length bh,.slice aQ ai.length aG] 29 (0,0)) cM hb);have aix:=ae (fA:tA≠sy);have aiz:=ae (fz:sy≠tA);replace sY:=ae (av (g:=tA) (o:= .cells #[.int .i64 ew,.slice jb cC.length im] 33 (0,0)) cM hb);clear hb aU hg;have anP:=aiy.o;have an0:=aiw.o;have axn:=aiz.o;have axL:=aix.o;have amu:gh.cell? ⟨sy,0,none⟩=some (.string (⟨#[]⟩:ByteArray)):=ah uk.o 0;have amv:gh.cell? ⟨sy,1,none⟩=some (.int .i64 0):=ah uk.o 1;have auA:gh.cell? ⟨sy,2,none⟩=some (.int .i64 0):=ah uk.o 2;have amY:=ar uk.o 0;have amZ:=ar uk.o 1;have avR:=ar uk.o 2)|((with_reducible refine ZP (b:= .append) (xs:=#[.tmp 15,.tmp 18]) rfl ?_);at_builtin;refine Kd.LC Kd.string (w0:=w) w.heap.size rfl (.tmp 15) (.tmp 18) 37 9 (.string ⟨#[]⟩) 16 rfl Tryz.underlying37 Jt rfl tA3 tA0 u5 AH ((aw ag kR).f0) [.string ((aw ag kR).f0)] (fun _=>True) (fun _=>False) rfl (by first|(go_simp;done)|(go_simp;rfl)) ?aP (fun _ hk=>hk.elim) ?aF ?aO ?aB ?aS ?aL ?_;(case aP=>exact rfl);(case aB=>exact aD);(case aF=>exact(fun _ _=>trivial));(case aO=>exact(by(with_reducible repeat(first|apply Kd.ko|apply Kd.jX|apply Kd.kp));exact Kd.pw (Kd.jN (p:=⟨sy,2,none⟩) (Kd.jN (p:=⟨sy,1,none⟩) (Kd.jN (p:=⟨sy,0,none⟩) (Kd.uT s8.o uk.o tA3) (fun _ hk=>hk.2) (.string ((aw ag kR).f0))) (fun _ hk=>hk.2) (.int .i64 ((aw ag kR).f1))) (fun _ hk=>hk.2) (.int .i64 ((aw ag kR).f2))) (fun _ hk=>trivial)));(case aS=>exact(EN aD));(case aL=>have:=aim.o;omega);intro ay2 pL ho hb hg hat;rw[<- aiJ.o]at ho;have JE:=ae (gf (g:=sx) (o:= .cells #[.slice (some Ym) ag.length bh,.slice aQ ai.length aG] 29 (0,0)) cM hg (Kd.Ey s8.o rU.o tA3));have JF:=ae (gf (g:=tA) (o:= .cells #[.int .i64 ew,.slice jb cC.length im] 33 (0,0)) cM hg (Kd.Ey s8.o sY.o tA3));have JG:=ae (gf (g:=sy) (o:= .cells #[.string ((aw ag kR).f0),.int .i64 ((aw ag kR).f1),.int .i64 ((aw ag kR).f2)] 77 (0,0)) (by(with_reducible repeat(first|refine bD ?_ _|refine bz ?_|refine aH ?_ _));refine a6 (cs:=#[.string ((aw ag kR).f0),.int .i64 ((aw ag kR).f1),.int .i64 0]) ?_ 2 _ rfl;(with_reducible repeat(first|refine bD ?_ _|refine bz ?_|refine aH ?_ _));refine a6 (cs:=#[.string ((aw ag kR).f0),.int .i64 0,.int .i64 0]) ?_ 1 _ rfl;(with_reducible repeat(first|refine bD ?_ _|refine bz ?_|refine aH ?_ _));refine a6 (cs:=#[.string (⟨#[]⟩:ByteArray),.int .i64 0,.int .i64 0]) ?_ 0 _ rfl;(with_reducible repeat(first|refine bD ?_ _|refine bz ?_|refine aH ?_ _));exact uk.o) hg (Kd.Ey s8.o uk.o tA3));have JH:=ae (hb);have acu:=ae (ho);clear rU;clear sY;clear uk;clear ak;clear s8;have rU:=JE;have sY:=JF;have uk:=JG;have ak:=JH;have ag8:=acu;clear JE JF JG JH acu;clear ho hb hg hat))
       go_roundg k1
       case measure=>have:=dU.o;omega
       case rel=>exact⟨(aeD),(wrap64 (kR+1)),tA6,bk,⟨tAm⟩,⟨by(with_reducible repeat(first|apply Kd.ko|apply Kd.jX|apply Kd.kp));exact ag8.o⟩,⟨tE4⟩,⟨tEp⟩,⟨aD⟩⟩
      ·rw[if_neg c10]at H
       exact absurd H tA2
     ·rw[if_neg c9]at H
      exact absurd H tA2
    ·rw[if_neg c8]at H
     exact absurd H tA2
   ·rw[if_neg c7]at H
    have qh:=cE c7
    clear c7
    replace H:=eL.mp H
    obtain⟨N8,VM,H⟩:=H
    replace H:(some N8)=some r:=H
    have aeL:=ae VM
    clear VM
    obtain rfl:=bo H
    have anQ:=X1.o
    have an1:=X0.o
    have amx:wr.cell? ⟨tA,0,none⟩=some (.int .i64 ew):=ah sY.o 0
    have amy:wr.cell? ⟨tA,1,none⟩=some (.slice jb cC.length im):=ah sY.o 1
    have am1:=ar sY.o 0
    have am2:=ar sY.o 1
    obtain⟨Ki,Md,ID⟩:=Kd.r9 s8.o
    subst ID
    go_wp2_with (first|((with_reducible refine cV (f:=50) rfl ?_);refine cW (some 23) rfl rfl Tryz.func50 tA1 rfl #[.agg #[.int .i64 ew,.slice jb cC.length im],.slice Ki AH.length Md] rfl tA9 ?_;(with_reducible refine(ln.calls k1 ew _ _ cC _ _ AH N8 _ ?side1 ?side2 ?side3 ?side4 aeL.o).mono ?_);(case side1=>repeat(first|exact(Kd.bN zj.o ak.o)|(with_reducible refine Kd.o5 ?_ _)|(with_reducible refine Kd.ot ?_ _)|(with_reducible refine Kd.oq ?_)));(case side2=>exact DZ.o);(case side3=>repeat(first|exact(Kd.jY s8.o).2.2|(with_reducible refine Kd.o5 ?_ _)|(with_reducible refine Kd.ot ?_ _)|(with_reducible refine Kd.oq ?_)));(case side4=>exact(Kd.jY s8.o).2.1);rintro e Gu ⟨rfl,hb⟩;refine⟨_,rfl,?_⟩;replace s8:=ae (Kd.oG tDc hb);replace rU:=ae (av (g:=sx) (o:= .cells #[.slice bP ag.length bh,.slice aQ ai.length aG] 29 (0,0)) cM hb);replace sY:=ae (av (g:=tA) (o:= .cells #[.int .i64 ew,.slice jb cC.length im] 33 (0,0)) cM hb);replace ak:=ae (au aD hb);(try clear hb);(try clear hi)))
    go_ret
    exact⟨tAa,aD⟩
def rI.l0:Nat->List Int->Int->Int->Option (Int)
 | 0,_,_,_=>none
 | k+1,wY,AJ,jx=>if jx<AJ then(if 0<=jx then(if jx< (wY.length:Int)then(if(rd wY jx)=0 then(rI.l0 k wY AJ (wrap64 (jx+1)))else(some (rd wY jx)))else(none))else(none))else(some 0)
def rI.f (k:Nat)(l0:List Int):Option (Int):=rI.l0 k l0 (l0.length:Int) 0
theorem rI.calls (k:Nat)(cU:Option Addr)(bf:Nat)(l0:List Int)(r:Int)(w:World)(dS:Kd.C (Kd.int .i64) w cU l0.length l0)(hc0:l0.length<=bf)(h:rI.f k l0=some r):
  Calls Tryz.prog 17 #[.slice cU l0.length bf] w fun e w'=>e= .returned (.int .i64 r)/\aR w w':=by
 have kj:=ae dS
 have xj:=ae hc0
 clear dS hc0
 have H:(rI.l0 k l0 (l0.length:Int) 0)=some r:=h
 clear h
 have bk:=ae H
 clear H
 go_enter Tryz.func17,Tryz.ntmps17
 go_wp2
 go_loopg [7] k (fun cy v7 w'=>∃(og:Int),v7= .int .i64 og/\af (rI.l0 cy l0 (l0.length:Int) og=some r)/\af (cy<=k)/\aR w w')
 case atStart=>exact⟨(0),tA6,bk,⟨bl _⟩,tA8⟩
 case round=>
  clear bk
  obtain⟨og,rfl,a7,dU,⟨m1,rfl⟩⟩:=hrel
  cases gk with
  | zero=>exact absurd a7.o (by simp[rI.l0])
  | succ k1=>
   have H:=a7.o
   clear a7
   simp only[rI.l0]at H
   by_cases bb:og< (l0.length:Int)
   ·rw[if_pos bb]at H
    have lI:=bn bb
    clear bb
    by_cases aM:0<=og
    ·rw[if_pos aM]at H
     have jE:=bn aM
     clear aM
     by_cases aV:og< (l0.length:Int)
     ·rw[if_pos aV]at H
      have fB:=bn aV
      clear aV
      by_cases bW:(rd l0 og)=0
      ·rw[if_pos bW]at H
       have nO:((rd l0 og)==0)=true:=beq_iff_eq.mpr bW
       have zF:((rd l0 og) !=0)=false:=bne_eq_false_iff_eq.mpr bW
       clear bW
       have bk:=ae H
       clear H
       have C5:0<=(og:Int):=bg tA4
       have Dm:og< (l0.length:Int):=bg tA4
       obtain⟨ajA,R2,aoM⟩:=Kd.uU kj.o og C5 Dm
       cases R2
       replace C5:=eq_true C5
       replace Dm:=eq_true Dm
       go_wp2
       go_roundg k1
       case measure=>have:=dU.o;omega
       case rel=>exact⟨(wrap64 (og+1)),tA6,bk,⟨tAm⟩,tA8⟩
      ·rw[if_neg bW]at H
       have nO:((rd l0 og)==0)=false:=ey.mpr bW
       have zF:((rd l0 og) !=0)=true:=bne_iff_ne.mpr bW
       obtain rfl:=bo H
       have C5:0<=(og:Int):=bg tA4
       have Dm:og< (l0.length:Int):=bg tA4
       obtain⟨ajA,R2,aoM⟩:=Kd.uU kj.o og C5 Dm
       cases R2
       replace C5:=eq_true C5
       replace Dm:=eq_true Dm
       go_wp2
       go_ret
       exact⟨tA6,tA8⟩
     ·rw[if_neg aV]at H
      exact absurd H tA2
    ·rw[if_neg aM]at H
     exact absurd H tA2
   ·rw[if_neg bb]at H
    have lI:=cE bb
    clear bb
    obtain rfl:=bo H
    go_wp2
    go_ret
    exact⟨tA6,tA8⟩
def Az.f (k:Nat)(a0:ByteArray):Option (Int):=(dA.f k a0).bind fun Gl=>(if Gl=true then(some 0)else(some 5))
theorem Az.calls (k:Nat)(a0:ByteArray)(r:Int)(w:World)(h:Az.f k a0=some r):
  Calls Tryz.prog 63 #[.string a0] w fun e w'=>e= .returned (.int .i64 r)/\Below w.heap.size w w':=by
 have ak:=ae (Below.refl w.heap.size w)
 have H:((dA.f k a0).bind fun Gl=>(if Gl=true then(some 0)else(some 5)))=some r:=h
 clear h
 replace H:=eL.mp H
 obtain⟨Gl,nv,H⟩:=H
 replace H:(if Gl=true then(some 0)else(some 5))=some r:=H
 have fG:=ae nv
 clear nv
 by_cases aM:Gl=true
 ·subst aM
  replace H:(some 0)=some r:=tAd
  obtain rfl:=bo H
  go_enter Tryz.func63,Tryz.ntmps63
  go_wp2_with (first|((with_reducible refine cV (f:=47) rfl ?_);refine cW (some 4) rfl rfl Tryz.func47 tA1 rfl #[.string a0] rfl tA9 ?_;(with_reducible refine(dA.calls k a0 true _ fG.o).mono ?_);rintro e w4 ⟨rfl,hb⟩;refine⟨_,rfl,?_⟩;replace ak:=ae (au aD hb);(try clear hb);(try clear hi)))
  go_ret
  exact⟨tAa,aD⟩
 ·replace aM:=ju.mpr aM
  subst aM
  replace H:(some 5)=some r:=tAe
  obtain rfl:=bo H
  go_enter Tryz.func63,Tryz.ntmps63
  go_wp2_with (first|((with_reducible refine cV (f:=47) rfl ?_);refine cW (some 4) rfl rfl Tryz.func47 tA1 rfl #[.string a0] rfl tA9 ?_;(with_reducible refine(dA.calls k a0 false _ fG.o).mono ?_);rintro e aZ ⟨rfl,hb⟩;refine⟨_,rfl,?_⟩;replace ak:=ae (au aD hb);(try clear hb);(try clear hi)))
  go_ret
  exact⟨tAa,aD⟩
def qH.l0:Nat->List Int->List Int->Int->Int->Option (Bool)
 | 0,_,_,_,_=>none
 | k+1,x0,x1,AE,jo=>if jo<AE then(if 0<=jo then(if jo< (x0.length:Int)then(if jo< (x1.length:Int)then(if(rd x0 jo)=(rd x1 jo)then(qH.l0 k x0 x1 AE (wrap64 (jo+1)))else(some false))else(none))else(none))else(none))else(some true)
def qH.f (k:Nat)(l0:List Int)(l1:List Int):Option (Bool):=if(l0.length:Int)=(l1.length:Int)then(qH.l0 k l0 l1 (l0.length:Int) 0)else(some false)
theorem qH.calls (k:Nat)(cU:Option Addr)(bf:Nat)(l0:List Int)(aN:Option Addr)(c1:Nat)(l1:List Int)(r:Bool)(w:World)(dS:Kd.C (Kd.int .i64) w cU l0.length l0)(hc0:l0.length<=bf)(hr1:Kd.C (Kd.int .i64) w aN l1.length l1)(hc1:l1.length<=c1)(h:qH.f k l0 l1=some r):
  Calls Tryz.prog 72 #[.slice cU l0.length bf,.slice aN l1.length c1] w fun e w'=>e= .returned (.bool r)/\aR w w':=by
 have kj:=ae dS
 have xj:=ae hc0
 clear dS hc0
 have fM:=ae hr1
 have jc:=ae hc1
 clear hr1 hc1
 have H:(if(l0.length:Int)=(l1.length:Int)then(qH.l0 k l0 l1 (l0.length:Int) 0)else(some false))=some r:=h
 clear h
 by_cases aM:(l0.length:Int)=(l1.length:Int)
 ·rw[if_pos aM]at H
  have jE:((l0.length:Int)==(l1.length:Int))=true:=beq_iff_eq.mpr aM
  have k6:((l0.length:Int) !=(l1.length:Int))=false:=bne_eq_false_iff_eq.mpr aM
  have x7:(l0.length==l1.length)=true:=tBa
  clear aM
  have bk:=ae H
  clear H
  go_enter Tryz.func72,Tryz.ntmps72
  go_wp2
  repeat(go_quiet (fail);try go_wp2)
  go_loopg [13] k (fun cy v13 w'=>∃(bY:Int),v13= .int .i64 bY/\af (qH.l0 cy l0 l1 (l0.length:Int) bY=some r)/\af (cy<=k)/\aR w w')
  case atStart=>exact⟨(0),tA6,bk,⟨bl _⟩,tA8⟩
  case round=>
   clear bk
   try clear c1;try clear aM;try clear jE;try clear k6;try clear x7
   obtain⟨bY,rfl,a7,dU,⟨m1,rfl⟩⟩:=hrel
   cases gk with
   | zero=>exact absurd a7.o (by simp[qH.l0])
   | succ k1=>
    have H:=a7.o
    clear a7
    simp only[qH.l0]at H
    by_cases aV:bY< (l0.length:Int)
    ·rw[if_pos aV]at H
     have fB:=bn aV
     clear aV
     by_cases bW:0<=bY
     ·rw[if_pos bW]at H
      have nO:=bn bW
      clear bW
      by_cases c6:bY< (l0.length:Int)
      ·rw[if_pos c6]at H
       have x9:=bn c6
       clear c6
       by_cases c7:bY< (l1.length:Int)
       ·rw[if_pos c7]at H
        have qh:=bn c7
        clear c7
        by_cases c8:(rd l0 bY)=(rd l1 bY)
        ·rw[if_pos c8]at H
         have ya:((rd l0 bY)==(rd l1 bY))=true:=beq_iff_eq.mpr c8
         have aj8:((rd l0 bY) !=(rd l1 bY))=false:=bne_eq_false_iff_eq.mpr c8
         clear c8
         have bk:=ae H
         clear H
         have C6:0<=(bY:Int):=bg tA4
         have Dn:bY< (l0.length:Int):=bg tA4
         obtain⟨ajB,R3,aoN⟩:=Kd.uU kj.o bY C6 Dn
         cases R3
         replace C6:=eq_true C6
         replace Dn:=eq_true Dn
         have C7:0<=(bY:Int):=bg tA4
         have Dp:bY< (l1.length:Int):=bg tA4
         obtain⟨ajC,R4,aoO⟩:=Kd.uU fM.o bY C7 Dp
         cases R4
         replace C7:=eq_true C7
         replace Dp:=eq_true Dp
         go_wp2
         repeat(go_quiet (fail);try go_wp2)
         go_roundg k1
         case measure=>have:=dU.o;omega
         case rel=>exact⟨(wrap64 (bY+1)),tA6,bk,⟨tAm⟩,tA8⟩
        ·rw[if_neg c8]at H
         have ya:((rd l0 bY)==(rd l1 bY))=false:=ey.mpr c8
         have aj8:((rd l0 bY) !=(rd l1 bY))=true:=bne_iff_ne.mpr c8
         obtain rfl:=bo H
         have C6:0<=(bY:Int):=bg tA4
         have Dn:bY< (l0.length:Int):=bg tA4
         obtain⟨ajB,R3,aoN⟩:=Kd.uU kj.o bY C6 Dn
         cases R3
         replace C6:=eq_true C6
         replace Dn:=eq_true Dn
         have C7:0<=(bY:Int):=bg tA4
         have Dp:bY< (l1.length:Int):=bg tA4
         obtain⟨ajC,R4,aoO⟩:=Kd.uU fM.o bY C7 Dp
         cases R4
         replace C7:=eq_true C7
         replace Dp:=eq_true Dp
         go_wp2
         repeat(go_quiet (fail);try go_wp2)
         go_ret
         exact⟨tA6,tA8⟩
       ·rw[if_neg c7]at H
        exact absurd H tA2
      ·rw[if_neg c6]at H
       exact absurd H tA2
     ·rw[if_neg bW]at H
      exact absurd H tA2
    ·rw[if_neg aV]at H
     have fB:=cE aV
     clear aV
     obtain rfl:=bo H
     go_wp2
     repeat(go_quiet (fail);try go_wp2)
     go_ret
     exact⟨tA6,tA8⟩
 ·rw[if_neg aM]at H
  have jE:((l0.length:Int)==(l1.length:Int))=false:=ey.mpr aM
  have k6:((l0.length:Int) !=(l1.length:Int))=true:=bne_iff_ne.mpr aM
  have x7:(l0.length==l1.length)=false:=tBa
  obtain rfl:=bo H
  go_enter Tryz.func72,Tryz.ntmps72
  go_wp2
  repeat(go_quiet (fail);try go_wp2)
  go_ret
  exact⟨tA6,tA8⟩
def Om.f (a0:Bool)(a1:Int):Option (Int):=if a0=true then(some a1)else(some 0)
theorem Om.calls (a0:Bool)(a1:Int)(r:Int)(w:World)(h:Om.f a0 a1=some r):
  Calls Tryz.prog 22 #[.bool a0,.int .i64 a1] w fun e w'=>e= .returned (.int .i64 r)/\aR w w':=by
 have H:(if a0=true then(some a1)else(some 0))=some r:=h
 clear h
 by_cases aM:a0=true
 ·subst aM
  replace H:(some a1)=some r:=tAd
  obtain rfl:=bo H
  go_enter Tryz.func22,Tryz.ntmps22
  go_wp2
  go_ret
  exact⟨tA6,tA8⟩
 ·replace aM:=ju.mpr aM
  subst aM
  replace H:(some 0)=some r:=tAe
  obtain rfl:=bo H
  go_enter Tryz.func22,Tryz.ntmps22
  go_wp2
  go_ret
  exact⟨tA6,tA8⟩
end Go.Proofs.YtjgakaembhmhpaaGreatDoor.PA
