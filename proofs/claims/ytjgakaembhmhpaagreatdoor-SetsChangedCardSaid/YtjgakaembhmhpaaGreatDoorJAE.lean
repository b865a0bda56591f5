/- Part of the proof of SetsChanged: printed contracts, struck. It holds without further conditions. -/
import Derived.Test.YtjgakaembhmhpaaGreatDoorJAD
set_option linter.unusedVariables false
set_option linter.unusedSimpArgs false
set_option maxHeartbeats 16000000
set_option maxRecDepth 100000
namespace Go.Proofs.YtjgakaembhmhpaaGreatDoor.PA
open Go.RowKit Go.Proofs.YtjgakaembhmhpaaGreatDoorW.PrintWords Go.Proofs.YtjgakaembhmhpaaGreatDoorW.PrintLast Go.Proofs.YtjgakaembhmhpaaGreatDoorW.PrintMore
open Go.Proofs.YtjgakaembhmhpaaGreatDoorM
attribute [local go_sem] str_leq str_gtr str_geq
attribute [local go_sem] max2_int min2_int max_two min_two max_three min_three max_four min_four
mutual
def eA.l0:Nat->List ByteArray->List (aq)->Int->Int->List (aq)->List (aj)->Option (Int)
 | 0,_,_,_,_,_,_=>none
 | k+1,x3,ua,ub,rL,vD,wX=>if rL<ub then(if 0<=rL then(if rL< (ua.length:Int)then((dA.f k ((aw ua rL).f0)).bind fun t256=>(if t256=true then((kF.f k x3 ((aw ua rL).f0)).bind fun t257=>(if t257=true then(some 6)else((fE.f ((aw ua rL).f1) (-1000000) 1000000).bind fun t258=>(if t258=true then((fE.f ((aw ua rL).f2) (-1000000) 1000000).bind fun t259=>(if t259=true then(if x3.length<8796093022208 then(eA.l0 k (x3++[(aw ua rL).f0]) ua ub (wrap64 (rL+1)) vD wX)else(none))else(some 1)))else(some 1)))))else(some 5)))else(none))else(none))else(if(wX.length:Int)>60 then(some 2)else(eA.l1 k x3 wX (wX.length:Int) 0 vD wX))
def eA.l1:Nat->List ByteArray->List (aj)->Int->Int->List (aq)->List (aj)->Option (Int)
 | 0,_,_,_,_,_,_=>none
 | k+1,x3,Ov,aet,Gz,vD,wX=>if Gz<aet then(if 0<=Gz then(if Gz< (Ov.length:Int)then((ln.f k ((bH Ov Gz).f0) ((bH Ov Gz).f1) x3).bind fun tU=>(if tU=0 then(eA.l1 k x3 Ov aet (wrap64 (Gz+1)) vD wX)else(some tU)))else(none))else(none))else(eA.l2 k 1 vD (vD.length:Int) 0 vD wX)
def eA.l2:Nat->Int->List (aq)->Int->Int->List (aq)->List (aj)->Option (Int)
 | 0,_,_,_,_,_,_=>none
 | k+1,rM,Ox,aev,GC,vD,wX=>if GC<aev then(if 0<=GC then(if GC< (Ox.length:Int)then(if((aw Ox GC).f1)>((aw Ox GC).f2)then(some 0)else(eA.l2 k rM Ox aev (wrap64 (GC+1)) vD wX))else(none))else(none))else(eA.l3 k rM vD (vD.length:Int) 0)
def eA.l3:Nat->Int->List (aq)->Int->Int->Option (Int)
 | 0,_,_,_,_=>none
 | k+1,rM,GF,aex,AL=>if AL<aex then(if 0<=AL then(if AL< (GF.length:Int)then(if(wrap64 (rM * (wrap64 ((wrap64 (((aw GF AL).f2)- ((aw GF AL).f1)))+1))))>200000 then(some 12)else(eA.l3 k (wrap64 (rM * (wrap64 ((wrap64 (((aw GF AL).f2)- ((aw GF AL).f1)))+1)))) GF aex (wrap64 (AL+1))))else(none))else(none))else(some 0)
end
def eA.f (k:Nat)(ag:List (aq))(ai:List (aj)):Option (Int):=if(ag.length:Int)>8 then(some 2)else(eA.l0 k ([]:List ByteArray) ag (ag.length:Int) 0 ag ai)
theorem eA.calls (k:Nat)(bP:Option Addr)(bh:Nat)(ag:List (aq))(aQ:Option Addr)(aG:Nat)(ai:List (aj))(r:Int)(w:World)(kB:Kd.C cu w bP ag.length ag)(mn:ag.length<=bh)(h9:Kd.C bc w aQ ai.length ai)(iH:ai.length<=aG)(h:eA.f k ag ai=some r):
  Calls Tryz.prog 11 #[.agg #[.slice bP ag.length bh,.slice aQ ai.length aG]] w fun e w'=>e= .returned (.int .i64 r)/\Below w.heap.size w w':=by
 have TP:=Tryz.underlying29
 have TQ:=Tryz.underlying77
 have Ci:=Tryz.underlying33
 have iY:=ae kB
 have uC:=ae mn
 clear kB mn
 have iZ:=ae h9
 have nA:=ae iH
 clear h9 iH
 have ak:=ae (Below.refl w.heap.size w)
 have H:(if(ag.length:Int)>8 then(some 2)else(eA.l0 k ([]:List ByteArray) ag (ag.length:Int) 0 ag ai))=some r:=h
 clear h
 by_cases bb:(ag.length:Int)>8
 ·rw[if_pos bb]at H
  have lI:decide (8< (ag.length:Int))=true:=bn bb
  have sf:decide (8<ag.length)=true:=bn tA0
  clear bb
  obtain rfl:=bo H
  go_enter Tryz.func11,Tryz.ntmps11
  go_wp2_with (first|((with_reducible refine c5 (N:=1) rfl ?_);refine dD ?hg (N:=1) ?hd (cs:=#[.slice bP ag.length bh,.slice aQ ai.length aG]) (t:=29) ?hr ?_;(case hd=>rfl);(case hg=>rfl);(case hr=>first|(go_simp;done)|(go_simp;rfl));intro dH hg w3 aU hb;have dW:=ae (aU);have afP:=ae (bC:w.heap.size<=dH);have afz:=ae (bC:w.heap.size<=dH);replace ak:=ae (au aD hb);clear hb aU hg;have amN:w3.cell? ⟨dH,0,none⟩=some (.slice bP ag.length bh):=ah dW.o 0;have amO:w3.cell? ⟨dH,1,none⟩=some (.slice aQ ai.length aG):=ah dW.o 1;have ani:=ar dW.o 0;have anj:=ar dW.o 1))
  go_ret
  exact⟨tAa,aD⟩
 ·rw[if_neg bb]at H
  have lI:decide (8< (ag.length:Int))=false:=cE bb
  have sf:decide (8<ag.length)=false:=cE tA0
  clear bb
  have bk:=ae H
  clear H
  go_enter Tryz.func11,Tryz.ntmps11
  go_wp2_with (first|((with_reducible refine c5 (N:=1) rfl ?_);refine dD ?hg (N:=1) ?hd (cs:=#[.slice bP ag.length bh,.slice aQ ai.length aG]) (t:=29) ?hr ?_;(case hd=>rfl);(case hg=>rfl);(case hr=>first|(go_simp;done)|(go_simp;rfl));intro dH hg aZ aU hb;have dW:=ae (aU);have afP:=ae (bC:w.heap.size<=dH);have afz:=ae (bC:w.heap.size<=dH);replace ak:=ae (au aD hb);clear hb aU hg;have oP:aZ.cell? ⟨dH,0,none⟩=some (.slice bP ag.length bh):=ah dW.o 0;have oQ:aZ.cell? ⟨dH,1,none⟩=some (.slice aQ ai.length aG):=ah dW.o 1;have oT:=ar dW.o 0;have oU:=ar dW.o 1))
  go_loopg [3,21] k (fun cy v3 v21 w'=>∃(dZ:List ByteArray) (bp:Int),v21= .int .i64 bp/\af (eA.l0 cy dZ ag (ag.length:Int) bp ag ai=some r)/\af (cy<=k)/\af (Kd.R Kd.string 9 w' w.heap.size (fun _=>True) v3 dZ)/\af (w'.heap[dH]?=some (.cells #[(.slice bP ag.length bh),(.slice aQ ai.length aG)] 29 (0,0)))/\af (Below w.heap.size w w'))
  case atStart=>exact⟨(([]:List ByteArray)),(0),tA6,bk,⟨bl _⟩,⟨tD7⟩,⟨tB9⟩,⟨aD⟩⟩
  case round=>
   clear bk
   try clear bb;try clear lI;try clear sf;try clear oP;try clear oQ;try clear oT;try clear oU
   obtain⟨dZ,bp,rfl,a7,dU,ei,dW,ak⟩:=hrel
   cases gk with
   | zero=>exact absurd a7.o (by simp[eA.l0])
   | succ k1=>
    have H:=a7.o
    clear a7
    simp only[eA.l0]at H
    by_cases c7:bp< (ag.length:Int)
    ·rw[if_pos c7]at H
     have qh:=bn c7
     clear c7
     by_cases c8:0<=bp
     ·rw[if_pos c8]at H
      have ya:=bn c8
      clear c8
      by_cases c9:bp< (ag.length:Int)
      ·rw[if_pos c9]at H
       have wh:=bn c9
       clear c9
       replace H:=eL.mp H
       obtain⟨t256,yU,H⟩:=H
       replace H:(if t256=true then((kF.f k1 dZ ((aw ag bp).f0)).bind fun t257=>(if t257=true then(some 6)else((fE.f ((aw ag bp).f1) (-1000000) 1000000).bind fun t258=>(if t258=true then((fE.f ((aw ag bp).f2) (-1000000) 1000000).bind fun t259=>(if t259=true then(if dZ.length<8796093022208 then(eA.l0 k1 (dZ++[(aw ag bp).f0]) ag (ag.length:Int) (wrap64 (bp+1)) ag ai)else(none))else(some 1)))else(some 1)))))else(some 5))=some r:=H
       have mz:=ae yU
       clear yU
       by_cases c11:t256=true
       ·subst c11
        replace H:((kF.f k1 dZ ((aw ag bp).f0)).bind fun t257=>(if t257=true then(some 6)else((fE.f ((aw ag bp).f1) (-1000000) 1000000).bind fun t258=>(if t258=true then((fE.f ((aw ag bp).f2) (-1000000) 1000000).bind fun t259=>(if t259=true then(if dZ.length<8796093022208 then(eA.l0 k1 (dZ++[(aw ag bp).f0]) ag (ag.length:Int) (wrap64 (bp+1)) ag ai)else(none))else(some 1)))else(some 1)))))=some r:=tAd
        replace H:=eL.mp H
        obtain⟨t257,om,H⟩:=H
        replace H:(if t257=true then(some 6)else((fE.f ((aw ag bp).f1) (-1000000) 1000000).bind fun t258=>(if t258=true then((fE.f ((aw ag bp).f2) (-1000000) 1000000).bind fun t259=>(if t259=true then(if dZ.length<8796093022208 then(eA.l0 k1 (dZ++[(aw ag bp).f0]) ag (ag.length:Int) (wrap64 (bp+1)) ag ai)else(none))else(some 1)))else(some 1))))=some r:=H
        have ke:=ae om
        clear om
        by_cases c13:t257=true
        ·subst c13
         replace H:(some 6)=some r:=tAd
         obtain rfl:=bo H
         have nb:0<=(bp:Int):=bg tA4
         have nd:bp< (ag.length:Int):=bg tA4
         obtain⟨qa,yc,mN,mO,mP⟩:=fe iY.o bp nb nd
         cases yc
         replace mN:=(ak.o.cell (b7 w _ mN)).trans mN
         replace mO:=(ak.o.cell (b7 w _ mO)).trans mO
         replace mP:=(ak.o.cell (b7 w _ mP)).trans mP
         replace nb:=eq_true nb
         replace nd:=eq_true nd
         go_wp2_with (first|((with_reducible refine c5 (N:=5) rfl ?_);refine dD ?hg (N:=5) ?hd (cs:=#[.string (⟨#[]⟩:ByteArray),.int .i64 0,.int .i64 0]) (t:=77) ?hr ?_;(case hd=>rfl);(case hg=>rfl);(case hr=>first|(go_simp;done)|(go_simp;rfl));intro cR hg rH aU hb;replace ei:=ae (Kd.oG tAt hb);have cK:=ae (aU);have Kr:=ae (bC:w.heap.size<=cR);have Kp:=ae (bC:w.heap.size<=cR);replace ak:=ae (au aD hb);have xN:=ae (fA:dH≠cR);have xO:=ae (fz:cR≠dH);replace dW:=ae (av (g:=dH) (o:= .cells #[.slice (some qa) ag.length bh,.slice aQ ai.length aG] 29 (0,0)) cM hb);clear hb aU hg;have abk:=xO.o;have abm:=xN.o;have aal:rH.cell? ⟨cR,0,none⟩=some (.string (⟨#[]⟩:ByteArray)):=ah cK.o 0;have aam:rH.cell? ⟨cR,1,none⟩=some (.int .i64 0):=ah cK.o 1;have amw:rH.cell? ⟨cR,2,none⟩=some (.int .i64 0):=ah cK.o 2;have aaG:=ar cK.o 0;have aaH:=ar cK.o 1;have am0:=ar cK.o 2)|((with_reducible refine cV (f:=47) rfl ?_);refine cW (some 28) rfl rfl Tryz.func47 tA1 rfl #[.string ((aw ag bp).f0)] rfl tA9 ?_;(with_reducible refine(dA.calls k1 ((aw ag bp).f0) true _ mz.o).mono ?_);rintro e DF ⟨rfl,hb⟩;refine⟨_,rfl,?_⟩;replace ei:=ae (Kd.oG tBe hb);replace dW:=ae (av (g:=dH) (o:= .cells #[.slice (some qa) ag.length bh,.slice aQ ai.length aG] 29 (0,0)) cM hb);replace cK:=ae (av (g:=cR) (o:= .cells #[.string ((aw ag bp).f0),.int .i64 ((aw ag bp).f1),.int .i64 ((aw ag bp).f2)] 77 (0,0)) tBf hb);replace ak:=ae (au aD hb);(try clear hb);(try clear hk);have amx:DF.cell? ⟨cR,0,none⟩=some (.string ((aw ag bp).f0)):=ah cK.o 0;have amy:DF.cell? ⟨cR,1,none⟩=some (.int .i64 ((aw ag bp).f1)):=ah cK.o 1;have auB:DF.cell? ⟨cR,2,none⟩=some (.int .i64 ((aw ag bp).f2)):=ah cK.o 2;have am1:=ar cK.o 0;have am2:=ar cK.o 1;have avS:=ar cK.o 2;obtain⟨Ki,Md,ID⟩:=Kd.r9 ei.o;subst ID)|((with_reducible refine cV (f:=48) rfl ?_);refine cW (some 34) rfl rfl Tryz.func48 tA1 rfl #[.slice Ki dZ.length Md,.string ((aw ag bp).f0)] rfl tA9 ?_;(with_reducible refine(kF.calls k1 _ _ dZ ((aw ag bp).f0) true _ ?side1 ?side2 ke.o).mono ?_);(case side1=>repeat(first|exact(Kd.jY ei.o).2.2|(with_reducible refine Kd.o5 ?_ _)|(with_reducible refine Kd.ot ?_ _)|(with_reducible refine Kd.oq ?_)));(case side2=>exact(Kd.jY ei.o).2.1);rintro e w' ⟨rfl,⟨cg,rfl⟩⟩;refine⟨_,rfl,?_⟩))
         go_ret
         exact⟨tAa,aD⟩
        ·replace c13:=ju.mpr c13
         subst c13
         replace H:((fE.f ((aw ag bp).f1) (-1000000) 1000000).bind fun t258=>(if t258=true then((fE.f ((aw ag bp).f2) (-1000000) 1000000).bind fun t259=>(if t259=true then(if dZ.length<8796093022208 then(eA.l0 k1 (dZ++[(aw ag bp).f0]) ag (ag.length:Int) (wrap64 (bp+1)) ag ai)else(none))else(some 1)))else(some 1)))=some r:=tAe
         replace H:=eL.mp H
         obtain⟨t258,GI,H⟩:=H
         replace H:(if t258=true then((fE.f ((aw ag bp).f2) (-1000000) 1000000).bind fun t259=>(if t259=true then(if dZ.length<8796093022208 then(eA.l0 k1 (dZ++[(aw ag bp).f0]) ag (ag.length:Int) (wrap64 (bp+1)) ag ai)else(none))else(some 1)))else(some 1))=some r:=H
         have nv:=ae GI
         clear GI
         by_cases nN:t258=true
         ·subst nN
          replace H:((fE.f ((aw ag bp).f2) (-1000000) 1000000).bind fun t259=>(if t259=true then(if dZ.length<8796093022208 then(eA.l0 k1 (dZ++[(aw ag bp).f0]) ag (ag.length:Int) (wrap64 (bp+1)) ag ai)else(none))else(some 1)))=some r:=tAd
          replace H:=eL.mp H
          obtain⟨t259,GK,H⟩:=H
          replace H:(if t259=true then(if dZ.length<8796093022208 then(eA.l0 k1 (dZ++[(aw ag bp).f0]) ag (ag.length:Int) (wrap64 (bp+1)) ag ai)else(none))else(some 1))=some r:=H
          have Kg:=ae GK
          clear GK
          by_cases x4:t259=true
          ·subst x4
           replace H:(if dZ.length<8796093022208 then(eA.l0 k1 (dZ++[(aw ag bp).f0]) ag (ag.length:Int) (wrap64 (bp+1)) ag ai)else(none))=some r:=tAd
           by_cases x5:dZ.length<8796093022208
           ·rw[if_pos x5]at H
            have ain:=ae x5
            clear x5
            obtain⟨aeC,Jo⟩:∃DN:List ByteArray,DN=(dZ++[(aw ag bp).f0]):=⟨_,rfl⟩
            replace H:(eA.l0 k1 aeC ag (ag.length:Int) (wrap64 (bp+1)) ag ai)=some r:=by first|(rw[Jo];with_reducible exact H)|(have pP:=(Option.bind_some _ _).symm.trans H;rw[Jo];with_reducible exact pP)|(have pP:=(Option.bind_some _ _).symm.trans H;with_reducible exact pP)|with_reducible exact H|(rw[Jo];exact H)|exact H
            have aiI:=ae Jo
            clear Jo
            have bk:=ae H
            clear H
            have nb:0<=(bp:Int):=bg tA4
            have nd:bp< (ag.length:Int):=bg tA4
            obtain⟨qa,yc,mN,mO,mP⟩:=fe iY.o bp nb nd
            cases yc
            replace mN:=(ak.o.cell (b7 w _ mN)).trans mN
            replace mO:=(ak.o.cell (b7 w _ mO)).trans mO
            replace mP:=(ak.o.cell (b7 w _ mP)).trans mP
            replace nb:=eq_true nb
            replace nd:=eq_true nd
            go_wp2_with (first|((with_reducible refine c5 (N:=5) rfl ?_);refine dD ?hg (N:=5) ?hd (cs:=#[.string (⟨#[]⟩:ByteArray),.int .i64 0,.int .i64 0]) (t:=77) ?hr ?_;(case hd=>rfl);(case hg=>rfl);(case hr=>first|(go_simp;done)|(go_simp;rfl));intro cR hg Vs aU hb;replace ei:=ae (Kd.oG tAt hb);have cK:=ae (aU);have Kr:=ae (bC:w.heap.size<=cR);have Kp:=ae (bC:w.heap.size<=cR);replace ak:=ae (au aD hb);have xN:=ae (fA:dH≠cR);have xO:=ae (fz:cR≠dH);replace dW:=ae (av (g:=dH) (o:= .cells #[.slice (some qa) ag.length bh,.slice aQ ai.length aG] 29 (0,0)) cM hb);clear hb aU hg;have axs:=xO.o;have axQ:=xN.o;have auL:Vs.cell? ⟨cR,0,none⟩=some (.string (⟨#[]⟩:ByteArray)):=ah cK.o 0;have auM:Vs.cell? ⟨cR,1,none⟩=some (.int .i64 0):=ah cK.o 1;have auN:Vs.cell? ⟨cR,2,none⟩=some (.int .i64 0):=ah cK.o 2;have av2:=ar cK.o 0;have av3:=ar cK.o 1;have av4:=ar cK.o 2)|((with_reducible refine cV (f:=47) rfl ?_);refine cW (some 28) rfl rfl Tryz.func47 tA1 rfl #[.string ((aw ag bp).f0)] rfl tA9 ?_;(with_reducible refine(dA.calls k1 ((aw ag bp).f0) true _ mz.o).mono ?_);rintro e Oi ⟨rfl,hb⟩;refine⟨_,rfl,?_⟩;replace ei:=ae (Kd.oG tBe hb);replace dW:=ae (av (g:=dH) (o:= .cells #[.slice (some qa) ag.length bh,.slice aQ ai.length aG] 29 (0,0)) cM hb);replace cK:=ae (av (g:=cR) (o:= .cells #[.string ((aw ag bp).f0),.int .i64 ((aw ag bp).f1),.int .i64 ((aw ag bp).f2)] 77 (0,0)) tBf hb);replace ak:=ae (au aD hb);(try clear hb);(try clear hk);have auP:Oi.cell? ⟨cR,0,none⟩=some (.string ((aw ag bp).f0)):=ah cK.o 0;have auQ:Oi.cell? ⟨cR,1,none⟩=some (.int .i64 ((aw ag bp).f1)):=ah cK.o 1;have auR:Oi.cell? ⟨cR,2,none⟩=some (.int .i64 ((aw ag bp).f2)):=ah cK.o 2;have av6:=ar cK.o 0;have av7:=ar cK.o 1;have av8:=ar cK.o 2;obtain⟨VY,YV,alh⟩:=Kd.r9 ei.o;subst alh)|((with_reducible refine cV (f:=48) rfl ?_);refine cW (some 34) rfl rfl Tryz.func48 tA1 rfl #[.slice VY dZ.length YV,.string ((aw ag bp).f0)] rfl tA9 ?_;(with_reducible refine(kF.calls k1 _ _ dZ ((aw ag bp).f0) false _ ?side1 ?side2 ke.o).mono ?_);(case side1=>repeat(first|exact(Kd.jY ei.o).2.2|(with_reducible refine Kd.o5 ?_ _)|(with_reducible refine Kd.ot ?_ _)|(with_reducible refine Kd.oq ?_)));(case side2=>exact(Kd.jY ei.o).2.1);rintro e w' ⟨rfl,⟨cg,rfl⟩⟩;refine⟨_,rfl,?_⟩)|((with_reducible refine cV (f:=49) rfl ?_);refine cW (some 38) rfl rfl Tryz.func49 tA1 rfl #[.int .i64 ((aw ag bp).f1),.int .i64 (-1000000),.int .i64 1000000] rfl tA9 ?_;(with_reducible refine(fE.calls ((aw ag bp).f1) (-1000000) 1000000 true _ nv.o).mono ?_);rintro e w' ⟨rfl,⟨cg,rfl⟩⟩;refine⟨_,rfl,?_⟩)|(go_at_call 49;(with_reducible refine(fE.calls ((aw ag bp).f2) (-1000000) 1000000 true _ Kg.o).mono ?_);rintro e w' ⟨rfl,⟨cg,rfl⟩⟩)|((with_reducible refine ZP (b:= .append) (xs:=#[.tmp 46,.tmp 49]) rfl ?_);at_builtin;refine Kd.LC Kd.string (w0:=w) w.heap.size rfl (.tmp 46) (.tmp 49) 37 9 (.string ⟨#[]⟩) 16 rfl Tryz.underlying37 Jt rfl tA3 tA0 (.slice VY dZ.length YV) dZ ((aw ag bp).f0) [.string ((aw ag bp).f0)] (fun _=>True) (fun _=>False) rfl rfl ?aP (fun _ hk=>hk.elim) ?aF ?aO ?aB ?aS ?aL ?_;(case aP=>exact rfl);(case aB=>exact aD);(case aF=>exact(fun _ _=>trivial));(case aO=>exact tAt);(case aS=>exact(EN aD));(case aL=>have:=ain.o;omega);intro ayZ Gw ho hb hg hat;rw[<- aiI.o]at ho;have JE:=ae (gf (g:=dH) (o:= .cells #[.slice (some qa) ag.length bh,.slice aQ ai.length aG] 29 (0,0)) cM hg (Kd.Ey ei.o dW.o tA3));have JF:=ae (gf (g:=cR) (o:= .cells #[.string ((aw ag bp).f0),.int .i64 ((aw ag bp).f1),.int .i64 ((aw ag bp).f2)] 77 (0,0)) cM hg (Kd.Ey ei.o cK.o tA3));have JG:=ae (hb);have JH:=ae (ho);clear dW;clear cK;clear ak;clear ei;have dW:=JE;have cK:=JF;have ak:=JG;have ag7:=JH;clear JE JF JG JH;clear ho hb hg hat))
            go_roundg k1
            case measure=>have:=dU.o;omega
            case rel=>exact⟨(aeC),(wrap64 (bp+1)),tA6,bk,⟨tAm⟩,⟨by(with_reducible repeat(first|apply Kd.ko|apply Kd.jX|apply Kd.kp));exact ag7.o⟩,⟨tB9⟩,⟨aD⟩⟩
           ·rw[if_neg x5]at H
            exact absurd H tA2
          ·replace x4:=ju.mpr x4
           subst x4
           replace H:(some 1)=some r:=tAe
           obtain rfl:=bo H
           have nb:0<=(bp:Int):=bg tA4
           have nd:bp< (ag.length:Int):=bg tA4
           obtain⟨qa,yc,mN,mO,mP⟩:=fe iY.o bp nb nd
           cases yc
           replace mN:=(ak.o.cell (b7 w _ mN)).trans mN
           replace mO:=(ak.o.cell (b7 w _ mO)).trans mO
           replace mP:=(ak.o.cell (b7 w _ mP)).trans mP
           replace nb:=eq_true nb
           replace nd:=eq_true nd
           go_wp2_with (first|((with_reducible refine c5 (N:=5) rfl ?_);refine dD ?hg (N:=5) ?hd (cs:=#[.string (⟨#[]⟩:ByteArray),.int .i64 0,.int .i64 0]) (t:=77) ?hr ?_;(case hd=>rfl);(case hg=>rfl);(case hr=>first|(go_simp;done)|(go_simp;rfl));intro cR hg Vt aU hb;replace ei:=ae (Kd.oG tAt hb);have cK:=ae (aU);have Kr:=ae (bC:w.heap.size<=cR);have Kp:=ae (bC:w.heap.size<=cR);replace ak:=ae (au aD hb);have xN:=ae (fA:dH≠cR);have xO:=ae (fz:cR≠dH);replace dW:=ae (av (g:=dH) (o:= .cells #[.slice (some qa) ag.length bh,.slice aQ ai.length aG] 29 (0,0)) cM hb);clear hb aU hg;have anX:=xO.o;have an8:=xN.o;have aar:Vt.cell? ⟨cR,0,none⟩=some (.string (⟨#[]⟩:ByteArray)):=ah cK.o 0;have aas:Vt.cell? ⟨cR,1,none⟩=some (.int .i64 0):=ah cK.o 1;have amJ:Vt.cell? ⟨cR,2,none⟩=some (.int .i64 0):=ah cK.o 2;have aaM:=ar cK.o 0;have aaN:=ar cK.o 1;have ane:=ar cK.o 2)|((with_reducible refine cV (f:=47) rfl ?_);refine cW (some 28) rfl rfl Tryz.func47 tA1 rfl #[.string ((aw ag bp).f0)] rfl tA9 ?_;(with_reducible refine(dA.calls k1 ((aw ag bp).f0) true _ mz.o).mono ?_);rintro e nr ⟨rfl,hb⟩;refine⟨_,rfl,?_⟩;replace ei:=ae (Kd.oG tBe hb);replace dW:=ae (av (g:=dH) (o:= .cells #[.slice (some qa) ag.length bh,.slice aQ ai.length aG] 29 (0,0)) cM hb);replace cK:=ae (av (g:=cR) (o:= .cells #[.string ((aw ag bp).f0),.int .i64 ((aw ag bp).f1),.int .i64 ((aw ag bp).f2)] 77 (0,0)) tBf hb);replace ak:=ae (au aD hb);(try clear hb);(try clear hk);have amK:nr.cell? ⟨cR,0,none⟩=some (.string ((aw ag bp).f0)):=ah cK.o 0;have amL:nr.cell? ⟨cR,1,none⟩=some (.int .i64 ((aw ag bp).f1)):=ah cK.o 1;have auX:nr.cell? ⟨cR,2,none⟩=some (.int .i64 ((aw ag bp).f2)):=ah cK.o 2;have anf:=ar cK.o 0;have ang:=ar cK.o 1;have awe:=ar cK.o 2;obtain⟨aeV,akw,ali⟩:=Kd.r9 ei.o;subst ali)|((with_reducible refine cV (f:=48) rfl ?_);refine cW (some 34) rfl rfl Tryz.func48 tA1 rfl #[.slice aeV dZ.length akw,.string ((aw ag bp).f0)] rfl tA9 ?_;(with_reducible refine(kF.calls k1 _ _ dZ ((aw ag bp).f0) false _ ?side1 ?side2 ke.o).mono ?_);(case side1=>repeat(first|exact(Kd.jY ei.o).2.2|(with_reducible refine Kd.o5 ?_ _)|(with_reducible refine Kd.ot ?_ _)|(with_reducible refine Kd.oq ?_)));(case side2=>exact(Kd.jY ei.o).2.1);rintro e w' ⟨rfl,⟨cg,rfl⟩⟩;refine⟨_,rfl,?_⟩)|((with_reducible refine cV (f:=49) rfl ?_);refine cW (some 38) rfl rfl Tryz.func49 tA1 rfl #[.int .i64 ((aw ag bp).f1),.int .i64 (-1000000),.int .i64 1000000] rfl tA9 ?_;(with_reducible refine(fE.calls ((aw ag bp).f1) (-1000000) 1000000 true _ nv.o).mono ?_);rintro e w' ⟨rfl,⟨cg,rfl⟩⟩;refine⟨_,rfl,?_⟩)|(go_at_call 49;(with_reducible refine(fE.calls ((aw ag bp).f2) (-1000000) 1000000 false _ Kg.o).mono ?_);rintro e w' ⟨rfl,⟨cg,rfl⟩⟩))
           go_ret
           exact⟨tAa,aD⟩
         ·replace nN:=ju.mpr nN
          subst nN
          replace H:(some 1)=some r:=tAe
          obtain rfl:=bo H
          have nb:0<=(bp:Int):=bg tA4
          have nd:bp< (ag.length:Int):=bg tA4
          obtain⟨qa,yc,mN,mO,mP⟩:=fe iY.o bp nb nd
          cases yc
          replace mN:=(ak.o.cell (b7 w _ mN)).trans mN
          replace mO:=(ak.o.cell (b7 w _ mO)).trans mO
          replace mP:=(ak.o.cell (b7 w _ mP)).trans mP
          replace nb:=eq_true nb
          replace nd:=eq_true nd
          go_wp2_with (first|((with_reducible refine c5 (N:=5) rfl ?_);refine dD ?hg (N:=5) ?hd (cs:=#[.string (⟨#[]⟩:ByteArray),.int .i64 0,.int .i64 0]) (t:=77) ?hr ?_;(case hd=>rfl);(case hg=>rfl);(case hr=>first|(go_simp;done)|(go_simp;rfl));intro cR hg Vv aU hb;replace ei:=ae (Kd.oG tAt hb);have cK:=ae (aU);have Kr:=ae (bC:w.heap.size<=cR);have Kp:=ae (bC:w.heap.size<=cR);replace ak:=ae (au aD hb);have xN:=ae (fA:dH≠cR);have xO:=ae (fz:cR≠dH);replace dW:=ae (av (g:=dH) (o:= .cells #[.slice (some qa) ag.length bh,.slice aQ ai.length aG] 29 (0,0)) cM hb);clear hb aU hg;have axv:=xO.o;have axT:=xN.o;have MB:Vv.cell? ⟨cR,0,none⟩=some (.string (⟨#[]⟩:ByteArray)):=ah cK.o 0;have MC:Vv.cell? ⟨cR,1,none⟩=some (.int .i64 0):=ah cK.o 1;have amM:Vv.cell? ⟨cR,2,none⟩=some (.int .i64 0):=ah cK.o 2;have ML:=ar cK.o 0;have MM:=ar cK.o 1;have anh:=ar cK.o 2)|((with_reducible refine cV (f:=47) rfl ?_);refine cW (some 28) rfl rfl Tryz.func47 tA1 rfl #[.string ((aw ag bp).f0)] rfl tA9 ?_;(with_reducible refine(dA.calls k1 ((aw ag bp).f0) true _ mz.o).mono ?_);rintro e DG ⟨rfl,hb⟩;refine⟨_,rfl,?_⟩;replace ei:=ae (Kd.oG tBe hb);replace dW:=ae (av (g:=dH) (o:= .cells #[.slice (some qa) ag.length bh,.slice aQ ai.length aG] 29 (0,0)) cM hb);replace cK:=ae (av (g:=cR) (o:= .cells #[.string ((aw ag bp).f0),.int .i64 ((aw ag bp).f1),.int .i64 ((aw ag bp).f2)] 77 (0,0)) tBf hb);replace ak:=ae (au aD hb);(try clear hb);(try clear hk);have au1:DG.cell? ⟨cR,0,none⟩=some (.string ((aw ag bp).f0)):=ah cK.o 0;have au2:DG.cell? ⟨cR,1,none⟩=some (.int .i64 ((aw ag bp).f1)):=ah cK.o 1;have au3:DG.cell? ⟨cR,2,none⟩=some (.int .i64 ((aw ag bp).f2)):=ah cK.o 2;have awi:=ar cK.o 0;have awj:=ar cK.o 1;have awk:=ar cK.o 2;obtain⟨aeW,akx,alj⟩:=Kd.r9 ei.o;subst alj)|((with_reducible refine cV (f:=48) rfl ?_);refine cW (some 34) rfl rfl Tryz.func48 tA1 rfl #[.slice aeW dZ.length akx,.string ((aw ag bp).f0)] rfl tA9 ?_;(with_reducible refine(kF.calls k1 _ _ dZ ((aw ag bp).f0) false _ ?side1 ?side2 ke.o).mono ?_);(case side1=>repeat(first|exact(Kd.jY ei.o).2.2|(with_reducible refine Kd.o5 ?_ _)|(with_reducible refine Kd.ot ?_ _)|(with_reducible refine Kd.oq ?_)));(case side2=>exact(Kd.jY ei.o).2.1);rintro e w' ⟨rfl,⟨cg,rfl⟩⟩;refine⟨_,rfl,?_⟩)|((with_reducible refine cV (f:=49) rfl ?_);refine cW (some 38) rfl rfl Tryz.func49 tA1 rfl #[.int .i64 ((aw ag bp).f1),.int .i64 (-1000000),.int .i64 1000000] rfl tA9 ?_;(with_reducible refine(fE.calls ((aw ag bp).f1) (-1000000) 1000000 false _ nv.o).mono ?_);rintro e w' ⟨rfl,⟨cg,rfl⟩⟩;refine⟨_,rfl,?_⟩))
          go_ret
          exact⟨tAa,aD⟩
       ·replace c11:=ju.mpr c11
        subst c11
        replace H:(some 5)=some r:=tAe
        obtain rfl:=bo H
        have nb:0<=(bp:Int):=bg tA4
        have nd:bp< (ag.length:Int):=bg tA4
        obtain⟨qa,yc,mN,mO,mP⟩:=fe iY.o bp nb nd
        cases yc
        replace mN:=(ak.o.cell (b7 w _ mN)).trans mN
        replace mO:=(ak.o.cell (b7 w _ mO)).trans mO
        replace mP:=(ak.o.cell (b7 w _ mP)).trans mP
        replace nb:=eq_true nb
        replace nd:=eq_true nd
        go_wp2_with (first|((with_reducible refine c5 (N:=5) rfl ?_);refine dD ?hg (N:=5) ?hd (cs:=#[.string (⟨#[]⟩:ByteArray),.int .i64 0,.int .i64 0]) (t:=77) ?hr ?_;(case hd=>rfl);(case hg=>rfl);(case hr=>first|(go_simp;done)|(go_simp;rfl));intro cR hg Vw aU hb;replace ei:=ae (Kd.oG tAt hb);have cK:=ae (aU);have Kr:=ae (bC:w.heap.size<=cR);have Kp:=ae (bC:w.heap.size<=cR);replace ak:=ae (au aD hb);have xN:=ae (fA:dH≠cR);have xO:=ae (fz:cR≠dH);replace dW:=ae (av (g:=dH) (o:= .cells #[.slice (some qa) ag.length bh,.slice aQ ai.length aG] 29 (0,0)) cM hb);clear hb aU hg;have axx:=xO.o;have axV:=xN.o;have MD:Vw.cell? ⟨cR,0,none⟩=some (.string (⟨#[]⟩:ByteArray)):=ah cK.o 0;have ME:Vw.cell? ⟨cR,1,none⟩=some (.int .i64 0):=ah cK.o 1;have au9:Vw.cell? ⟨cR,2,none⟩=some (.int .i64 0):=ah cK.o 2;have MN:=ar cK.o 0;have MO:=ar cK.o 1;have awq:=ar cK.o 2)|((with_reducible refine cV (f:=47) rfl ?_);refine cW (some 28) rfl rfl Tryz.func47 tA1 rfl #[.string ((aw ag bp).f0)] rfl tA9 ?_;(with_reducible refine(dA.calls k1 ((aw ag bp).f0) false _ mz.o).mono ?_);rintro e azd ⟨rfl,hb⟩;refine⟨_,rfl,?_⟩;replace ei:=ae (Kd.oG tBe hb);replace dW:=ae (av (g:=dH) (o:= .cells #[.slice (some qa) ag.length bh,.slice aQ ai.length aG] 29 (0,0)) cM hb);replace cK:=ae (av (g:=cR) (o:= .cells #[.string ((aw ag bp).f0),.int .i64 ((aw ag bp).f1),.int .i64 ((aw ag bp).f2)] 77 (0,0)) tBf hb);replace ak:=ae (au aD hb);(try clear hb);(try clear hk);(try clear hi)))
        go_ret
        exact⟨tAa,aD⟩
      ·rw[if_neg c9]at H
       exact absurd H tA2
     ·rw[if_neg c8]at H
      exact absurd H tA2
    ·rw[if_neg c7]at H
     have qh:=cE c7
     clear c7
     by_cases rk:(ai.length:Int)>60
     ·rw[if_pos rk]at H
      have Ix:decide (60< (ai.length:Int))=true:=bn rk
      have LS:decide (60<ai.length)=true:=bn tA0
      clear rk
      obtain rfl:=bo H
      have ava:wr.cell? ⟨dH,0,none⟩=some (.slice bP ag.length bh):=ah dW.o 0
      have avb:wr.cell? ⟨dH,1,none⟩=some (.slice aQ ai.length aG):=ah dW.o 1
      have awr:=ar dW.o 0
      have aws:=ar dW.o 1
      go_wp2
      go_ret
      exact⟨tAa,aD⟩
     ·rw[if_neg rk]at H
      have Ix:decide (60< (ai.length:Int))=false:=cE rk
      have LS:decide (60<ai.length)=false:=cE tA0
      clear rk
      have bk:=ae H
      clear H
      have SZ:wr.cell? ⟨dH,0,none⟩=some (.slice bP ag.length bh):=ah dW.o 0
      have S0:wr.cell? ⟨dH,1,none⟩=some (.slice aQ ai.length aG):=ah dW.o 1
      have Ta:=ar dW.o 0
      have Tb:=ar dW.o 1
      go_wp2
      go_loopg [59] k1 (fun cy v59 w'=>∃(gH:Int),v59= .int .i64 gH/\af (eA.l1 cy dZ ai (ai.length:Int) gH ag ai=some r)/\af (cy<=k1)/\af (Kd.R Kd.string 9 w' w.heap.size (fun _=>True) u3 dZ)/\af (w'.heap[dH]?=some (.cells #[(.slice bP ag.length bh),(.slice aQ ai.length aG)] 29 (0,0)))/\af (Below w.heap.size w w'))
      case atStart=>exact⟨(0),tA6,bk,⟨bl _⟩,⟨tAt⟩,⟨tB9⟩,⟨aD⟩⟩
      case round=>
       clear bk
       try clear bb;try clear lI;try clear sf;try clear c7;try clear qh;try clear rk;try clear Ix;try clear LS;try clear SZ;try clear S0;try clear oP;try clear oQ;try clear Ta;try clear Tb;try clear oT;try clear oU
       obtain⟨gH,rfl,a7,dP,ei,dW,ak⟩:=hrel
       cases gk with
       | zero=>exact absurd a7.o (by simp[eA.l1])
       | succ k2=>
        have H:=a7.o
        clear a7
        simp only[eA.l1]at H
        by_cases pA:gH< (ai.length:Int)
        ·rw[if_pos pA]at H
         have Iy:=bn pA
         clear pA
         by_cases LV:0<=gH
         ·rw[if_pos LV]at H
          have atU:=bn LV
          clear LV
          by_cases LW:gH< (ai.length:Int)
          ·rw[if_pos LW]at H
           have atV:=bn LW
           clear LW
           replace H:=eL.mp H
           obtain⟨tU,VR,H⟩:=H
           replace H:(if tU=0 then(eA.l1 k2 dZ ai (ai.length:Int) (wrap64 (gH+1)) ag ai)else(some tU))=some r:=H
           have VQ:=ae VR
           clear VR
           by_cases BS:tU=0
           ·rw[if_pos BS]at H
            have aj0:(tU==0)=true:=beq_iff_eq.mpr BS
            have aj1:(tU !=0)=false:=bne_eq_false_iff_eq.mpr BS
            clear BS
            have bk:=ae H
            clear H
            have CX:0<=(gH:Int):=bg tA4
            have De:gH< (ai.length:Int):=bg tA4
            obtain⟨Ih,w5,x6,RR,Cm,Cn,I2,IW⟩:=rh iZ.o gH CX De
            cases RR
            replace Cm:=(ak.o.cell (b7 w _ Cm)).trans Cm
            replace Cn:=(ak.o.cell (b7 w _ Cn)).trans Cn
            have PH:=ae IW
            have O5:=ae I2
            clear IW I2
            replace CX:=eq_true CX
            replace De:=eq_true De
            go_wp2_with (first|((with_reducible refine c5 (N:=7) rfl ?_);refine dD ?hg (N:=7) ?hd (cs:=#[.int .i64 0,.slice none 0 0]) (t:=33) ?hr ?_;(case hd=>rfl);(case hg=>rfl);(case hr=>first|(go_simp;done)|(go_simp;rfl));intro kM hg Vx aU hb;replace ei:=ae (Kd.oG tAt hb);have oo:=ae (aU);have afQ:=ae (bC:w.heap.size<=kM);have afA:=ae (bC:w.heap.size<=kM);replace ak:=ae (au aD hb);have QC:=ae (fA:dH≠kM);have QD:=ae (fz:kM≠dH);replace dW:=ae (av (g:=dH) (o:= .cells #[.slice bP ag.length bh,.slice (some Ih) ai.length aG] 29 (0,0)) cM hb);clear hb aU hg;have axA:=QD.o;have axY:=QC.o;have avg:Vx.cell? ⟨kM,0,none⟩=some (.int .i64 0):=ah oo.o 0;have avh:Vx.cell? ⟨kM,1,none⟩=some (.slice none 0 0):=ah oo.o 1;have awx:=ar oo.o 0;have awy:=ar oo.o 1;obtain⟨aeX,YW,alk⟩:=Kd.r9 ei.o;subst alk)|((with_reducible refine cV (f:=50) rfl ?_);refine cW (some 65) rfl rfl Tryz.func50 tA1 rfl #[.agg #[.int .i64 ((bH ai gH).f0),.slice w5 ((bH ai gH).f1).length x6],.slice aeX dZ.length YW] rfl tA9 ?_;(with_reducible refine(ln.calls k2 ((bH ai gH).f0) _ _ ((bH ai gH).f1) _ _ dZ tU _ ?side1 ?side2 ?side3 ?side4 VQ.o).mono ?_);(case side1=>exact Kd.bN PH.o aD);(case side2=>exact O5.o);(case side3=>refine(Kd.jY (e:=9) (base:=w.heap.size) (ok:=fun k_=>True) (n:=dZ.length) (c:=YW) ?_).2.2;exact tBr);(case side4=>exact(Kd.jY ei.o).2.1);rintro e aze ⟨rfl,hb⟩;refine⟨_,rfl,?_⟩;replace ei:=ae (Kd.oG tBr hb);replace dW:=ae (av (g:=dH) (o:= .cells #[.slice bP ag.length bh,.slice (some Ih) ai.length aG] 29 (0,0)) cM hb);replace oo:=ae (av (g:=kM) (o:= .cells #[.int .i64 ((bH ai gH).f0),.slice w5 ((bH ai gH).f1).length x6] 33 (0,0)) tE2 hb);replace ak:=ae (au aD hb);(try clear hb);(try clear hk);(try clear hi)))
            go_roundg k2
            case measure=>have:=dU.o;have:=dP.o;omega
            case rel=>exact⟨(wrap64 (gH+1)),tA6,bk,⟨by have:=dU.o;have:=dP.o;omega⟩,⟨tAt⟩,⟨tB9⟩,⟨aD⟩⟩
           ·rw[if_neg BS]at H
            have aj0:(tU==0)=false:=ey.mpr BS
            have aj1:(tU !=0)=true:=bne_iff_ne.mpr BS
            obtain rfl:=bo H
            have CX:0<=(gH:Int):=bg tA4
            have De:gH< (ai.length:Int):=bg tA4
            obtain⟨Ih,w5,x6,RR,Cm,Cn,I2,IW⟩:=rh iZ.o gH CX De
            cases RR
            replace Cm:=(ak.o.cell (b7 w _ Cm)).trans Cm
            replace Cn:=(ak.o.cell (b7 w _ Cn)).trans Cn
            have PH:=ae IW
            have O5:=ae I2
            clear IW I2
            replace CX:=eq_true CX
            replace De:=eq_true De
            go_wp2_with (first|((with_reducible refine c5 (N:=7) rfl ?_);refine dD ?hg (N:=7) ?hd (cs:=#[.int .i64 0,.slice none 0 0]) (t:=33) ?hr ?_;(case hd=>rfl);(case hg=>rfl);(case hr=>first|(go_simp;done)|(go_simp;rfl));intro kM hg Vy aU hb;replace ei:=ae (Kd.oG tAt hb);have oo:=ae (aU);have afQ:=ae (bC:w.heap.size<=kM);have afA:=ae (bC:w.heap.size<=kM);replace ak:=ae (au aD hb);have QC:=ae (fA:dH≠kM);have QD:=ae (fz:kM≠dH);replace dW:=ae (av (g:=dH) (o:= .cells #[.slice bP ag.length bh,.slice (some Ih) ai.length aG] 29 (0,0)) cM hb);clear hb aU hg;have axC:=QD.o;have ax0:=QC.o;have avo:Vy.cell? ⟨kM,0,none⟩=some (.int .i64 0):=ah oo.o 0;have avp:Vy.cell? ⟨kM,1,none⟩=some (.slice none 0 0):=ah oo.o 1;have awE:=ar oo.o 0;have awF:=ar oo.o 1;obtain⟨aeY,YX,alm⟩:=Kd.r9 ei.o;subst alm)|((with_reducible refine cV (f:=50) rfl ?_);refine cW (some 65) rfl rfl Tryz.func50 tA1 rfl #[.agg #[.int .i64 ((bH ai gH).f0),.slice w5 ((bH ai gH).f1).length x6],.slice aeY dZ.length YX] rfl tA9 ?_;(with_reducible refine(ln.calls k2 ((bH ai gH).f0) _ _ ((bH ai gH).f1) _ _ dZ tU _ ?side1 ?side2 ?side3 ?side4 VQ.o).mono ?_);(case side1=>exact Kd.bN PH.o aD);(case side2=>exact O5.o);(case side3=>refine(Kd.jY (e:=9) (base:=w.heap.size) (ok:=fun k_=>True) (n:=dZ.length) (c:=YX) ?_).2.2;exact tBr);(case side4=>exact(Kd.jY ei.o).2.1);rintro e azf ⟨rfl,hb⟩;refine⟨_,rfl,?_⟩;replace ei:=ae (Kd.oG tBr hb);replace dW:=ae (av (g:=dH) (o:= .cells #[.slice bP ag.length bh,.slice (some Ih) ai.length aG] 29 (0,0)) cM hb);replace oo:=ae (av (g:=kM) (o:= .cells #[.int .i64 ((bH ai gH).f0),.slice w5 ((bH ai gH).f1).length x6] 33 (0,0)) tE2 hb);replace ak:=ae (au aD hb);(try clear hb);(try clear hk);(try clear hi)))
            go_ret
            exact⟨tAa,aD⟩
          ·rw[if_neg LW]at H
           exact absurd H tA2
         ·rw[if_neg LV]at H
          exact absurd H tA2
        ·rw[if_neg pA]at H
         have Iy:=cE pA
         clear pA
         have bk:=ae H
         clear H
         have aav:wr.cell? ⟨dH,0,none⟩=some (.slice bP ag.length bh):=ah dW.o 0
         have aaw:wr.cell? ⟨dH,1,none⟩=some (.slice aQ ai.length aG):=ah dW.o 1
         have aaQ:=ar dW.o 0
         have aaR:=ar dW.o 1
         go_wp2
         go_loopg [73] k2 (fun cy v73 w'=>∃(nu:Int),v73= .int .i64 nu/\af (eA.l2 cy 1 ag (ag.length:Int) nu ag ai=some r)/\af (cy<=k2)/\af (w'.heap[dH]?=some (.cells #[(.slice bP ag.length bh),(.slice aQ ai.length aG)] 29 (0,0)))/\af (Below w.heap.size w w'))
         case atStart=>exact⟨(0),tA6,bk,⟨bl _⟩,⟨tB9⟩,⟨aD⟩⟩
         case round=>
          clear bk
          try clear bb;try clear lI;try clear sf;try clear c7;try clear qh;try clear rk;try clear Ix;try clear LS;try clear pA;try clear Iy;try clear SZ;try clear S0;try clear aav;try clear aaw;try clear oP;try clear oQ;try clear Ta;try clear Tb;try clear aaQ;try clear aaR;try clear oT;try clear oU
          obtain⟨nu,rfl,a7,qR,dW,ak⟩:=hrel
          cases gk with
          | zero=>exact absurd a7.o (by simp[eA.l2])
          | succ k3=>
           have H:=a7.o
           clear a7
           simp only[eA.l2]at H
           by_cases BV:nu< (ag.length:Int)
           ·rw[if_pos BV]at H
            have YG:=bn BV
            clear BV
            by_cases LZ:0<=nu
            ·rw[if_pos LZ]at H
             have atY:=bn LZ
             clear LZ
             by_cases L0:nu< (ag.length:Int)
             ·rw[if_pos L0]at H
              have atZ:=bn L0
              clear L0
              by_cases EY:((aw ag nu).f1)>((aw ag nu).f2)
              ·rw[if_pos EY]at H
               have aj3:decide (((aw ag nu).f2)< ((aw ag nu).f1))=true:=bn EY
               clear EY
               obtain rfl:=bo H
               have CY:0<=(nu:Int):=bg tA4
               have Df:nu< (ag.length:Int):=bg tA4
               obtain⟨Rj,RS,Co,Cp,Cq⟩:=fe iY.o nu CY Df
               cases RS
               replace Co:=(ak.o.cell (b7 w _ Co)).trans Co
               replace Cp:=(ak.o.cell (b7 w _ Cp)).trans Cp
               replace Cq:=(ak.o.cell (b7 w _ Cq)).trans Cq
               replace CY:=eq_true CY
               replace Df:=eq_true Df
               go_wp2_with (first|((with_reducible refine c5 (N:=11) rfl ?_);refine dD ?hg (N:=11) ?hd (cs:=#[.string (⟨#[]⟩:ByteArray),.int .i64 0,.int .i64 0]) (t:=77) ?hr ?_;(case hd=>rfl);(case hg=>rfl);(case hr=>first|(go_simp;done)|(go_simp;rfl));intro qm hg VB aU hb;have rO:=ae (aU);have afR:=ae (bC:w.heap.size<=qm);have afB:=ae (bC:w.heap.size<=qm);replace ak:=ae (au aD hb);have Er:=ae (fA:dH≠qm);have QE:=ae (fz:qm≠dH);replace dW:=ae (av (g:=dH) (o:= .cells #[.slice (some Rj) ag.length bh,.slice aQ ai.length aG] 29 (0,0)) cM hb);clear hb aU hg;have axF:=QE.o;have ax3:=Er.o;have aax:VB.cell? ⟨qm,0,none⟩=some (.string (⟨#[]⟩:ByteArray)):=ah rO.o 0;have aay:VB.cell? ⟨qm,1,none⟩=some (.int .i64 0):=ah rO.o 1;have avw:VB.cell? ⟨qm,2,none⟩=some (.int .i64 0):=ah rO.o 2;have aaS:=ar rO.o 0;have aaT:=ar rO.o 1;have awM:=ar rO.o 2))
               go_ret
               exact⟨tAa,aD⟩
              ·rw[if_neg EY]at H
               have aj3:decide (((aw ag nu).f2)< ((aw ag nu).f1))=false:=cE EY
               clear EY
               have bk:=ae H
               clear H
               have CY:0<=(nu:Int):=bg tA4
               have Df:nu< (ag.length:Int):=bg tA4
               obtain⟨Rj,RS,Co,Cp,Cq⟩:=fe iY.o nu CY Df
               cases RS
               replace Co:=(ak.o.cell (b7 w _ Co)).trans Co
               replace Cp:=(ak.o.cell (b7 w _ Cp)).trans Cp
               replace Cq:=(ak.o.cell (b7 w _ Cq)).trans Cq
               replace CY:=eq_true CY
               replace Df:=eq_true Df
               go_wp2_with (first|((with_reducible refine c5 (N:=11) rfl ?_);refine dD ?hg (N:=11) ?hd (cs:=#[.string (⟨#[]⟩:ByteArray),.int .i64 0,.int .i64 0]) (t:=77) ?hr ?_;(case hd=>rfl);(case hg=>rfl);(case hr=>first|(go_simp;done)|(go_simp;rfl));intro qm hg VC aU hb;have rO:=ae (aU);have afR:=ae (bC:w.heap.size<=qm);have afB:=ae (bC:w.heap.size<=qm);replace ak:=ae (au aD hb);have Er:=ae (fA:dH≠qm);have QE:=ae (fz:qm≠dH);replace dW:=ae (av (g:=dH) (o:= .cells #[.slice (some Rj) ag.length bh,.slice aQ ai.length aG] 29 (0,0)) cM hb);clear hb aU hg;have axG:=QE.o;have ax4:=Er.o;have avx:VC.cell? ⟨qm,0,none⟩=some (.string (⟨#[]⟩:ByteArray)):=ah rO.o 0;have avy:VC.cell? ⟨qm,1,none⟩=some (.int .i64 0):=ah rO.o 1;have avz:VC.cell? ⟨qm,2,none⟩=some (.int .i64 0):=ah rO.o 2;have awN:=ar rO.o 0;have awO:=ar rO.o 1;have awP:=ar rO.o 2))
               go_roundg k3
               case measure=>have:=dU.o;have:=dP.o;have:=qR.o;omega
               case rel=>exact⟨(wrap64 (nu+1)),tA6,bk,⟨tEf⟩,⟨by(with_reducible repeat(first|refine bD ?_ _|refine bz ?_|refine aH ?_ _));refine lH ?_ Er.o _;(with_reducible repeat(first|refine bD ?_ _|refine bz ?_|refine aH ?_ _));refine lH ?_ Er.o _;(with_reducible repeat(first|refine bD ?_ _|refine bz ?_|refine aH ?_ _));refine lH ?_ Er.o _;(with_reducible repeat(first|refine bD ?_ _|refine bz ?_|refine aH ?_ _));exact dW.o⟩,⟨aD⟩⟩
             ·rw[if_neg L0]at H
              exact absurd H tA2
            ·rw[if_neg LZ]at H
             exact absurd H tA2
           ·rw[if_neg BV]at H
            have YG:=cE BV
            clear BV
            have bk:=ae H
            clear H
            have amP:wr.cell? ⟨dH,0,none⟩=some (.slice bP ag.length bh):=ah dW.o 0
            have amQ:wr.cell? ⟨dH,1,none⟩=some (.slice aQ ai.length aG):=ah dW.o 1
            have ank:=ar dW.o 0
            have anl:=ar dW.o 1
            go_wp2
            go_loopg [9,86] k3 (fun cy v9 asQ w'=>∃(DM:Int) (lV:Int),v9= .int .i64 DM/\asQ= .int .i64 lV/\af (eA.l3 cy DM ag (ag.length:Int) lV=some r)/\af (cy<=k3)/\af (w'.heap[dH]?=some (.cells #[(.slice bP ag.length bh),(.slice aQ ai.length aG)] 29 (0,0)))/\af (Below w.heap.size w w'))
            case atStart=>exact⟨(1),(0),tA6,tA6,bk,⟨bl _⟩,⟨tB9⟩,⟨aD⟩⟩
            case round=>
             clear bk
             try clear bb;try clear lI;try clear sf;try clear c7;try clear qh;try clear rk;try clear Ix;try clear LS;try clear pA;try clear Iy;try clear BV;try clear YG;try clear SZ;try clear S0;try clear aav;try clear aaw;try clear oP;try clear oQ;try clear amP;try clear amQ;try clear Ta;try clear Tb;try clear aaQ;try clear aaR;try clear oT;try clear oU;try clear ank;try clear anl
             obtain⟨DM,lV,rfl,rfl,a7,vJ,dW,ak⟩:=hrel
             cases gk with
             | zero=>exact absurd a7.o (by simp[eA.l3])
             | succ k4=>
              have H:=a7.o
              clear a7
              simp only[eA.l3]at H
              by_cases E1:lV< (ag.length:Int)
              ·rw[if_pos E1]at H
               have aj6:=bn E1
               clear E1
               by_cases L4:0<=lV
               ·rw[if_pos L4]at H
                have at2:=bn L4
                clear L4
                by_cases L5:lV< (ag.length:Int)
                ·rw[if_pos L5]at H
                 have at3:=bn L5
                 clear L5
                 by_cases E2:(wrap64 (DM * (wrap64 ((wrap64 (((aw ag lV).f2)- ((aw ag lV).f1)))+1))))>200000
                 ·rw[if_pos E2]at H
                  have aj7:decide (200000< (wrap64 (DM * (wrap64 ((wrap64 (((aw ag lV).f2)- ((aw ag lV).f1)))+1)))))=true:=bn E2
                  clear E2
                  obtain rfl:=bo H
                  have CZ:0<=(lV:Int):=bg tA4
                  have Dg:lV< (ag.length:Int):=bg tA4
                  obtain⟨Rk,RT,Cr,Cs,Ct⟩:=fe iY.o lV CZ Dg
                  cases RT
                  replace Cr:=(ak.o.cell (b7 w _ Cr)).trans Cr
                  replace Cs:=(ak.o.cell (b7 w _ Cs)).trans Cs
                  replace Ct:=(ak.o.cell (b7 w _ Ct)).trans Ct
                  replace CZ:=eq_true CZ
                  replace Dg:=eq_true Dg
                  go_wp2_with (first|((with_reducible refine c5 (N:=13) rfl ?_);refine dD ?hg (N:=13) ?hd (cs:=#[.string (⟨#[]⟩:ByteArray),.int .i64 0,.int .i64 0]) (t:=77) ?hr ?_;(case hd=>rfl);(case hg=>rfl);(case hr=>first|(go_simp;done)|(go_simp;rfl));intro qo hg VF aU hb;have rP:=ae (aU);have afS:=ae (bC:w.heap.size<=qo);have afC:=ae (bC:w.heap.size<=qo);replace ak:=ae (au aD hb);have Es:=ae (fA:dH≠qo);have QF:=ae (fz:qo≠dH);replace dW:=ae (av (g:=dH) (o:= .cells #[.slice (some Rk) ag.length bh,.slice aQ ai.length aG] 29 (0,0)) cM hb);clear hb aU hg;have axJ:=QF.o;have ax7:=Es.o;have avG:VF.cell? ⟨qo,0,none⟩=some (.string (⟨#[]⟩:ByteArray)):=ah rP.o 0;have avH:VF.cell? ⟨qo,1,none⟩=some (.int .i64 0):=ah rP.o 1;have avI:VF.cell? ⟨qo,2,none⟩=some (.int .i64 0):=ah rP.o 2;have awW:=ar rP.o 0;have awX:=ar rP.o 1;have awY:=ar rP.o 2))
                  go_ret
                  exact⟨tAa,aD⟩
                 ·rw[if_neg E2]at H
                  have aj7:decide (200000< (wrap64 (DM * (wrap64 ((wrap64 (((aw ag lV).f2)- ((aw ag lV).f1)))+1)))))=false:=cE E2
                  clear E2
                  have bk:=ae H
                  clear H
                  have CZ:0<=(lV:Int):=bg tA4
                  have Dg:lV< (ag.length:Int):=bg tA4
                  obtain⟨Rk,RT,Cr,Cs,Ct⟩:=fe iY.o lV CZ Dg
                  cases RT
                  replace Cr:=(ak.o.cell (b7 w _ Cr)).trans Cr
                  replace Cs:=(ak.o.cell (b7 w _ Cs)).trans Cs
                  replace Ct:=(ak.o.cell (b7 w _ Ct)).trans Ct
                  replace CZ:=eq_true CZ
                  replace Dg:=eq_true Dg
                  go_wp2_with (first|((with_reducible refine c5 (N:=13) rfl ?_);refine dD ?hg (N:=13) ?hd (cs:=#[.string (⟨#[]⟩:ByteArray),.int .i64 0,.int .i64 0]) (t:=77) ?hr ?_;(case hd=>rfl);(case hg=>rfl);(case hr=>first|(go_simp;done)|(go_simp;rfl));intro qo hg VG aU hb;have rP:=ae (aU);have afS:=ae (bC:w.heap.size<=qo);have afC:=ae (bC:w.heap.size<=qo);replace ak:=ae (au aD hb);have Es:=ae (fA:dH≠qo);have QF:=ae (fz:qo≠dH);replace dW:=ae (av (g:=dH) (o:= .cells #[.slice (some Rk) ag.length bh,.slice aQ ai.length aG] 29 (0,0)) cM hb);clear hb aU hg;have axK:=QF.o;have ax8:=Es.o;have avJ:VG.cell? ⟨qo,0,none⟩=some (.string (⟨#[]⟩:ByteArray)):=ah rP.o 0;have avK:VG.cell? ⟨qo,1,none⟩=some (.int .i64 0):=ah rP.o 1;have avL:VG.cell? ⟨qo,2,none⟩=some (.int .i64 0):=ah rP.o 2;have awZ:=ar rP.o 0;have aw0:=ar rP.o 1;have aw1:=ar rP.o 2))
                  go_roundg k4
                  case measure=>have:=dU.o;have:=dP.o;have:=qR.o;have:=vJ.o;omega
                  case rel=>exact⟨(wrap64 (DM * (wrap64 ((wrap64 (((aw ag lV).f2)- ((aw ag lV).f1)))+1)))),(wrap64 (lV+1)),tA6,tA6,bk,⟨tEa⟩,⟨by(with_reducible repeat(first|refine bD ?_ _|refine bz ?_|refine aH ?_ _));refine lH ?_ Es.o _;(with_reducible repeat(first|refine bD ?_ _|refine bz ?_|refine aH ?_ _));refine lH ?_ Es.o _;(with_reducible repeat(first|refine bD ?_ _|refine bz ?_|refine aH ?_ _));refine lH ?_ Es.o _;(with_reducible repeat(first|refine bD ?_ _|refine bz ?_|refine aH ?_ _));exact dW.o⟩,⟨aD⟩⟩
                ·rw[if_neg L5]at H
                 exact absurd H tA2
               ·rw[if_neg L4]at H
                exact absurd H tA2
              ·rw[if_neg E1]at H
               have aj6:=cE E1
               clear E1
               obtain rfl:=bo H
               go_wp2
               go_ret
               exact⟨tAa,aD⟩
end Go.Proofs.YtjgakaembhmhpaaGreatDoor.PA
