/- Part of the proof of SetsChanged: printed contracts, struck. It holds without further conditions. -/
import Derived.Test.YtjgakaembhmhpaaGreatDoorJAG
set_option linter.unusedVariables false
set_option linter.unusedSimpArgs false
set_option maxHeartbeats 16000000
set_option maxRecDepth 100000
namespace Go.Proofs.YtjgakaembhmhpaaGreatDoor.PA
open Go.RowKit Go.Proofs.YtjgakaembhmhpaaGreatDoorW.PrintWords Go.Proofs.YtjgakaembhmhpaaGreatDoorW.PrintLast Go.Proofs.YtjgakaembhmhpaaGreatDoorW.PrintMore
open Go.Proofs.YtjgakaembhmhpaaGreatDoorM
attribute [local go_sem] str_leq str_gtr str_geq
attribute [local go_sem] max2_int min2_int max_two min_two max_three min_three max_four min_four
mutual
def en.l0:Nat->List (aq)->Int->Int->List (aq)->List (aj)->Option (Int)
 | 0,_,_,_,_,_=>none
 | k+1,Gx,ua,ub,sX,ud=>if ub<ua then(if 0<=ub then(if ub< (Gx.length:Int)then((nX.f k ((aw Gx ub).f0)).bind fun N7=>(if N7=true then((px.f sX ud ((aw Gx ub).f0)).bind fun tV=>(if tV<ub then(some 6)else((fQ.f ((aw Gx ub).f1) (-1000000) 1000000).bind fun wU=>(if wU=true then((fQ.f ((aw Gx ub).f2) (-1000000) 1000000).bind fun rG=>(if rG=true then(en.l0 k Gx ua (wrap64 (ub+1)) sX ud)else(some 1)))else(some 1)))))else(some 5)))else(none))else(none))else(if(ud.length:Int)>60 then(some 2)else(en.l1 k ud (ud.length:Int) 0 sX ud))
def en.l1:Nat->List (aj)->Int->Int->List (aq)->List (aj)->Option (Int)
 | 0,_,_,_,_,_=>none
 | k+1,Ou,aes,Gy,sX,ud=>if Gy<aes then(if 0<=Gy then(if Gy< (Ou.length:Int)then((mh.f k sX ud ((bH Ou Gy).f0) ((bH Ou Gy).f1)).bind fun tW=>(if tW=0 then(en.l1 k Ou aes (wrap64 (Gy+1)) sX ud)else(some tW)))else(none))else(none))else(en.l2 k 1 sX (sX.length:Int) 0 sX ud)
def en.l2:Nat->Int->List (aq)->Int->Int->List (aq)->List (aj)->Option (Int)
 | 0,_,_,_,_,_,_=>none
 | k+1,ug,Ow,aeu,GA,sX,ud=>if GA<aeu then(if 0<=GA then(if GA< (Ow.length:Int)then(if((aw Ow GA).f1)>((aw Ow GA).f2)then(some 0)else(en.l2 k ug Ow aeu (wrap64 (GA+1)) sX ud))else(none))else(none))else(en.l3 k ug sX (sX.length:Int) 0)
def en.l3:Nat->Int->List (aq)->Int->Int->Option (Int)
 | 0,_,_,_,_=>none
 | k+1,ug,GD,aew,AK=>if AK<aew then(if 0<=AK then(if AK< (GD.length:Int)then(if(wrap64 (ug * (wrap64 ((wrap64 (((aw GD AK).f2)- ((aw GD AK).f1)))+1))))>200000 then(some 12)else(en.l3 k (wrap64 (ug * (wrap64 ((wrap64 (((aw GD AK).f2)- ((aw GD AK).f1)))+1)))) GD aew (wrap64 (AK+1))))else(none))else(none))else(some 0)
end
def en.f (k:Nat)(ag:List (aq))(ai:List (aj)):Option (Int):=if(ag.length:Int)>8 then(some 2)else(en.l0 k ag (ag.length:Int) 0 ag ai)
theorem en.calls (k:Nat)(bP:Option Addr)(bh:Nat)(ag:List (aq))(aQ:Option Addr)(aG:Nat)(ai:List (aj))(r:Int)(w:World)(kB:Kd.C cu w bP ag.length ag)(mn:ag.length<=bh)(h9:Kd.C bc w aQ ai.length ai)(iH:ai.length<=aG)(h:en.f k ag ai=some r):
  Calls Tryz.prog 51 #[.agg #[.slice bP ag.length bh,.slice aQ ai.length aG]] w fun e w'=>e= .returned (.int .i64 r)/\Below w.heap.size w w':=by
 have TP:=Tryz.underlying29
 have TQ:=Tryz.underlying77
 have Ci:=Tryz.underlying33
 have iY:=ae kB
 have uC:=ae mn
 clear kB mn
 have iZ:=ae h9
 have nA:=ae iH
 clear h9 iH
 have ak:=ae (Below.refl w.heap.size w)
 have H:(if(ag.length:Int)>8 then(some 2)else(en.l0 k ag (ag.length:Int) 0 ag ai))=some r:=h
 clear h
 by_cases bb:(ag.length:Int)>8
 ·rw[if_pos bb]at H
  have lI:decide (8< (ag.length:Int))=true:=bn bb
  have sf:decide (8<ag.length)=true:=bn tA0
  clear bb
  obtain rfl:=bo H
  go_enter Tryz.func51,Tryz.ntmps51
  go_wp2_with (first|((with_reducible refine c5 (N:=1) rfl ?_);refine dD ?hg (N:=1) ?hd (cs:=#[.slice bP ag.length bh,.slice aQ ai.length aG]) (t:=29) ?hr ?_;(case hd=>rfl);(case hg=>rfl);(case hr=>first|(go_simp;done)|(go_simp;rfl));intro cS hg w3 aU hb;have cF:=ae (aU);have afW:=ae (bC:w.heap.size<=cS);have afG:=ae (bC:w.heap.size<=cS);replace ak:=ae (au aD hb);clear hb aU hg;have amN:w3.cell? ⟨cS,0,none⟩=some (.slice bP ag.length bh):=ah cF.o 0;have amO:w3.cell? ⟨cS,1,none⟩=some (.slice aQ ai.length aG):=ah cF.o 1;have ani:=ar cF.o 0;have anj:=ar cF.o 1))
  go_ret
  exact⟨tAa,aD⟩
 ·rw[if_neg bb]at H
  have lI:decide (8< (ag.length:Int))=false:=cE bb
  have sf:decide (8<ag.length)=false:=cE tA0
  clear bb
  have bk:=ae H
  clear H
  go_enter Tryz.func51,Tryz.ntmps51
  go_wp2_with (first|((with_reducible refine c5 (N:=1) rfl ?_);refine dD ?hg (N:=1) ?hd (cs:=#[.slice bP ag.length bh,.slice aQ ai.length aG]) (t:=29) ?hr ?_;(case hd=>rfl);(case hg=>rfl);(case hr=>first|(go_simp;done)|(go_simp;rfl));intro cS hg aZ aU hb;have cF:=ae (aU);have afW:=ae (bC:w.heap.size<=cS);have afG:=ae (bC:w.heap.size<=cS);replace ak:=ae (au aD hb);clear hb aU hg;have oP:aZ.cell? ⟨cS,0,none⟩=some (.slice bP ag.length bh):=ah cF.o 0;have oQ:aZ.cell? ⟨cS,1,none⟩=some (.slice aQ ai.length aG):=ah cF.o 1;have oT:=ar cF.o 0;have oU:=ar cF.o 1))
  go_loopg [20] k (fun cy v20 w'=>∃(bZ:Int),v20= .int .i64 bZ/\af (en.l0 cy ag (ag.length:Int) bZ ag ai=some r)/\af (cy<=k)/\af (w'.heap[cS]?=some (.cells #[(.slice bP ag.length bh),(.slice aQ ai.length aG)] 29 (0,0)))/\af (Below w.heap.size w w'))
  case atStart=>exact⟨(0),tA6,bk,⟨bl _⟩,⟨tBb⟩,⟨aD⟩⟩
  case round=>
   clear bk
   try clear bb;try clear lI;try clear sf;try clear oP;try clear oQ;try clear oT;try clear oU
   obtain⟨bZ,rfl,a7,dU,cF,ak⟩:=hrel
   cases gk with
   | zero=>exact absurd a7.o (by simp[en.l0])
   | succ k1=>
    have H:=a7.o
    clear a7
    simp only[en.l0]at H
    by_cases c7:bZ< (ag.length:Int)
    ·rw[if_pos c7]at H
     have qh:=bn c7
     clear c7
     by_cases c8:0<=bZ
     ·rw[if_pos c8]at H
      have ya:=bn c8
      clear c8
      by_cases c9:bZ< (ag.length:Int)
      ·rw[if_pos c9]at H
       have wh:=bn c9
       clear c9
       replace H:=eL.mp H
       obtain⟨N7,yU,H⟩:=H
       replace H:(if N7=true then((px.f ag ai ((aw ag bZ).f0)).bind fun tV=>(if tV<bZ then(some 6)else((fQ.f ((aw ag bZ).f1) (-1000000) 1000000).bind fun wU=>(if wU=true then((fQ.f ((aw ag bZ).f2) (-1000000) 1000000).bind fun rG=>(if rG=true then(en.l0 k1 ag (ag.length:Int) (wrap64 (bZ+1)) ag ai)else(some 1)))else(some 1)))))else(some 5))=some r:=H
       have mz:=ae yU
       clear yU
       by_cases c11:N7=true
       ·subst c11
        replace H:((px.f ag ai ((aw ag bZ).f0)).bind fun tV=>(if tV<bZ then(some 6)else((fQ.f ((aw ag bZ).f1) (-1000000) 1000000).bind fun wU=>(if wU=true then((fQ.f ((aw ag bZ).f2) (-1000000) 1000000).bind fun rG=>(if rG=true then(en.l0 k1 ag (ag.length:Int) (wrap64 (bZ+1)) ag ai)else(some 1)))else(some 1)))))=some r:=tAd
        replace H:=eL.mp H
        obtain⟨tV,om,H⟩:=H
        replace H:(if tV<bZ then(some 6)else((fQ.f ((aw ag bZ).f1) (-1000000) 1000000).bind fun wU=>(if wU=true then((fQ.f ((aw ag bZ).f2) (-1000000) 1000000).bind fun rG=>(if rG=true then(en.l0 k1 ag (ag.length:Int) (wrap64 (bZ+1)) ag ai)else(some 1)))else(some 1))))=some r:=H
        have ke:=ae om
        clear om
        by_cases c13:tV<bZ
        ·rw[if_pos c13]at H
         have YB:=bn c13
         clear c13
         obtain rfl:=bo H
         have nc:0<=(bZ:Int):=bg tA4
         have ng:bZ< (ag.length:Int):=bg tA4
         obtain⟨lD,ye,mQ,mR,mS⟩:=fe iY.o bZ nc ng
         cases ye
         replace mQ:=(ak.o.cell (b7 w _ mQ)).trans mQ
         replace mR:=(ak.o.cell (b7 w _ mR)).trans mR
         replace mS:=(ak.o.cell (b7 w _ mS)).trans mS
         replace nc:=eq_true nc
         replace ng:=eq_true ng
         go_wp2_with (first|((with_reducible refine c5 (N:=4) rfl ?_);refine dD ?hg (N:=4) ?hd (cs:=#[.string (⟨#[]⟩:ByteArray),.int .i64 0,.int .i64 0]) (t:=77) ?hr ?_;(case hd=>rfl);(case hg=>rfl);(case hr=>first|(go_simp;done)|(go_simp;rfl));intro ez hg rH aU hb;have dN:=ae (aU);have Ks:=ae (bC:w.heap.size<=ez);have Kq:=ae (bC:w.heap.size<=ez);replace ak:=ae (au aD hb);have xP:=ae (fA:cS≠ez);have xQ:=ae (fz:ez≠cS);replace cF:=ae (av (g:=cS) (o:= .cells #[.slice (some lD) ag.length bh,.slice aQ ai.length aG] 29 (0,0)) cM hb);clear hb aU hg;have abk:=xQ.o;have abm:=xP.o;have aal:rH.cell? ⟨ez,0,none⟩=some (.string (⟨#[]⟩:ByteArray)):=ah dN.o 0;have aam:rH.cell? ⟨ez,1,none⟩=some (.int .i64 0):=ah dN.o 1;have amw:rH.cell? ⟨ez,2,none⟩=some (.int .i64 0):=ah dN.o 2;have aaG:=ar dN.o 0;have aaH:=ar dN.o 1;have am0:=ar dN.o 2)|((with_reducible refine cV (f:=58) rfl ?_);refine cW (some 28) rfl rfl Tryz.func58 tA1 rfl #[.string ((aw ag bZ).f0)] rfl tA9 ?_;(with_reducible refine(nX.calls k1 ((aw ag bZ).f0) true _ mz.o).mono ?_);rintro e w' ⟨rfl,⟨cg,rfl⟩⟩;refine⟨_,rfl,?_⟩;have Fp:rH.cell? ⟨cS,0,none⟩=some (.slice (some lD) ag.length bh):=ah cF.o 0;have Fq:rH.cell? ⟨cS,1,none⟩=some (.slice aQ ai.length aG):=ah cF.o 1;have Fw:=ar cF.o 0;have Fx:=ar cF.o 1)|((with_reducible refine cV (f:=59) rfl ?_);refine cW (some 34) rfl rfl Tryz.func59 tA1 rfl #[.agg #[.slice (some lD) ag.length bh,.slice aQ ai.length aG],.string ((aw ag bZ).f0)] rfl tA9 ?_;(with_reducible refine(px.calls _ _ ag _ _ ai ((aw ag bZ).f0) tV _ ?side1 ?side2 ?side3 ?side4 ke.o).mono ?_);(case side1=>exact Kd.bN iY.o aD);(case side2=>exact uC.o);(case side3=>exact Kd.bN iZ.o aD);(case side4=>exact nA.o);rintro e wV ⟨rfl,hb⟩;refine⟨_,rfl,?_⟩;replace cF:=ae (av (g:=cS) (o:= .cells #[.slice (some lD) ag.length bh,.slice aQ ai.length aG] 29 (0,0)) cM hb);replace dN:=ae (av (g:=ez) (o:= .cells #[.string ((aw ag bZ).f0),.int .i64 ((aw ag bZ).f1),.int .i64 ((aw ag bZ).f2)] 77 (0,0)) tC6 hb);replace ak:=ae (au aD hb);(try clear hb);(try clear hi)))
         go_ret
         exact⟨tAa,aD⟩
        ·rw[if_neg c13]at H
         have YB:=cE c13
         clear c13
         replace H:=eL.mp H
         obtain⟨wU,VO,H⟩:=H
         replace H:(if wU=true then((fQ.f ((aw ag bZ).f2) (-1000000) 1000000).bind fun rG=>(if rG=true then(en.l0 k1 ag (ag.length:Int) (wrap64 (bZ+1)) ag ai)else(some 1)))else(some 1))=some r:=H
         have OC:=ae VO
         clear VO
         by_cases c20:wU=true
         ·subst c20
          replace H:((fQ.f ((aw ag bZ).f2) (-1000000) 1000000).bind fun rG=>(if rG=true then(en.l0 k1 ag (ag.length:Int) (wrap64 (bZ+1)) ag ai)else(some 1)))=some r:=tAd
          replace H:=eL.mp H
          obtain⟨rG,GJ,H⟩:=H
          replace H:(if rG=true then(en.l0 k1 ag (ag.length:Int) (wrap64 (bZ+1)) ag ai)else(some 1))=some r:=H
          have DO:=ae GJ
          clear GJ
          by_cases xZ:rG=true
          ·subst xZ
           replace H:(en.l0 k1 ag (ag.length:Int) (wrap64 (bZ+1)) ag ai)=some r:=tAd
           have bk:=ae H
           clear H
           have nc:0<=(bZ:Int):=bg tA4
           have ng:bZ< (ag.length:Int):=bg tA4
           obtain⟨lD,ye,mQ,mR,mS⟩:=fe iY.o bZ nc ng
           cases ye
           replace mQ:=(ak.o.cell (b7 w _ mQ)).trans mQ
           replace mR:=(ak.o.cell (b7 w _ mR)).trans mR
           replace mS:=(ak.o.cell (b7 w _ mS)).trans mS
           replace nc:=eq_true nc
           replace ng:=eq_true ng
           go_wp2_with (first|((with_reducible refine c5 (N:=4) rfl ?_);refine dD ?hg (N:=4) ?hd (cs:=#[.string (⟨#[]⟩:ByteArray),.int .i64 0,.int .i64 0]) (t:=77) ?hr ?_;(case hd=>rfl);(case hg=>rfl);(case hr=>first|(go_simp;done)|(go_simp;rfl));intro ez hg wW aU hb;have dN:=ae (aU);have Ks:=ae (bC:w.heap.size<=ez);have Kq:=ae (bC:w.heap.size<=ez);replace ak:=ae (au aD hb);have xP:=ae (fA:cS≠ez);have xQ:=ae (fz:ez≠cS);replace cF:=ae (av (g:=cS) (o:= .cells #[.slice (some lD) ag.length bh,.slice aQ ai.length aG] 29 (0,0)) cM hb);clear hb aU hg;have anT:=xQ.o;have an4:=xP.o;have auI:wW.cell? ⟨ez,0,none⟩=some (.string (⟨#[]⟩:ByteArray)):=ah dN.o 0;have auJ:wW.cell? ⟨ez,1,none⟩=some (.int .i64 0):=ah dN.o 1;have auK:wW.cell? ⟨ez,2,none⟩=some (.int .i64 0):=ah dN.o 2;have avZ:=ar dN.o 0;have av0:=ar dN.o 1;have av1:=ar dN.o 2)|((with_reducible refine cV (f:=58) rfl ?_);refine cW (some 28) rfl rfl Tryz.func58 tA1 rfl #[.string ((aw ag bZ).f0)] rfl tA9 ?_;(with_reducible refine(nX.calls k1 ((aw ag bZ).f0) true _ mz.o).mono ?_);rintro e w' ⟨rfl,⟨cg,rfl⟩⟩;refine⟨_,rfl,?_⟩;have amB:wW.cell? ⟨cS,0,none⟩=some (.slice (some lD) ag.length bh):=ah cF.o 0;have amC:wW.cell? ⟨cS,1,none⟩=some (.slice aQ ai.length aG):=ah cF.o 1;have am5:=ar cF.o 0;have am6:=ar cF.o 1)|((with_reducible refine cV (f:=59) rfl ?_);refine cW (some 34) rfl rfl Tryz.func59 tA1 rfl #[.agg #[.slice (some lD) ag.length bh,.slice aQ ai.length aG],.string ((aw ag bZ).f0)] rfl tA9 ?_;(with_reducible refine(px.calls _ _ ag _ _ ai ((aw ag bZ).f0) tV _ ?side1 ?side2 ?side3 ?side4 ke.o).mono ?_);(case side1=>exact Kd.bN iY.o aD);(case side2=>exact uC.o);(case side3=>exact Kd.bN iZ.o aD);(case side4=>exact nA.o);rintro e Oh ⟨rfl,hb⟩;refine⟨_,rfl,?_⟩;replace cF:=ae (av (g:=cS) (o:= .cells #[.slice (some lD) ag.length bh,.slice aQ ai.length aG] 29 (0,0)) cM hb);replace dN:=ae (av (g:=ez) (o:= .cells #[.string ((aw ag bZ).f0),.int .i64 ((aw ag bZ).f1),.int .i64 ((aw ag bZ).f2)] 77 (0,0)) tC6 hb);replace ak:=ae (au aD hb);(try clear hb);have aap:Oh.cell? ⟨ez,0,none⟩=some (.string ((aw ag bZ).f0)):=ah dN.o 0;have aaq:Oh.cell? ⟨ez,1,none⟩=some (.int .i64 ((aw ag bZ).f1)):=ah dN.o 1;have auO:Oh.cell? ⟨ez,2,none⟩=some (.int .i64 ((aw ag bZ).f2)):=ah dN.o 2;have aaK:=ar dN.o 0;have aaL:=ar dN.o 1;have av5:=ar dN.o 2)|((with_reducible refine cV (f:=113) rfl ?_);refine cW (some 40) rfl rfl Tryz.func113 tA1 rfl #[.int .i64 ((aw ag bZ).f1),.int .i64 (-1000000),.int .i64 1000000] rfl tA9 ?_;(with_reducible refine(fQ.calls ((aw ag bZ).f1) (-1000000) 1000000 true _ OC.o).mono ?_);rintro e w' ⟨rfl,⟨cg,rfl⟩⟩;refine⟨_,rfl,?_⟩)|(go_at_call 113;(with_reducible refine(fQ.calls ((aw ag bZ).f2) (-1000000) 1000000 true _ DO.o).mono ?_);rintro e w' ⟨rfl,⟨cg,rfl⟩⟩))
           go_roundg k1
           case measure=>have:=dU.o;omega
           case rel=>exact⟨(wrap64 (bZ+1)),tA6,bk,⟨tAm⟩,⟨tBb⟩,⟨aD⟩⟩
          ·replace xZ:=ju.mpr xZ
           subst xZ
           replace H:(some 1)=some r:=tAe
           obtain rfl:=bo H
           have nc:0<=(bZ:Int):=bg tA4
           have ng:bZ< (ag.length:Int):=bg tA4
           obtain⟨lD,ye,mQ,mR,mS⟩:=fe iY.o bZ nc ng
           cases ye
           replace mQ:=(ak.o.cell (b7 w _ mQ)).trans mQ
           replace mR:=(ak.o.cell (b7 w _ mR)).trans mR
           replace mS:=(ak.o.cell (b7 w _ mS)).trans mS
           replace nc:=eq_true nc
           replace ng:=eq_true ng
           go_wp2_with (first|((with_reducible refine c5 (N:=4) rfl ?_);refine dD ?hg (N:=4) ?hd (cs:=#[.string (⟨#[]⟩:ByteArray),.int .i64 0,.int .i64 0]) (t:=77) ?hr ?_;(case hd=>rfl);(case hg=>rfl);(case hr=>first|(go_simp;done)|(go_simp;rfl));intro ez hg Gv aU hb;have dN:=ae (aU);have Ks:=ae (bC:w.heap.size<=ez);have Kq:=ae (bC:w.heap.size<=ez);replace ak:=ae (au aD hb);have xP:=ae (fA:cS≠ez);have xQ:=ae (fz:ez≠cS);replace cF:=ae (av (g:=cS) (o:= .cells #[.slice (some lD) ag.length bh,.slice aQ ai.length aG] 29 (0,0)) cM hb);clear hb aU hg;have anV:=xQ.o;have an6:=xP.o;have amD:Gv.cell? ⟨ez,0,none⟩=some (.string (⟨#[]⟩:ByteArray)):=ah dN.o 0;have amE:Gv.cell? ⟨ez,1,none⟩=some (.int .i64 0):=ah dN.o 1;have auU:Gv.cell? ⟨ez,2,none⟩=some (.int .i64 0):=ah dN.o 2;have am7:=ar dN.o 0;have am8:=ar dN.o 1;have awb:=ar dN.o 2)|((with_reducible refine cV (f:=58) rfl ?_);refine cW (some 28) rfl rfl Tryz.func58 tA1 rfl #[.string ((aw ag bZ).f0)] rfl tA9 ?_;(with_reducible refine(nX.calls k1 ((aw ag bZ).f0) true _ mz.o).mono ?_);rintro e w' ⟨rfl,⟨cg,rfl⟩⟩;refine⟨_,rfl,?_⟩;have amF:Gv.cell? ⟨cS,0,none⟩=some (.slice (some lD) ag.length bh):=ah cF.o 0;have amG:Gv.cell? ⟨cS,1,none⟩=some (.slice aQ ai.length aG):=ah cF.o 1;have am9:=ar cF.o 0;have ana:=ar cF.o 1)|((with_reducible refine cV (f:=59) rfl ?_);refine cW (some 34) rfl rfl Tryz.func59 tA1 rfl #[.agg #[.slice (some lD) ag.length bh,.slice aQ ai.length aG],.string ((aw ag bZ).f0)] rfl tA9 ?_;(with_reducible refine(px.calls _ _ ag _ _ ai ((aw ag bZ).f0) tV _ ?side1 ?side2 ?side3 ?side4 ke.o).mono ?_);(case side1=>exact Kd.bN iY.o aD);(case side2=>exact uC.o);(case side3=>exact Kd.bN iZ.o aD);(case side4=>exact nA.o);rintro e Vu ⟨rfl,hb⟩;refine⟨_,rfl,?_⟩;replace cF:=ae (av (g:=cS) (o:= .cells #[.slice (some lD) ag.length bh,.slice aQ ai.length aG] 29 (0,0)) cM hb);replace dN:=ae (av (g:=ez) (o:= .cells #[.string ((aw ag bZ).f0),.int .i64 ((aw ag bZ).f1),.int .i64 ((aw ag bZ).f2)] 77 (0,0)) tC6 hb);replace ak:=ae (au aD hb);(try clear hb);have aar:Vu.cell? ⟨ez,0,none⟩=some (.string ((aw ag bZ).f0)):=ah dN.o 0;have aas:Vu.cell? ⟨ez,1,none⟩=some (.int .i64 ((aw ag bZ).f1)):=ah dN.o 1;have amJ:Vu.cell? ⟨ez,2,none⟩=some (.int .i64 ((aw ag bZ).f2)):=ah dN.o 2;have aaM:=ar dN.o 0;have aaN:=ar dN.o 1;have ane:=ar dN.o 2)|((with_reducible refine cV (f:=113) rfl ?_);refine cW (some 40) rfl rfl Tryz.func113 tA1 rfl #[.int .i64 ((aw ag bZ).f1),.int .i64 (-1000000),.int .i64 1000000] rfl tA9 ?_;(with_reducible refine(fQ.calls ((aw ag bZ).f1) (-1000000) 1000000 true _ OC.o).mono ?_);rintro e w' ⟨rfl,⟨cg,rfl⟩⟩;refine⟨_,rfl,?_⟩)|(go_at_call 113;(with_reducible refine(fQ.calls ((aw ag bZ).f2) (-1000000) 1000000 false _ DO.o).mono ?_);rintro e w' ⟨rfl,⟨cg,rfl⟩⟩))
           go_ret
           exact⟨tAa,aD⟩
         ·replace c20:=ju.mpr c20
          subst c20
          replace H:(some 1)=some r:=tAe
          obtain rfl:=bo H
          have nc:0<=(bZ:Int):=bg tA4
          have ng:bZ< (ag.length:Int):=bg tA4
          obtain⟨lD,ye,mQ,mR,mS⟩:=fe iY.o bZ nc ng
          cases ye
          replace mQ:=(ak.o.cell (b7 w _ mQ)).trans mQ
          replace mR:=(ak.o.cell (b7 w _ mR)).trans mR
          replace mS:=(ak.o.cell (b7 w _ mS)).trans mS
          replace nc:=eq_true nc
          replace ng:=eq_true ng
          go_wp2_with (first|((with_reducible refine c5 (N:=4) rfl ?_);refine dD ?hg (N:=4) ?hd (cs:=#[.string (⟨#[]⟩:ByteArray),.int .i64 0,.int .i64 0]) (t:=77) ?hr ?_;(case hd=>rfl);(case hg=>rfl);(case hr=>first|(go_simp;done)|(go_simp;rfl));intro ez hg nr aU hb;have dN:=ae (aU);have Ks:=ae (bC:w.heap.size<=ez);have Kq:=ae (bC:w.heap.size<=ez);replace ak:=ae (au aD hb);have xP:=ae (fA:cS≠ez);have xQ:=ae (fz:ez≠cS);replace cF:=ae (av (g:=cS) (o:= .cells #[.slice (some lD) ag.length bh,.slice aQ ai.length aG] 29 (0,0)) cM hb);clear hb aU hg;have axu:=xQ.o;have axS:=xP.o;have auY:nr.cell? ⟨ez,0,none⟩=some (.string (⟨#[]⟩:ByteArray)):=ah dN.o 0;have auZ:nr.cell? ⟨ez,1,none⟩=some (.int .i64 0):=ah dN.o 1;have au0:nr.cell? ⟨ez,2,none⟩=some (.int .i64 0):=ah dN.o 2;have awf:=ar dN.o 0;have awg:=ar dN.o 1;have awh:=ar dN.o 2)|((with_reducible refine cV (f:=58) rfl ?_);refine cW (some 28) rfl rfl Tryz.func58 tA1 rfl #[.string ((aw ag bZ).f0)] rfl tA9 ?_;(with_reducible refine(nX.calls k1 ((aw ag bZ).f0) true _ mz.o).mono ?_);rintro e w' ⟨rfl,⟨cg,rfl⟩⟩;refine⟨_,rfl,?_⟩;have SX:nr.cell? ⟨cS,0,none⟩=some (.slice (some lD) ag.length bh):=ah cF.o 0;have SY:nr.cell? ⟨cS,1,none⟩=some (.slice aQ ai.length aG):=ah cF.o 1;have S8:=ar cF.o 0;have S9:=ar cF.o 1)|((with_reducible refine cV (f:=59) rfl ?_);refine cW (some 34) rfl rfl Tryz.func59 tA1 rfl #[.agg #[.slice (some lD) ag.length bh,.slice aQ ai.length aG],.string ((aw ag bZ).f0)] rfl tA9 ?_;(with_reducible refine(px.calls _ _ ag _ _ ai ((aw ag bZ).f0) tV _ ?side1 ?side2 ?side3 ?side4 ke.o).mono ?_);(case side1=>exact Kd.bN iY.o aD);(case side2=>exact uC.o);(case side3=>exact Kd.bN iZ.o aD);(case side4=>exact nA.o);rintro e tZ ⟨rfl,hb⟩;refine⟨_,rfl,?_⟩;replace cF:=ae (av (g:=cS) (o:= .cells #[.slice (some lD) ag.length bh,.slice aQ ai.length aG] 29 (0,0)) cM hb);replace dN:=ae (av (g:=ez) (o:= .cells #[.string ((aw ag bZ).f0),.int .i64 ((aw ag bZ).f1),.int .i64 ((aw ag bZ).f2)] 77 (0,0)) tC6 hb);replace ak:=ae (au aD hb);(try clear hb);have MB:tZ.cell? ⟨ez,0,none⟩=some (.string ((aw ag bZ).f0)):=ah dN.o 0;have MC:tZ.cell? ⟨ez,1,none⟩=some (.int .i64 ((aw ag bZ).f1)):=ah dN.o 1;have amM:tZ.cell? ⟨ez,2,none⟩=some (.int .i64 ((aw ag bZ).f2)):=ah dN.o 2;have ML:=ar dN.o 0;have MM:=ar dN.o 1;have anh:=ar dN.o 2)|((with_reducible refine cV (f:=113) rfl ?_);refine cW (some 40) rfl rfl Tryz.func113 tA1 rfl #[.int .i64 ((aw ag bZ).f1),.int .i64 (-1000000),.int .i64 1000000] rfl tA9 ?_;(with_reducible refine(fQ.calls ((aw ag bZ).f1) (-1000000) 1000000 false _ OC.o).mono ?_);rintro e w' ⟨rfl,⟨cg,rfl⟩⟩;refine⟨_,rfl,?_⟩))
          go_ret
          exact⟨tAa,aD⟩
       ·replace c11:=ju.mpr c11
        subst c11
        replace H:(some 5)=some r:=tAe
        obtain rfl:=bo H
        have nc:0<=(bZ:Int):=bg tA4
        have ng:bZ< (ag.length:Int):=bg tA4
        obtain⟨lD,ye,mQ,mR,mS⟩:=fe iY.o bZ nc ng
        cases ye
        replace mQ:=(ak.o.cell (b7 w _ mQ)).trans mQ
        replace mR:=(ak.o.cell (b7 w _ mR)).trans mR
        replace mS:=(ak.o.cell (b7 w _ mS)).trans mS
        replace nc:=eq_true nc
        replace ng:=eq_true ng
        go_wp2_with (first|((with_reducible refine c5 (N:=4) rfl ?_);refine dD ?hg (N:=4) ?hd (cs:=#[.string (⟨#[]⟩:ByteArray),.int .i64 0,.int .i64 0]) (t:=77) ?hr ?_;(case hd=>rfl);(case hg=>rfl);(case hr=>first|(go_simp;done)|(go_simp;rfl));intro ez hg DG aU hb;have dN:=ae (aU);have Ks:=ae (bC:w.heap.size<=ez);have Kq:=ae (bC:w.heap.size<=ez);replace ak:=ae (au aD hb);have xP:=ae (fA:cS≠ez);have xQ:=ae (fz:ez≠cS);replace cF:=ae (av (g:=cS) (o:= .cells #[.slice (some lD) ag.length bh,.slice aQ ai.length aG] 29 (0,0)) cM hb);clear hb aU hg;have axw:=xQ.o;have axU:=xP.o;have au4:DG.cell? ⟨ez,0,none⟩=some (.string (⟨#[]⟩:ByteArray)):=ah dN.o 0;have au5:DG.cell? ⟨ez,1,none⟩=some (.int .i64 0):=ah dN.o 1;have au6:DG.cell? ⟨ez,2,none⟩=some (.int .i64 0):=ah dN.o 2;have awl:=ar dN.o 0;have awm:=ar dN.o 1;have awn:=ar dN.o 2)|((with_reducible refine cV (f:=58) rfl ?_);refine cW (some 28) rfl rfl Tryz.func58 tA1 rfl #[.string ((aw ag bZ).f0)] rfl tA9 ?_;(with_reducible refine(nX.calls k1 ((aw ag bZ).f0) false _ mz.o).mono ?_);rintro e w' ⟨rfl,⟨cg,rfl⟩⟩;refine⟨_,rfl,?_⟩))
        go_ret
        exact⟨tAa,aD⟩
      ·rw[if_neg c9]at H
       exact absurd H tA2
     ·rw[if_neg c8]at H
      exact absurd H tA2
    ·rw[if_neg c7]at H
     have qh:=cE c7
     clear c7
     by_cases x8:(ai.length:Int)>60
     ·rw[if_pos x8]at H
      have LQ:decide (60< (ai.length:Int))=true:=bn x8
      have LR:decide (60<ai.length)=true:=bn tA0
      clear x8
      obtain rfl:=bo H
      have au7:wr.cell? ⟨cS,0,none⟩=some (.slice bP ag.length bh):=ah cF.o 0
      have au8:wr.cell? ⟨cS,1,none⟩=some (.slice aQ ai.length aG):=ah cF.o 1
      have awo:=ar cF.o 0
      have awp:=ar cF.o 1
      go_wp2
      go_ret
      exact⟨tAa,aD⟩
     ·rw[if_neg x8]at H
      have LQ:decide (60< (ai.length:Int))=false:=cE x8
      have LR:decide (60<ai.length)=false:=cE tA0
      clear x8
      have bk:=ae H
      clear H
      have MD:wr.cell? ⟨cS,0,none⟩=some (.slice bP ag.length bh):=ah cF.o 0
      have ME:wr.cell? ⟨cS,1,none⟩=some (.slice aQ ai.length aG):=ah cF.o 1
      have MN:=ar cF.o 0
      have MO:=ar cF.o 1
      go_wp2
      go_loopg [56] k1 (fun cy v56 w'=>∃(jw:Int),v56= .int .i64 jw/\af (en.l1 cy ai (ai.length:Int) jw ag ai=some r)/\af (cy<=k1)/\af (w'.heap[cS]?=some (.cells #[(.slice bP ag.length bh),(.slice aQ ai.length aG)] 29 (0,0)))/\af (Below w.heap.size w w'))
      case atStart=>exact⟨(0),tA6,bk,⟨bl _⟩,⟨tBb⟩,⟨aD⟩⟩
      case round=>
       clear bk
       try clear bb;try clear lI;try clear sf;try clear c7;try clear qh;try clear x8;try clear LQ;try clear LR;try clear MD;try clear ME;try clear oP;try clear oQ;try clear MN;try clear MO;try clear oT;try clear oU
       obtain⟨jw,rfl,a7,dP,cF,ak⟩:=hrel
       cases gk with
       | zero=>exact absurd a7.o (by simp[en.l1])
       | succ k2=>
        have H:=a7.o
        clear a7
        simp only[en.l1]at H
        by_cases zE:jw< (ai.length:Int)
        ·rw[if_pos zE]at H
         have RD:=bn zE
         clear zE
         by_cases rk:0<=jw
         ·rw[if_pos rk]at H
          have Ix:=bn rk
          clear rk
          by_cases LU:jw< (ai.length:Int)
          ·rw[if_pos LU]at H
           have atT:=bn LU
           clear LU
           replace H:=eL.mp H
           obtain⟨tW,VP,H⟩:=H
           replace H:(if tW=0 then(en.l1 k2 ai (ai.length:Int) (wrap64 (jw+1)) ag ai)else(some tW))=some r:=H
           have yX:=ae VP
           clear VP
           by_cases pA:tW=0
           ·rw[if_pos pA]at H
            have Iy:(tW==0)=true:=beq_iff_eq.mpr pA
            have ajZ:(tW !=0)=false:=bne_eq_false_iff_eq.mpr pA
            clear pA
            have bk:=ae H
            clear H
            have C2:0<=(jw:Int):=bg tA4
            have Dj:jw< (ai.length:Int):=bg tA4
            obtain⟨xU,GL,Iw,RY,Cy,Cz,I3,IX⟩:=rh iZ.o jw C2 Dj
            cases RY
            replace Cy:=(ak.o.cell (b7 w _ Cy)).trans Cy
            replace Cz:=(ak.o.cell (b7 w _ Cz)).trans Cz
            have PI:=ae IX
            have O6:=ae I3
            clear IX I3
            replace C2:=eq_true C2
            replace Dj:=eq_true Dj
            go_wp2_with (first|((with_reducible refine c5 (N:=6) rfl ?_);refine dD ?hg (N:=6) ?hd (cs:=#[.int .i64 0,.slice none 0 0]) (t:=33) ?hr ?_;(case hd=>rfl);(case hg=>rfl);(case hr=>first|(go_simp;done)|(go_simp;rfl));intro qp hg Oj aU hb;have rR:=ae (aU);have afX:=ae (bC:w.heap.size<=qp);have afH:=ae (bC:w.heap.size<=qp);replace ak:=ae (au aD hb);have QK:=ae (fA:cS≠qp);have QL:=ae (fz:qp≠cS);replace cF:=ae (av (g:=cS) (o:= .cells #[.slice bP ag.length bh,.slice (some xU) ai.length aG] 29 (0,0)) cM hb);clear hb aU hg;have axz:=QL.o;have axX:=QK.o;have avc:Oj.cell? ⟨qp,0,none⟩=some (.int .i64 0):=ah rR.o 0;have avd:Oj.cell? ⟨qp,1,none⟩=some (.slice none 0 0):=ah rR.o 1;have awt:=ar rR.o 0;have awu:=ar rR.o 1;have ave:Oj.cell? ⟨cS,0,none⟩=some (.slice bP ag.length bh):=ah cF.o 0;have avf:Oj.cell? ⟨cS,1,none⟩=some (.slice (some xU) ai.length aG):=ah cF.o 1;have awv:=ar cF.o 0;have aww:=ar cF.o 1)|((with_reducible refine cV (f:=52) rfl ?_);refine cW (some 62) rfl rfl Tryz.func52 tA1 rfl #[.agg #[.slice bP ag.length bh,.slice (some xU) ai.length aG],.agg #[.int .i64 ((bH ai jw).f0),.slice GL ((bH ai jw).f1).length Iw]] rfl tA9 ?_;(with_reducible refine(mh.calls k2 _ _ ag _ _ ai ((bH ai jw).f0) _ _ ((bH ai jw).f1) tW _ ?side1 ?side2 ?side3 ?side4 ?side5 ?side6 yX.o).mono ?_);(case side1=>exact Kd.bN iY.o aD);(case side2=>exact uC.o);(case side3=>exact Kd.bN iZ.o aD);(case side4=>exact nA.o);(case side5=>exact Kd.bN PI.o aD);(case side6=>exact O6.o);rintro e Vx ⟨rfl,hb⟩;refine⟨_,rfl,?_⟩;replace cF:=ae (av (g:=cS) (o:= .cells #[.slice bP ag.length bh,.slice (some xU) ai.length aG] 29 (0,0)) cM hb);replace rR:=ae (av (g:=qp) (o:= .cells #[.int .i64 ((bH ai jw).f0),.slice GL ((bH ai jw).f1).length Iw] 33 (0,0)) tDq hb);replace ak:=ae (au aD hb);(try clear hb);(try clear hi)))
            go_roundg k2
            case measure=>have:=dU.o;have:=dP.o;omega
            case rel=>exact⟨(wrap64 (jw+1)),tA6,bk,⟨by have:=dU.o;have:=dP.o;omega⟩,⟨tBb⟩,⟨aD⟩⟩
           ·rw[if_neg pA]at H
            have Iy:(tW==0)=false:=ey.mpr pA
            have ajZ:(tW !=0)=true:=bne_iff_ne.mpr pA
            obtain rfl:=bo H
            have C2:0<=(jw:Int):=bg tA4
            have Dj:jw< (ai.length:Int):=bg tA4
            obtain⟨xU,GL,Iw,RY,Cy,Cz,I3,IX⟩:=rh iZ.o jw C2 Dj
            cases RY
            replace Cy:=(ak.o.cell (b7 w _ Cy)).trans Cy
            replace Cz:=(ak.o.cell (b7 w _ Cz)).trans Cz
            have PI:=ae IX
            have O6:=ae I3
            clear IX I3
            replace C2:=eq_true C2
            replace Dj:=eq_true Dj
            go_wp2_with (first|((with_reducible refine c5 (N:=6) rfl ?_);refine dD ?hg (N:=6) ?hd (cs:=#[.int .i64 0,.slice none 0 0]) (t:=33) ?hr ?_;(case hd=>rfl);(case hg=>rfl);(case hr=>first|(go_simp;done)|(go_simp;rfl));intro qp hg Ol aU hb;have rR:=ae (aU);have afX:=ae (bC:w.heap.size<=qp);have afH:=ae (bC:w.heap.size<=qp);replace ak:=ae (au aD hb);have QK:=ae (fA:cS≠qp);have QL:=ae (fz:qp≠cS);replace cF:=ae (av (g:=cS) (o:= .cells #[.slice bP ag.length bh,.slice (some xU) ai.length aG] 29 (0,0)) cM hb);clear hb aU hg;have axB:=QL.o;have axZ:=QK.o;have avi:Ol.cell? ⟨qp,0,none⟩=some (.int .i64 0):=ah rR.o 0;have avj:Ol.cell? ⟨qp,1,none⟩=some (.slice none 0 0):=ah rR.o 1;have awz:=ar rR.o 0;have awA:=ar rR.o 1;have avm:Ol.cell? ⟨cS,0,none⟩=some (.slice bP ag.length bh):=ah cF.o 0;have avn:Ol.cell? ⟨cS,1,none⟩=some (.slice (some xU) ai.length aG):=ah cF.o 1;have awC:=ar cF.o 0;have awD:=ar cF.o 1)|((with_reducible refine cV (f:=52) rfl ?_);refine cW (some 62) rfl rfl Tryz.func52 tA1 rfl #[.agg #[.slice bP ag.length bh,.slice (some xU) ai.length aG],.agg #[.int .i64 ((bH ai jw).f0),.slice GL ((bH ai jw).f1).length Iw]] rfl tA9 ?_;(with_reducible refine(mh.calls k2 _ _ ag _ _ ai ((bH ai jw).f0) _ _ ((bH ai jw).f1) tW _ ?side1 ?side2 ?side3 ?side4 ?side5 ?side6 yX.o).mono ?_);(case side1=>exact Kd.bN iY.o aD);(case side2=>exact uC.o);(case side3=>exact Kd.bN iZ.o aD);(case side4=>exact nA.o);(case side5=>exact Kd.bN PI.o aD);(case side6=>exact O6.o);rintro e Vy ⟨rfl,hb⟩;refine⟨_,rfl,?_⟩;replace cF:=ae (av (g:=cS) (o:= .cells #[.slice bP ag.length bh,.slice (some xU) ai.length aG] 29 (0,0)) cM hb);replace rR:=ae (av (g:=qp) (o:= .cells #[.int .i64 ((bH ai jw).f0),.slice GL ((bH ai jw).f1).length Iw] 33 (0,0)) tDq hb);replace ak:=ae (au aD hb);(try clear hb);(try clear hi)))
            go_ret
            exact⟨tAa,aD⟩
          ·rw[if_neg LU]at H
           exact absurd H tA2
         ·rw[if_neg rk]at H
          exact absurd H tA2
        ·rw[if_neg zE]at H
         have RD:=cE zE
         clear zE
         have bk:=ae H
         clear H
         have aat:wr.cell? ⟨cS,0,none⟩=some (.slice bP ag.length bh):=ah cF.o 0
         have aau:wr.cell? ⟨cS,1,none⟩=some (.slice aQ ai.length aG):=ah cF.o 1
         have aaO:=ar cF.o 0
         have aaP:=ar cF.o 1
         go_wp2
         go_loopg [70] k2 (fun cy v70 w'=>∃(nt:Int),v70= .int .i64 nt/\af (en.l2 cy 1 ag (ag.length:Int) nt ag ai=some r)/\af (cy<=k2)/\af (w'.heap[cS]?=some (.cells #[(.slice bP ag.length bh),(.slice aQ ai.length aG)] 29 (0,0)))/\af (Below w.heap.size w w'))
         case atStart=>exact⟨(0),tA6,bk,⟨bl _⟩,⟨tBb⟩,⟨aD⟩⟩
         case round=>
          clear bk
          try clear bb;try clear lI;try clear sf;try clear c7;try clear qh;try clear x8;try clear LQ;try clear LR;try clear zE;try clear RD;try clear MD;try clear ME;try clear aat;try clear aau;try clear oP;try clear oQ;try clear MN;try clear MO;try clear aaO;try clear aaP;try clear oT;try clear oU
          obtain⟨nt,rfl,a7,qR,cF,ak⟩:=hrel
          cases gk with
          | zero=>exact absurd a7.o (by simp[en.l2])
          | succ k3=>
           have H:=a7.o
           clear a7
           simp only[en.l2]at H
           by_cases BU:nt< (ag.length:Int)
           ·rw[if_pos BU]at H
            have YF:=bn BU
            clear BU
            by_cases LX:0<=nt
            ·rw[if_pos LX]at H
             have atW:=bn LX
             clear LX
             by_cases LY:nt< (ag.length:Int)
             ·rw[if_pos LY]at H
              have atX:=bn LY
              clear LY
              by_cases EW:((aw ag nt).f1)>((aw ag nt).f2)
              ·rw[if_pos EW]at H
               have aj2:decide (((aw ag nt).f2)< ((aw ag nt).f1))=true:=bn EW
               clear EW
               obtain rfl:=bo H
               have C3:0<=(nt:Int):=bg tA4
               have Dk:nt< (ag.length:Int):=bg tA4
               obtain⟨Rm,RZ,CA,CB,CC⟩:=fe iY.o nt C3 Dk
               cases RZ
               replace CA:=(ak.o.cell (b7 w _ CA)).trans CA
               replace CB:=(ak.o.cell (b7 w _ CB)).trans CB
               replace CC:=(ak.o.cell (b7 w _ CC)).trans CC
               replace C3:=eq_true C3
               replace Dk:=eq_true Dk
               go_wp2_with (first|((with_reducible refine c5 (N:=10) rfl ?_);refine dD ?hg (N:=10) ?hd (cs:=#[.string (⟨#[]⟩:ByteArray),.int .i64 0,.int .i64 0]) (t:=77) ?hr ?_;(case hd=>rfl);(case hg=>rfl);(case hr=>first|(go_simp;done)|(go_simp;rfl));intro qq hg Vz aU hb;have rS:=ae (aU);have afY:=ae (bC:w.heap.size<=qq);have afI:=ae (bC:w.heap.size<=qq);replace ak:=ae (au aD hb);have Et:=ae (fA:cS≠qq);have QM:=ae (fz:qq≠cS);replace cF:=ae (av (g:=cS) (o:= .cells #[.slice (some Rm) ag.length bh,.slice aQ ai.length aG] 29 (0,0)) cM hb);clear hb aU hg;have axD:=QM.o;have ax1:=Et.o;have avq:Vz.cell? ⟨qq,0,none⟩=some (.string (⟨#[]⟩:ByteArray)):=ah rS.o 0;have avr:Vz.cell? ⟨qq,1,none⟩=some (.int .i64 0):=ah rS.o 1;have avs:Vz.cell? ⟨qq,2,none⟩=some (.int .i64 0):=ah rS.o 2;have awG:=ar rS.o 0;have awH:=ar rS.o 1;have awI:=ar rS.o 2))
               go_ret
               exact⟨tAa,aD⟩
              ·rw[if_neg EW]at H
               have aj2:decide (((aw ag nt).f2)< ((aw ag nt).f1))=false:=cE EW
               clear EW
               have bk:=ae H
               clear H
               have C3:0<=(nt:Int):=bg tA4
               have Dk:nt< (ag.length:Int):=bg tA4
               obtain⟨Rm,RZ,CA,CB,CC⟩:=fe iY.o nt C3 Dk
               cases RZ
               replace CA:=(ak.o.cell (b7 w _ CA)).trans CA
               replace CB:=(ak.o.cell (b7 w _ CB)).trans CB
               replace CC:=(ak.o.cell (b7 w _ CC)).trans CC
               replace C3:=eq_true C3
               replace Dk:=eq_true Dk
               go_wp2_with (first|((with_reducible refine c5 (N:=10) rfl ?_);refine dD ?hg (N:=10) ?hd (cs:=#[.string (⟨#[]⟩:ByteArray),.int .i64 0,.int .i64 0]) (t:=77) ?hr ?_;(case hd=>rfl);(case hg=>rfl);(case hr=>first|(go_simp;done)|(go_simp;rfl));intro qq hg VA aU hb;have rS:=ae (aU);have afY:=ae (bC:w.heap.size<=qq);have afI:=ae (bC:w.heap.size<=qq);replace ak:=ae (au aD hb);have Et:=ae (fA:cS≠qq);have QM:=ae (fz:qq≠cS);replace cF:=ae (av (g:=cS) (o:= .cells #[.slice (some Rm) ag.length bh,.slice aQ ai.length aG] 29 (0,0)) cM hb);clear hb aU hg;have axE:=QM.o;have ax2:=Et.o;have avt:VA.cell? ⟨qq,0,none⟩=some (.string (⟨#[]⟩:ByteArray)):=ah rS.o 0;have avu:VA.cell? ⟨qq,1,none⟩=some (.int .i64 0):=ah rS.o 1;have avv:VA.cell? ⟨qq,2,none⟩=some (.int .i64 0):=ah rS.o 2;have awJ:=ar rS.o 0;have awK:=ar rS.o 1;have awL:=ar rS.o 2))
               go_roundg k3
               case measure=>have:=dU.o;have:=dP.o;have:=qR.o;omega
               case rel=>exact⟨(wrap64 (nt+1)),tA6,bk,⟨tEf⟩,⟨by(with_reducible repeat(first|refine bD ?_ _|refine bz ?_|refine aH ?_ _));refine lH ?_ Et.o _;(with_reducible repeat(first|refine bD ?_ _|refine bz ?_|refine aH ?_ _));refine lH ?_ Et.o _;(with_reducible repeat(first|refine bD ?_ _|refine bz ?_|refine aH ?_ _));refine lH ?_ Et.o _;(with_reducible repeat(first|refine bD ?_ _|refine bz ?_|refine aH ?_ _));exact cF.o⟩,⟨aD⟩⟩
             ·rw[if_neg LY]at H
              exact absurd H tA2
            ·rw[if_neg LX]at H
             exact absurd H tA2
           ·rw[if_neg BU]at H
            have YF:=cE BU
            clear BU
            have bk:=ae H
            clear H
            have aax:wr.cell? ⟨cS,0,none⟩=some (.slice bP ag.length bh):=ah cF.o 0
            have aay:wr.cell? ⟨cS,1,none⟩=some (.slice aQ ai.length aG):=ah cF.o 1
            have aaS:=ar cF.o 0
            have aaT:=ar cF.o 1
            go_wp2
            go_loopg [8,83] k3 (fun cy v8 v83 w'=>∃(DL:Int) (lU:Int),v8= .int .i64 DL/\v83= .int .i64 lU/\af (en.l3 cy DL ag (ag.length:Int) lU=some r)/\af (cy<=k3)/\af (w'.heap[cS]?=some (.cells #[(.slice bP ag.length bh),(.slice aQ ai.length aG)] 29 (0,0)))/\af (Below w.heap.size w w'))
            case atStart=>exact⟨(1),(0),tA6,tA6,bk,⟨bl _⟩,⟨tBb⟩,⟨aD⟩⟩
            case round=>
             clear bk
             try clear bb;try clear lI;try clear sf;try clear c7;try clear qh;try clear x8;try clear LQ;try clear LR;try clear zE;try clear RD;try clear BU;try clear YF;try clear MD;try clear ME;try clear aat;try clear aau;try clear oP;try clear oQ;try clear aax;try clear aay;try clear MN;try clear MO;try clear aaO;try clear aaP;try clear oT;try clear oU;try clear aaS;try clear aaT
             obtain⟨DL,lU,rfl,rfl,a7,vJ,cF,ak⟩:=hrel
             cases gk with
             | zero=>exact absurd a7.o (by simp[en.l3])
             | succ k4=>
              have H:=a7.o
              clear a7
              simp only[en.l3]at H
              by_cases EZ:lU< (ag.length:Int)
              ·rw[if_pos EZ]at H
               have aj4:=bn EZ
               clear EZ
               by_cases L1:0<=lU
               ·rw[if_pos L1]at H
                have at0:=bn L1
                clear L1
                by_cases L3:lU< (ag.length:Int)
                ·rw[if_pos L3]at H
                 have at1:=bn L3
                 clear L3
                 by_cases E0:(wrap64 (DL * (wrap64 ((wrap64 (((aw ag lU).f2)- ((aw ag lU).f1)))+1))))>200000
                 ·rw[if_pos E0]at H
                  have aj5:decide (200000< (wrap64 (DL * (wrap64 ((wrap64 (((aw ag lU).f2)- ((aw ag lU).f1)))+1)))))=true:=bn E0
                  clear E0
                  obtain rfl:=bo H
                  have C4:0<=(lU:Int):=bg tA4
                  have Dl:lU< (ag.length:Int):=bg tA4
                  obtain⟨Rn,R1,CD,CF,CG⟩:=fe iY.o lU C4 Dl
                  cases R1
                  replace CD:=(ak.o.cell (b7 w _ CD)).trans CD
                  replace CF:=(ak.o.cell (b7 w _ CF)).trans CF
                  replace CG:=(ak.o.cell (b7 w _ CG)).trans CG
                  replace C4:=eq_true C4
                  replace Dl:=eq_true Dl
                  go_wp2_with (first|((with_reducible refine c5 (N:=12) rfl ?_);refine dD ?hg (N:=12) ?hd (cs:=#[.string (⟨#[]⟩:ByteArray),.int .i64 0,.int .i64 0]) (t:=77) ?hr ?_;(case hd=>rfl);(case hg=>rfl);(case hr=>first|(go_simp;done)|(go_simp;rfl));intro qs hg VD aU hb;have rT:=ae (aU);have afZ:=ae (bC:w.heap.size<=qs);have afJ:=ae (bC:w.heap.size<=qs);replace ak:=ae (au aD hb);have Eu:=ae (fA:cS≠qs);have QN:=ae (fz:qs≠cS);replace cF:=ae (av (g:=cS) (o:= .cells #[.slice (some Rn) ag.length bh,.slice aQ ai.length aG] 29 (0,0)) cM hb);clear hb aU hg;have axH:=QN.o;have ax5:=Eu.o;have avA:VD.cell? ⟨qs,0,none⟩=some (.string (⟨#[]⟩:ByteArray)):=ah rT.o 0;have avB:VD.cell? ⟨qs,1,none⟩=some (.int .i64 0):=ah rT.o 1;have avC:VD.cell? ⟨qs,2,none⟩=some (.int .i64 0):=ah rT.o 2;have awQ:=ar rT.o 0;have awR:=ar rT.o 1;have awS:=ar rT.o 2))
                  go_ret
                  exact⟨tAa,aD⟩
                 ·rw[if_neg E0]at H
                  have aj5:decide (200000< (wrap64 (DL * (wrap64 ((wrap64 (((aw ag lU).f2)- ((aw ag lU).f1)))+1)))))=false:=cE E0
                  clear E0
                  have bk:=ae H
                  clear H
                  have C4:0<=(lU:Int):=bg tA4
                  have Dl:lU< (ag.length:Int):=bg tA4
                  obtain⟨Rn,R1,CD,CF,CG⟩:=fe iY.o lU C4 Dl
                  cases R1
                  replace CD:=(ak.o.cell (b7 w _ CD)).trans CD
                  replace CF:=(ak.o.cell (b7 w _ CF)).trans CF
                  replace CG:=(ak.o.cell (b7 w _ CG)).trans CG
                  replace C4:=eq_true C4
                  replace Dl:=eq_true Dl
                  go_wp2_with (first|((with_reducible refine c5 (N:=12) rfl ?_);refine dD ?hg (N:=12) ?hd (cs:=#[.string (⟨#[]⟩:ByteArray),.int .i64 0,.int .i64 0]) (t:=77) ?hr ?_;(case hd=>rfl);(case hg=>rfl);(case hr=>first|(go_simp;done)|(go_simp;rfl));intro qs hg VE aU hb;have rT:=ae (aU);have afZ:=ae (bC:w.heap.size<=qs);have afJ:=ae (bC:w.heap.size<=qs);replace ak:=ae (au aD hb);have Eu:=ae (fA:cS≠qs);have QN:=ae (fz:qs≠cS);replace cF:=ae (av (g:=cS) (o:= .cells #[.slice (some Rn) ag.length bh,.slice aQ ai.length aG] 29 (0,0)) cM hb);clear hb aU hg;have axI:=QN.o;have ax6:=Eu.o;have avD:VE.cell? ⟨qs,0,none⟩=some (.string (⟨#[]⟩:ByteArray)):=ah rT.o 0;have avE:VE.cell? ⟨qs,1,none⟩=some (.int .i64 0):=ah rT.o 1;have avF:VE.cell? ⟨qs,2,none⟩=some (.int .i64 0):=ah rT.o 2;have awT:=ar rT.o 0;have awU:=ar rT.o 1;have awV:=ar rT.o 2))
                  go_roundg k4
                  case measure=>have:=dU.o;have:=dP.o;have:=qR.o;have:=vJ.o;omega
                  case rel=>exact⟨(wrap64 (DL * (wrap64 ((wrap64 (((aw ag lU).f2)- ((aw ag lU).f1)))+1)))),(wrap64 (lU+1)),tA6,tA6,bk,⟨tEa⟩,⟨by(with_reducible repeat(first|refine bD ?_ _|refine bz ?_|refine aH ?_ _));refine lH ?_ Eu.o _;(with_reducible repeat(first|refine bD ?_ _|refine bz ?_|refine aH ?_ _));refine lH ?_ Eu.o _;(with_reducible repeat(first|refine bD ?_ _|refine bz ?_|refine aH ?_ _));refine lH ?_ Eu.o _;(with_reducible repeat(first|refine bD ?_ _|refine bz ?_|refine aH ?_ _));exact cF.o⟩,⟨aD⟩⟩
                ·rw[if_neg L3]at H
                 exact absurd H tA2
               ·rw[if_neg L1]at H
                exact absurd H tA2
              ·rw[if_neg EZ]at H
               have aj4:=cE EZ
               clear EZ
               obtain rfl:=bo H
               go_wp2
               go_ret
               exact⟨tAa,aD⟩
end Go.Proofs.YtjgakaembhmhpaaGreatDoor.PA
