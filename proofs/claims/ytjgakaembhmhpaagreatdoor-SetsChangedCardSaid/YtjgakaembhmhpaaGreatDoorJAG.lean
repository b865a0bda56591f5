/- Part of the proof of SetsChanged: printed contracts, struck. It holds without further conditions. -/
import Derived.Test.YtjgakaembhmhpaaGreatDoorJAF
set_option linter.unusedVariables false
set_option linter.unusedSimpArgs false
set_option maxHeartbeats 16000000
set_option maxRecDepth 100000
namespace Go.Proofs.YtjgakaembhmhpaaGreatDoor.PA
open Go.RowKit Go.Proofs.YtjgakaembhmhpaaGreatDoorW.PrintWords Go.Proofs.YtjgakaembhmhpaaGreatDoorW.PrintLast Go.Proofs.YtjgakaembhmhpaaGreatDoorW.PrintMore
open Go.Proofs.YtjgakaembhmhpaaGreatDoorM
attribute [local go_sem] str_leq str_gtr str_geq
attribute [local go_sem] max2_int min2_int max_two min_two max_three min_three max_four min_four
mutual
def gq.l0:Nat->List (ay)->Int->Int->Int->List (ay)->Option (Int)
 | 0,_,_,_,_,_=>none
 | k+1,lS,j7,gW,Ke,DK=>if gW<j7 then(if 0<=gW then(if gW< (lS.length:Int)then((nX.f k ((aJ lS gW).f0)).bind fun N6=>(if N6=true then(if((aJ lS gW).f1)=0 then(gq.gR k gW lS j7 gW true Ke DK ((aJ lS gW).f0) ((aJ lS gW).f1))else((fQ.f ((aJ lS gW).f1) (-1000) 1000).bind fun vA=>(gq.gR k gW lS j7 gW (!vA) Ke DK ((aJ lS gW).f0) ((aJ lS gW).f1))))else(some 5)))else(none))else(none))else(some 0)
def gq.gR:Nat->Int->List (ay)->Int->Int->Bool->Int->List (ay)->ByteArray->Int->Option (Int)
 | 0,_,_,_,_,_,_,_,_,_=>none
 | k+1,x3,lS,j7,gW,kG,Ke,DK,as8,azm=>if kG=true then(some 1)else(if x3>0 then(if 0<=(wrap64 (x3-1))then(if(wrap64 (x3-1))< (DK.length:Int)then(if((Op.bytesLess (((aJ DK (wrap64 (x3-1))).f0).toList) as8.toList)=true)then(gq.l0 k lS j7 (wrap64 (gW+1)) Ke DK)else(some 7))else(none))else(none))else(gq.l0 k lS j7 (wrap64 (gW+1)) Ke DK))
end
def gq.f (k:Nat)(bO:Int)(ai:List (ay)):Option (Int):=(fQ.f bO (-1000000) 1000000).bind fun Gj=>(if Gj=true then(if(ai.length:Int)>12 then(some 2)else(gq.l0 k ai (ai.length:Int) 0 bO ai))else(some 1))
theorem gq.calls (k:Nat)(bO:Int)(aQ:Option Addr)(aG:Nat)(ai:List (ay))(r:Int)(w:World)(h9:Kd.C cf w aQ ai.length ai)(iH:ai.length<=aG)(h:gq.f k bO ai=some r):
  Calls Tryz.prog 114 #[.agg #[.int .i64 bO,.slice aQ ai.length aG]] w fun e w'=>e= .returned (.int .i64 r)/\Below w.heap.size w w':=by
 have Ci:=Tryz.underlying33
 have Nf:=Tryz.underlying79
 have iZ:=ae h9
 have nA:=ae iH
 clear h9 iH
 have ak:=ae (Below.refl w.heap.size w)
 have H:((fQ.f bO (-1000000) 1000000).bind fun Gj=>(if Gj=true then(if(ai.length:Int)>12 then(some 2)else(gq.l0 k ai (ai.length:Int) 0 bO ai))else(some 1)))=some r:=h
 clear h
 replace H:=eL.mp H
 obtain⟨Gj,nv,H⟩:=H
 replace H:(if Gj=true then(if(ai.length:Int)>12 then(some 2)else(gq.l0 k ai (ai.length:Int) 0 bO ai))else(some 1))=some r:=H
 have fG:=ae nv
 clear nv
 by_cases aM:Gj=true
 ·subst aM
  replace H:(if(ai.length:Int)>12 then(some 2)else(gq.l0 k ai (ai.length:Int) 0 bO ai))=some r:=tAd
  by_cases aV:(ai.length:Int)>12
  ·rw[if_pos aV]at H
   have fB:decide (12< (ai.length:Int))=true:=bn aV
   have lJ:decide (12<ai.length)=true:=bn tA0
   clear aV
   obtain rfl:=bo H
   go_enter Tryz.func114,Tryz.ntmps114
   go_wp2_with (first|((with_reducible refine c5 (N:=1) rfl ?_);refine dD ?hg (N:=1) ?hd (cs:=#[.int .i64 bO,.slice aQ ai.length aG]) (t:=33) ?hr ?_;(case hd=>rfl);(case hg=>rfl);(case hr=>first|(go_simp;done)|(go_simp;rfl));intro dc hg aZ aU hb;have dw:=ae (aU);have y0:=ae (bC:w.heap.size<=dc);have yZ:=ae (bC:w.heap.size<=dc);replace ak:=ae (au aD hb);clear hb aU hg;have oP:aZ.cell? ⟨dc,0,none⟩=some (.int .i64 bO):=ah dw.o 0;have oQ:aZ.cell? ⟨dc,1,none⟩=some (.slice aQ ai.length aG):=ah dw.o 1;have oT:=ar dw.o 0;have oU:=ar dw.o 1)|(go_at_call 113;(with_reducible refine(fQ.calls bO (-1000000) 1000000 true _ fG.o).mono ?_);rintro e w' ⟨rfl,⟨cg,rfl⟩⟩;(try first|exact⟨rfl,_,dt _ _ _⟩|exact⟨rfl,_,Eq.trans (dt _ _ _) (congrArg (World.drewN _) (Nat.add_assoc _ _ _))⟩)))
   repeat(go_quiet (first|((with_reducible refine c5 (N:=1) rfl ?_);refine dD ?hg (N:=1) ?hd (cs:=#[.int .i64 bO,.slice aQ ai.length aG]) (t:=33) ?hr ?_;(case hd=>rfl);(case hg=>rfl);(case hr=>first|(go_simp;done)|(go_simp;rfl));intro dc hg aZ aU hb;have dw:=ae (aU);have y0:=ae (bC:w.heap.size<=dc);have yZ:=ae (bC:w.heap.size<=dc);replace ak:=ae (au aD hb);clear hb aU hg;have oP:aZ.cell? ⟨dc,0,none⟩=some (.int .i64 bO):=ah dw.o 0;have oQ:aZ.cell? ⟨dc,1,none⟩=some (.slice aQ ai.length aG):=ah dw.o 1;have oT:=ar dw.o 0;have oU:=ar dw.o 1)|(go_at_call 113;(with_reducible refine(fQ.calls bO (-1000000) 1000000 true _ fG.o).mono ?_);rintro e w' ⟨rfl,⟨cg,rfl⟩⟩;(try first|exact⟨rfl,_,dt _ _ _⟩|exact⟨rfl,_,Eq.trans (dt _ _ _) (congrArg (World.drewN _) (Nat.add_assoc _ _ _))⟩)));try go_wp2_with (first|((with_reducible refine c5 (N:=1) rfl ?_);refine dD ?hg (N:=1) ?hd (cs:=#[.int .i64 bO,.slice aQ ai.length aG]) (t:=33) ?hr ?_;(case hd=>rfl);(case hg=>rfl);(case hr=>first|(go_simp;done)|(go_simp;rfl));intro dc hg aZ aU hb;have dw:=ae (aU);have y0:=ae (bC:w.heap.size<=dc);have yZ:=ae (bC:w.heap.size<=dc);replace ak:=ae (au aD hb);clear hb aU hg;have oP:aZ.cell? ⟨dc,0,none⟩=some (.int .i64 bO):=ah dw.o 0;have oQ:aZ.cell? ⟨dc,1,none⟩=some (.slice aQ ai.length aG):=ah dw.o 1;have oT:=ar dw.o 0;have oU:=ar dw.o 1)|(go_at_call 113;(with_reducible refine(fQ.calls bO (-1000000) 1000000 true _ fG.o).mono ?_);rintro e w' ⟨rfl,⟨cg,rfl⟩⟩;(try first|exact⟨rfl,_,dt _ _ _⟩|exact⟨rfl,_,Eq.trans (dt _ _ _) (congrArg (World.drewN _) (Nat.add_assoc _ _ _))⟩))))
   go_ret
   exact⟨tAa,aD⟩
  ·rw[if_neg aV]at H
   have fB:decide (12< (ai.length:Int))=false:=cE aV
   have lJ:decide (12<ai.length)=false:=cE tA0
   clear aV
   have bk:=ae H
   clear H
   go_enter Tryz.func114,Tryz.ntmps114
   go_wp2_with (first|((with_reducible refine c5 (N:=1) rfl ?_);refine dD ?hg (N:=1) ?hd (cs:=#[.int .i64 bO,.slice aQ ai.length aG]) (t:=33) ?hr ?_;(case hd=>rfl);(case hg=>rfl);(case hr=>first|(go_simp;done)|(go_simp;rfl));intro dc hg bt aU hb;have dw:=ae (aU);have y0:=ae (bC:w.heap.size<=dc);have yZ:=ae (bC:w.heap.size<=dc);replace ak:=ae (au aD hb);clear hb aU hg;have tD:bt.cell? ⟨dc,0,none⟩=some (.int .i64 bO):=ah dw.o 0;have tE:bt.cell? ⟨dc,1,none⟩=some (.slice aQ ai.length aG):=ah dw.o 1;have tG:=ar dw.o 0;have tH:=ar dw.o 1)|(go_at_call 113;(with_reducible refine(fQ.calls bO (-1000000) 1000000 true _ fG.o).mono ?_);rintro e w' ⟨rfl,⟨cg,rfl⟩⟩;(try first|exact⟨rfl,_,dt _ _ _⟩|exact⟨rfl,_,Eq.trans (dt _ _ _) (congrArg (World.drewN _) (Nat.add_assoc _ _ _))⟩)))
   repeat(go_quiet (first|((with_reducible refine c5 (N:=1) rfl ?_);refine dD ?hg (N:=1) ?hd (cs:=#[.int .i64 bO,.slice aQ ai.length aG]) (t:=33) ?hr ?_;(case hd=>rfl);(case hg=>rfl);(case hr=>first|(go_simp;done)|(go_simp;rfl));intro dc hg bt aU hb;have dw:=ae (aU);have y0:=ae (bC:w.heap.size<=dc);have yZ:=ae (bC:w.heap.size<=dc);replace ak:=ae (au aD hb);clear hb aU hg;have tD:bt.cell? ⟨dc,0,none⟩=some (.int .i64 bO):=ah dw.o 0;have tE:bt.cell? ⟨dc,1,none⟩=some (.slice aQ ai.length aG):=ah dw.o 1;have tG:=ar dw.o 0;have tH:=ar dw.o 1)|(go_at_call 113;(with_reducible refine(fQ.calls bO (-1000000) 1000000 true _ fG.o).mono ?_);rintro e w' ⟨rfl,⟨cg,rfl⟩⟩;(try first|exact⟨rfl,_,dt _ _ _⟩|exact⟨rfl,_,Eq.trans (dt _ _ _) (congrArg (World.drewN _) (Nat.add_assoc _ _ _))⟩)));try go_wp2_with (first|((with_reducible refine c5 (N:=1) rfl ?_);refine dD ?hg (N:=1) ?hd (cs:=#[.int .i64 bO,.slice aQ ai.length aG]) (t:=33) ?hr ?_;(case hd=>rfl);(case hg=>rfl);(case hr=>first|(go_simp;done)|(go_simp;rfl));intro dc hg bt aU hb;have dw:=ae (aU);have y0:=ae (bC:w.heap.size<=dc);have yZ:=ae (bC:w.heap.size<=dc);replace ak:=ae (au aD hb);clear hb aU hg;have tD:bt.cell? ⟨dc,0,none⟩=some (.int .i64 bO):=ah dw.o 0;have tE:bt.cell? ⟨dc,1,none⟩=some (.slice aQ ai.length aG):=ah dw.o 1;have tG:=ar dw.o 0;have tH:=ar dw.o 1)|(go_at_call 113;(with_reducible refine(fQ.calls bO (-1000000) 1000000 true _ fG.o).mono ?_);rintro e w' ⟨rfl,⟨cg,rfl⟩⟩;(try first|exact⟨rfl,_,dt _ _ _⟩|exact⟨rfl,_,Eq.trans (dt _ _ _) (congrArg (World.drewN _) (Nat.add_assoc _ _ _))⟩))))
   go_loopg [16] k (fun cy v16 w'=>∃(bE:Int),v16= .int .i64 bE/\af (gq.l0 cy ai (ai.length:Int) bE bO ai=some r)/\af (cy<=k)/\af (w'.heap[dc]?=some (.cells #[.int .i64 bO,(.slice aQ ai.length aG)] 33 (0,0)))/\af (Below w.heap.size w w'))
   case atStart=>exact⟨(0),tA6,bk,⟨bl _⟩,⟨tCf⟩,⟨aD⟩⟩
   case round=>
    clear bk
    try clear aM;try clear aV;try clear fB;try clear lJ;try clear tD;try clear tE;try clear tG;try clear tH
    obtain⟨bE,rfl,a7,dU,dw,ak⟩:=hrel
    cases gk with
    | zero=>exact absurd a7.o (by simp[gq.l0])
    | succ k1=>
     have H:=a7.o
     clear a7
     simp only[gq.l0]at H
     by_cases c9:bE< (ai.length:Int)
     ·rw[if_pos c9]at H
      have wh:=bn c9
      clear c9
      by_cases c10:0<=bE
      ·rw[if_pos c10]at H
       have xY:=bn c10
       clear c10
       by_cases c11:bE< (ai.length:Int)
       ·rw[if_pos c11]at H
        have BO:=bn c11
        clear c11
        replace H:=eL.mp H
        obtain⟨N6,om,H⟩:=H
        replace H:(if N6=true then(if((aJ ai bE).f1)=0 then(gq.gR k1 bE ai (ai.length:Int) bE true bO ai ((aJ ai bE).f0) ((aJ ai bE).f1))else((fQ.f ((aJ ai bE).f1) (-1000) 1000).bind fun vA=>(gq.gR k1 bE ai (ai.length:Int) bE (!vA) bO ai ((aJ ai bE).f0) ((aJ ai bE).f1))))else(some 5))=some r:=H
        have ke:=ae om
        clear om
        by_cases c13:N6=true
        ·subst c13
         replace H:(if((aJ ai bE).f1)=0 then(gq.gR k1 bE ai (ai.length:Int) bE true bO ai ((aJ ai bE).f0) ((aJ ai bE).f1))else((fQ.f ((aJ ai bE).f1) (-1000) 1000).bind fun vA=>(gq.gR k1 bE ai (ai.length:Int) bE (!vA) bO ai ((aJ ai bE).f0) ((aJ ai bE).f1))))=some r:=tAd
         have xk:=ae H
         clear H
         have Ao:0<=(bE:Int):=bg tA4
         have Aq:bE< (ai.length:Int):=bg tA4
         obtain⟨tu,RU,z8,Aa⟩:=jD iZ.o bE Ao Aq
         cases RU
         replace z8:=(ak.o.cell (b7 w _ z8)).trans z8
         replace Aa:=(ak.o.cell (b7 w _ Aa)).trans Aa
         replace Ao:=eq_true Ao
         replace Aq:=eq_true Aq
         go_upto_region 10 with(first|((with_reducible refine c5 (N:=4) rfl ?_);refine dD ?hg (N:=4) ?hd (cs:=#[.string (⟨#[]⟩:ByteArray),.int .i64 0]) (t:=79) ?hr ?_;(case hd=>rfl);(case hg=>rfl);(case hr=>first|(go_simp;done)|(go_simp;rfl));intro eN hg pL aU hb;have eU:=ae (aU);have GW:=ae (bC:w.heap.size<=eN);have GV:=ae (bC:w.heap.size<=eN);replace ak:=ae (au aD hb);have mF:=ae (fA:dc≠eN);have p8:=ae (fz:eN≠dc);replace dw:=ae (av (g:=dc) (o:= .cells #[.int .i64 bO,.slice (some tu) ai.length aG] 33 (0,0)) cM hb);clear hb aU hg;have Ty:=p8.o;have Tz:=mF.o;have Fp:pL.cell? ⟨eN,0,none⟩=some (.string (⟨#[]⟩:ByteArray)):=ah eU.o 0;have Fq:pL.cell? ⟨eN,1,none⟩=some (.int .i64 0):=ah eU.o 1;have Fw:=ar eU.o 0;have Fx:=ar eU.o 1)|(go_at_call 58;(with_reducible refine(nX.calls k1 ((aJ ai bE).f0) true _ ke.o).mono ?_);rintro e w' ⟨rfl,⟨cg,rfl⟩⟩;(try first|exact⟨rfl,_,dt _ _ _⟩|exact⟨rfl,_,Eq.trans (dt _ _ _) (congrArg (World.drewN _) (Nat.add_assoc _ _ _))⟩)))
         repeat(go_quiet (first|((with_reducible refine c5 (N:=4) rfl ?_);refine dD ?hg (N:=4) ?hd (cs:=#[.string (⟨#[]⟩:ByteArray),.int .i64 0]) (t:=79) ?hr ?_;(case hd=>rfl);(case hg=>rfl);(case hr=>first|(go_simp;done)|(go_simp;rfl));intro eN hg pL aU hb;have eU:=ae (aU);have GW:=ae (bC:w.heap.size<=eN);have GV:=ae (bC:w.heap.size<=eN);replace ak:=ae (au aD hb);have mF:=ae (fA:dc≠eN);have p8:=ae (fz:eN≠dc);replace dw:=ae (av (g:=dc) (o:= .cells #[.int .i64 bO,.slice (some tu) ai.length aG] 33 (0,0)) cM hb);clear hb aU hg;have Ty:=p8.o;have Tz:=mF.o;have Fp:pL.cell? ⟨eN,0,none⟩=some (.string (⟨#[]⟩:ByteArray)):=ah eU.o 0;have Fq:pL.cell? ⟨eN,1,none⟩=some (.int .i64 0):=ah eU.o 1;have Fw:=ar eU.o 0;have Fx:=ar eU.o 1)|(go_at_call 58;(with_reducible refine(nX.calls k1 ((aJ ai bE).f0) true _ ke.o).mono ?_);rintro e w' ⟨rfl,⟨cg,rfl⟩⟩;(try first|exact⟨rfl,_,dt _ _ _⟩|exact⟨rfl,_,Eq.trans (dt _ _ _) (congrArg (World.drewN _) (Nat.add_assoc _ _ _))⟩)));go_upto_region 10 with(first|((with_reducible refine c5 (N:=4) rfl ?_);refine dD ?hg (N:=4) ?hd (cs:=#[.string (⟨#[]⟩:ByteArray),.int .i64 0]) (t:=79) ?hr ?_;(case hd=>rfl);(case hg=>rfl);(case hr=>first|(go_simp;done)|(go_simp;rfl));intro eN hg pL aU hb;have eU:=ae (aU);have GW:=ae (bC:w.heap.size<=eN);have GV:=ae (bC:w.heap.size<=eN);replace ak:=ae (au aD hb);have mF:=ae (fA:dc≠eN);have p8:=ae (fz:eN≠dc);replace dw:=ae (av (g:=dc) (o:= .cells #[.int .i64 bO,.slice (some tu) ai.length aG] 33 (0,0)) cM hb);clear hb aU hg;have Ty:=p8.o;have Tz:=mF.o;have Fp:pL.cell? ⟨eN,0,none⟩=some (.string (⟨#[]⟩:ByteArray)):=ah eU.o 0;have Fq:pL.cell? ⟨eN,1,none⟩=some (.int .i64 0):=ah eU.o 1;have Fw:=ar eU.o 0;have Fx:=ar eU.o 1)|(go_at_call 58;(with_reducible refine(nX.calls k1 ((aJ ai bE).f0) true _ ke.o).mono ?_);rintro e w' ⟨rfl,⟨cg,rfl⟩⟩;(try first|exact⟨rfl,_,dt _ _ _⟩|exact⟨rfl,_,Eq.trans (dt _ _ _) (congrArg (World.drewN _) (Nat.add_assoc _ _ _))⟩))))
         (try simp only[bV])
         go_cut [26] (fun v26 wc=>∃(cy:Nat) (yS:Bool),v26= .bool yS/\af (gq.gR cy bE ai (ai.length:Int) bE yS bO ai ((aJ ai bE).f0) ((aJ ai bE).f1)=some r)/\af (cy<=k1)/\af (wc.heap[dc]?=some (.cells #[.int .i64 bO,(.slice (some tu) ai.length aG)] 33 (0,0)))/\af (wc.heap[eN]?=some (.cells #[.string ((aJ ai bE).f0),.int .i64 ((aJ ai bE).f1)] 79 (0,0)))/\af (Below w.heap.size w wc))
         case first=>
          have H:=xk.o
          clear xk
          by_cases c18:((aJ ai bE).f1)=0
          ·rw[if_pos c18]at H
           have Ir:(((aJ ai bE).f1)==0)=true:=beq_iff_eq.mpr c18
           have ajO:(((aJ ai bE).f1) !=0)=false:=bne_eq_false_iff_eq.mpr c18
           clear c18
           (first|rw[Ir]|(simp only[Ab,CJ];rw[Ir])|skip)
           have bk:=ae H
           clear H
           have axo:=p8.o
           have axM:=mF.o
           have auC:pL.cell? ⟨eN,0,none⟩=some (.string (⟨#[]⟩:ByteArray)):=ah eU.o 0
           have auD:pL.cell? ⟨eN,1,none⟩=some (.int .i64 0):=ah eU.o 1
           have avT:=ar eU.o 0
           have avU:=ar eU.o 1
           go_wp2
           repeat(go_quiet (fail);try go_wp2)
           go_meet
           case rel=>exact⟨_,(true),tA6,bk,⟨tC7⟩,⟨tEs⟩,⟨tEj⟩,⟨aD⟩⟩
          ·rw[if_neg c18]at H
           have Ir:(((aJ ai bE).f1)==0)=false:=ey.mpr c18
           have ajO:(((aJ ai bE).f1) !=0)=true:=bne_iff_ne.mpr c18
           (first|rw[Ir]|(simp only[Ab,CJ];rw[Ir])|skip)
           replace H:=eL.mp H
           obtain⟨vA,GJ,H⟩:=H
           replace H:(gq.gR k1 bE ai (ai.length:Int) bE (!vA) bO ai ((aJ ai bE).f0) ((aJ ai bE).f1))=some r:=H
           have DO:=ae GJ
           clear GJ
           have bk:=ae H
           clear H
           have axp:=p8.o
           have axN:=mF.o
           have auE:pL.cell? ⟨eN,0,none⟩=some (.string (⟨#[]⟩:ByteArray)):=ah eU.o 0
           have auF:pL.cell? ⟨eN,1,none⟩=some (.int .i64 0):=ah eU.o 1
           have avV:=ar eU.o 0
           have avW:=ar eU.o 1
           go_wp2_with (first|(go_at_call 113;(with_reducible refine(fQ.calls ((aJ ai bE).f1) (-1000) 1000 vA _ DO.o).mono ?_);rintro e w' ⟨rfl,⟨cg,rfl⟩⟩;(try first|exact⟨rfl,_,dt _ _ _⟩|exact⟨rfl,_,Eq.trans (dt _ _ _) (congrArg (World.drewN _) (Nat.add_assoc _ _ _))⟩)))
           repeat(go_quiet (first|(go_at_call 113;(with_reducible refine(fQ.calls ((aJ ai bE).f1) (-1000) 1000 vA _ DO.o).mono ?_);rintro e w' ⟨rfl,⟨cg,rfl⟩⟩;(try first|exact⟨rfl,_,dt _ _ _⟩|exact⟨rfl,_,Eq.trans (dt _ _ _) (congrArg (World.drewN _) (Nat.add_assoc _ _ _))⟩)));try go_wp2_with (first|(go_at_call 113;(with_reducible refine(fQ.calls ((aJ ai bE).f1) (-1000) 1000 vA _ DO.o).mono ?_);rintro e w' ⟨rfl,⟨cg,rfl⟩⟩;(try first|exact⟨rfl,_,dt _ _ _⟩|exact⟨rfl,_,Eq.trans (dt _ _ _) (congrArg (World.drewN _) (Nat.add_assoc _ _ _))⟩))))
           go_meet
           case rel=>exact⟨_,(!vA),tA6,bk,⟨tC7⟩,⟨tEs⟩,⟨tEj⟩,⟨aD⟩⟩
         case rest=>
          clear xk
          try clear aM;try clear aV;try clear fB;try clear lJ;try clear c9;try clear wh;try clear c10;try clear xY;try clear c11;try clear BO;try clear c13;try clear Fp;try clear Fq;try clear tD;try clear tE;try clear Fw;try clear Fx;try clear tG;try clear tH;try clear z8;try clear Aa;try clear Ao;try clear Aq
          obtain⟨cy,yS,rfl,a7,Be,dw,eU,ak⟩:=hcut
          cases cy with
          | zero=>exact absurd a7.o (by simp[gq.gR])
          | succ Af=>
           have H:=a7.o
           clear a7
           simp only[gq.gR]at H
           by_cases x5:yS=true
           ·subst x5
            replace H:(some 1)=some r:=tAd
            obtain rfl:=bo H
            go_wp2
            repeat(go_quiet (fail);try go_wp2)
            go_ret
            exact⟨tAa,aD⟩
           ·replace x5:=ju.mpr x5
            subst x5
            replace H:(if bE>0 then(if 0<=(wrap64 (bE-1))then(if(wrap64 (bE-1))< (ai.length:Int)then(if((Op.bytesLess (((aJ ai (wrap64 (bE-1))).f0).toList) ((aJ ai bE).f0).toList)=true)then(gq.l0 Af ai (ai.length:Int) (wrap64 (bE+1)) bO ai)else(some 7))else(none))else(none))else(gq.l0 Af ai (ai.length:Int) (wrap64 (bE+1)) bO ai))=some r:=tAe
            by_cases k5:bE>0
            ·rw[if_pos k5]at H
             have Rw:decide (0<bE)=true:=bn k5
             clear k5
             obtain⟨qC,MR⟩:∃CN:Int,(wrap64 (bE-1))=CN:=⟨_,rfl⟩
             replace H:(if 0<=(qC)then(if(qC)< (ai.length:Int)then(if((Op.bytesLess (((aJ ai (qC)).f0).toList) ((aJ ai bE).f0).toList)=true)then(gq.l0 Af ai (ai.length:Int) (wrap64 (bE+1)) bO ai)else(some 7))else(none))else(none))=some r:=by first|(rw[MR]at H;exact H)|(simp only[MR]at H ⊢;exact H)
             have axa:(IntKind.i64.wrap (bE-1))=qC:=(Ab _).trans MR
             by_cases qf:0<=(qC)
             ·rw[if_pos qf]at H
              have YC:=bn qf
              clear qf
              by_cases qg:(qC)< (ai.length:Int)
              ·rw[if_pos qg]at H
               have YD:=bn qg
               clear qg
               by_cases rj:((Op.bytesLess (((aJ ai (qC)).f0).toList) ((aJ ai bE).f0).toList)=true)
               ·rw[if_pos rj]at H
                have RB:(Op.bytesLess (((aJ ai (qC)).f0).toList) ((aJ ai bE).f0).toList)=true:=rj
                clear rj
                have bk:=ae H
                clear H
                have anV:=p8.o
                have an6:=mF.o
                have amD:wc.cell? ⟨eN,0,none⟩=some (.string ((aJ ai bE).f0)):=ah eU.o 0
                have amE:wc.cell? ⟨eN,1,none⟩=some (.int .i64 ((aJ ai bE).f1)):=ah eU.o 1
                have am7:=ar eU.o 0
                have am8:=ar eU.o 1
                have amF:wc.cell? ⟨dc,0,none⟩=some (.int .i64 bO):=ah dw.o 0
                have amG:wc.cell? ⟨dc,1,none⟩=some (.slice (some tu) ai.length aG):=ah dw.o 1
                have am9:=ar dw.o 0
                have ana:=ar dw.o 1
                have C0:0<=((qC):Int):=bg tA4
                have Dh:(qC)< (ai.length:Int):=bg tA4
                obtain⟨Rl,RV,Cu,Cv⟩:=jD iZ.o (qC) C0 Dh
                obtain rfl:tu=Rl:=(by injection RV)
                replace Cu:=(ak.o.cell (b7 w _ Cu)).trans Cu
                replace Cv:=(ak.o.cell (b7 w _ Cv)).trans Cv
                replace C0:=eq_true C0
                replace Dh:=eq_true Dh
                go_wp2
                repeat(go_quiet (fail);try go_wp2)
                go_roundg Af
                case measure=>have:=dU.o;have:=Be.o;omega
                case rel=>exact⟨(wrap64 (bE+1)),tA6,bk,⟨tCx⟩,⟨tCf⟩,⟨aD⟩⟩
               ·rw[if_neg rj]at H
                have RB:(Op.bytesLess (((aJ ai (qC)).f0).toList) ((aJ ai bE).f0).toList)=false:=by simpa using rj
                clear rj
                obtain rfl:=bo H
                have anX:=p8.o
                have an8:=mF.o
                have aar:wc.cell? ⟨eN,0,none⟩=some (.string ((aJ ai bE).f0)):=ah eU.o 0
                have aas:wc.cell? ⟨eN,1,none⟩=some (.int .i64 ((aJ ai bE).f1)):=ah eU.o 1
                have aaM:=ar eU.o 0
                have aaN:=ar eU.o 1
                have auV:wc.cell? ⟨dc,0,none⟩=some (.int .i64 bO):=ah dw.o 0
                have auW:wc.cell? ⟨dc,1,none⟩=some (.slice (some tu) ai.length aG):=ah dw.o 1
                have awc:=ar dw.o 0
                have awd:=ar dw.o 1
                have C0:0<=((qC):Int):=bg tA4
                have Dh:(qC)< (ai.length:Int):=bg tA4
                obtain⟨Rl,RV,Cu,Cv⟩:=jD iZ.o (qC) C0 Dh
                obtain rfl:tu=Rl:=(by injection RV)
                replace Cu:=(ak.o.cell (b7 w _ Cu)).trans Cu
                replace Cv:=(ak.o.cell (b7 w _ Cv)).trans Cv
                replace C0:=eq_true C0
                replace Dh:=eq_true Dh
                go_wp2
                repeat(go_quiet (fail);try go_wp2)
                go_ret
                exact⟨by first|rfl|(simp[bJ,bK]<;>rfl)|(simp only[<- MR];first|rfl|(simp[bJ,bK]<;>rfl))|(simp[*,bJ,bK]<;>rfl),aD⟩
              ·rw[if_neg qg]at H
               exact absurd H tA2
             ·rw[if_neg qf]at H
              exact absurd H tA2
            ·rw[if_neg k5]at H
             have Rw:decide (0<bE)=false:=cE k5
             clear k5
             have bk:=ae H
             clear H
             go_wp2
             repeat(go_quiet (fail);try go_wp2)
             go_roundg Af
             case measure=>have:=dU.o;have:=Be.o;omega
             case rel=>exact⟨(wrap64 (bE+1)),tA6,bk,⟨tCx⟩,⟨tCf⟩,⟨aD⟩⟩
        ·replace c13:=ju.mpr c13
         subst c13
         replace H:(some 5)=some r:=tAe
         obtain rfl:=bo H
         have Ao:0<=(bE:Int):=bg tA4
         have Aq:bE< (ai.length:Int):=bg tA4
         obtain⟨tu,RU,z8,Aa⟩:=jD iZ.o bE Ao Aq
         cases RU
         replace z8:=(ak.o.cell (b7 w _ z8)).trans z8
         replace Aa:=(ak.o.cell (b7 w _ Aa)).trans Aa
         replace Ao:=eq_true Ao
         replace Aq:=eq_true Aq
         go_wp2_with (first|((with_reducible refine c5 (N:=4) rfl ?_);refine dD ?hg (N:=4) ?hd (cs:=#[.string (⟨#[]⟩:ByteArray),.int .i64 0]) (t:=79) ?hr ?_;(case hd=>rfl);(case hg=>rfl);(case hr=>first|(go_simp;done)|(go_simp;rfl));intro eN hg Ax aU hb;have eU:=ae (aU);have GW:=ae (bC:w.heap.size<=eN);have GV:=ae (bC:w.heap.size<=eN);replace ak:=ae (au aD hb);have mF:=ae (fA:dc≠eN);have p8:=ae (fz:eN≠dc);replace dw:=ae (av (g:=dc) (o:= .cells #[.int .i64 bO,.slice (some tu) ai.length aG] 33 (0,0)) cM hb);clear hb aU hg;have abl:=p8.o;have abn:=mF.o;have SX:Ax.cell? ⟨eN,0,none⟩=some (.string (⟨#[]⟩:ByteArray)):=ah eU.o 0;have SY:Ax.cell? ⟨eN,1,none⟩=some (.int .i64 0):=ah eU.o 1;have S8:=ar eU.o 0;have S9:=ar eU.o 1)|(go_at_call 58;(with_reducible refine(nX.calls k1 ((aJ ai bE).f0) false _ ke.o).mono ?_);rintro e w' ⟨rfl,⟨cg,rfl⟩⟩;(try first|exact⟨rfl,_,dt _ _ _⟩|exact⟨rfl,_,Eq.trans (dt _ _ _) (congrArg (World.drewN _) (Nat.add_assoc _ _ _))⟩)))
         repeat(go_quiet (first|((with_reducible refine c5 (N:=4) rfl ?_);refine dD ?hg (N:=4) ?hd (cs:=#[.string (⟨#[]⟩:ByteArray),.int .i64 0]) (t:=79) ?hr ?_;(case hd=>rfl);(case hg=>rfl);(case hr=>first|(go_simp;done)|(go_simp;rfl));intro eN hg Ax aU hb;have eU:=ae (aU);have GW:=ae (bC:w.heap.size<=eN);have GV:=ae (bC:w.heap.size<=eN);replace ak:=ae (au aD hb);have mF:=ae (fA:dc≠eN);have p8:=ae (fz:eN≠dc);replace dw:=ae (av (g:=dc) (o:= .cells #[.int .i64 bO,.slice (some tu) ai.length aG] 33 (0,0)) cM hb);clear hb aU hg;have abl:=p8.o;have abn:=mF.o;have SX:Ax.cell? ⟨eN,0,none⟩=some (.string (⟨#[]⟩:ByteArray)):=ah eU.o 0;have SY:Ax.cell? ⟨eN,1,none⟩=some (.int .i64 0):=ah eU.o 1;have S8:=ar eU.o 0;have S9:=ar eU.o 1)|(go_at_call 58;(with_reducible refine(nX.calls k1 ((aJ ai bE).f0) false _ ke.o).mono ?_);rintro e w' ⟨rfl,⟨cg,rfl⟩⟩;(try first|exact⟨rfl,_,dt _ _ _⟩|exact⟨rfl,_,Eq.trans (dt _ _ _) (congrArg (World.drewN _) (Nat.add_assoc _ _ _))⟩)));try go_wp2_with (first|((with_reducible refine c5 (N:=4) rfl ?_);refine dD ?hg (N:=4) ?hd (cs:=#[.string (⟨#[]⟩:ByteArray),.int .i64 0]) (t:=79) ?hr ?_;(case hd=>rfl);(case hg=>rfl);(case hr=>first|(go_simp;done)|(go_simp;rfl));intro eN hg Ax aU hb;have eU:=ae (aU);have GW:=ae (bC:w.heap.size<=eN);have GV:=ae (bC:w.heap.size<=eN);replace ak:=ae (au aD hb);have mF:=ae (fA:dc≠eN);have p8:=ae (fz:eN≠dc);replace dw:=ae (av (g:=dc) (o:= .cells #[.int .i64 bO,.slice (some tu) ai.length aG] 33 (0,0)) cM hb);clear hb aU hg;have abl:=p8.o;have abn:=mF.o;have SX:Ax.cell? ⟨eN,0,none⟩=some (.string (⟨#[]⟩:ByteArray)):=ah eU.o 0;have SY:Ax.cell? ⟨eN,1,none⟩=some (.int .i64 0):=ah eU.o 1;have S8:=ar eU.o 0;have S9:=ar eU.o 1)|(go_at_call 58;(with_reducible refine(nX.calls k1 ((aJ ai bE).f0) false _ ke.o).mono ?_);rintro e w' ⟨rfl,⟨cg,rfl⟩⟩;(try first|exact⟨rfl,_,dt _ _ _⟩|exact⟨rfl,_,Eq.trans (dt _ _ _) (congrArg (World.drewN _) (Nat.add_assoc _ _ _))⟩))))
         go_ret
         exact⟨tAa,aD⟩
       ·rw[if_neg c11]at H
        exact absurd H tA2
      ·rw[if_neg c10]at H
       exact absurd H tA2
     ·rw[if_neg c9]at H
      have wh:=cE c9
      clear c9
      obtain rfl:=bo H
      go_wp2
      repeat(go_quiet (fail);try go_wp2)
      go_ret
      exact⟨tAa,aD⟩
 ·replace aM:=ju.mpr aM
  subst aM
  replace H:(some 1)=some r:=tAe
  obtain rfl:=bo H
  go_enter Tryz.func114,Tryz.ntmps114
  go_wp2_with (first|((with_reducible refine c5 (N:=1) rfl ?_);refine dD ?hg (N:=1) ?hd (cs:=#[.int .i64 bO,.slice aQ ai.length aG]) (t:=33) ?hr ?_;(case hd=>rfl);(case hg=>rfl);(case hr=>first|(go_simp;done)|(go_simp;rfl));intro dc hg tZ aU hb;have dw:=ae (aU);have y0:=ae (bC:w.heap.size<=dc);have yZ:=ae (bC:w.heap.size<=dc);replace ak:=ae (au aD hb);clear hb aU hg;have MB:tZ.cell? ⟨dc,0,none⟩=some (.int .i64 bO):=ah dw.o 0;have MC:tZ.cell? ⟨dc,1,none⟩=some (.slice aQ ai.length aG):=ah dw.o 1;have ML:=ar dw.o 0;have MM:=ar dw.o 1)|(go_at_call 113;(with_reducible refine(fQ.calls bO (-1000000) 1000000 false _ fG.o).mono ?_);rintro e w' ⟨rfl,⟨cg,rfl⟩⟩;(try first|exact⟨rfl,_,dt _ _ _⟩|exact⟨rfl,_,Eq.trans (dt _ _ _) (congrArg (World.drewN _) (Nat.add_assoc _ _ _))⟩)))
  repeat(go_quiet (first|((with_reducible refine c5 (N:=1) rfl ?_);refine dD ?hg (N:=1) ?hd (cs:=#[.int .i64 bO,.slice aQ ai.length aG]) (t:=33) ?hr ?_;(case hd=>rfl);(case hg=>rfl);(case hr=>first|(go_simp;done)|(go_simp;rfl));intro dc hg tZ aU hb;have dw:=ae (aU);have y0:=ae (bC:w.heap.size<=dc);have yZ:=ae (bC:w.heap.size<=dc);replace ak:=ae (au aD hb);clear hb aU hg;have MB:tZ.cell? ⟨dc,0,none⟩=some (.int .i64 bO):=ah dw.o 0;have MC:tZ.cell? ⟨dc,1,none⟩=some (.slice aQ ai.length aG):=ah dw.o 1;have ML:=ar dw.o 0;have MM:=ar dw.o 1)|(go_at_call 113;(with_reducible refine(fQ.calls bO (-1000000) 1000000 false _ fG.o).mono ?_);rintro e w' ⟨rfl,⟨cg,rfl⟩⟩;(try first|exact⟨rfl,_,dt _ _ _⟩|exact⟨rfl,_,Eq.trans (dt _ _ _) (congrArg (World.drewN _) (Nat.add_assoc _ _ _))⟩)));try go_wp2_with (first|((with_reducible refine c5 (N:=1) rfl ?_);refine dD ?hg (N:=1) ?hd (cs:=#[.int .i64 bO,.slice aQ ai.length aG]) (t:=33) ?hr ?_;(case hd=>rfl);(case hg=>rfl);(case hr=>first|(go_simp;done)|(go_simp;rfl));intro dc hg tZ aU hb;have dw:=ae (aU);have y0:=ae (bC:w.heap.size<=dc);have yZ:=ae (bC:w.heap.size<=dc);replace ak:=ae (au aD hb);clear hb aU hg;have MB:tZ.cell? ⟨dc,0,none⟩=some (.int .i64 bO):=ah dw.o 0;have MC:tZ.cell? ⟨dc,1,none⟩=some (.slice aQ ai.length aG):=ah dw.o 1;have ML:=ar dw.o 0;have MM:=ar dw.o 1)|(go_at_call 113;(with_reducible refine(fQ.calls bO (-1000000) 1000000 false _ fG.o).mono ?_);rintro e w' ⟨rfl,⟨cg,rfl⟩⟩;(try first|exact⟨rfl,_,dt _ _ _⟩|exact⟨rfl,_,Eq.trans (dt _ _ _) (congrArg (World.drewN _) (Nat.add_assoc _ _ _))⟩))))
  go_ret
  exact⟨tAa,aD⟩
def mh.l0:Nat->List (ay)->Int->Int->List (aq)->List (aj)->Option (Int)
 | 0,_,_,_,_,_=>none
 | k+1,lS,j7,gW,aeo,aep=>if gW<j7 then(if 0<=gW then(if gW< (lS.length:Int)then((px.f aeo aep ((aJ lS gW).f0)).bind fun Gk=>(if Gk<0 then(some 16)else(mh.l0 k lS j7 (wrap64 (gW+1)) aeo aep)))else(none))else(none))else(some 0)
def mh.f (k:Nat)(ag:List (aq))(ai:List (aj))(ew:Int)(cC:List (ay)):Option (Int):=(gq.f k ew cC).bind fun qI=>(if qI=0 then(mh.l0 k cC (cC.length:Int) 0 ag ai)else(some qI))
theorem mh.calls (k:Nat)(bP:Option Addr)(bh:Nat)(ag:List (aq))(aQ:Option Addr)(aG:Nat)(ai:List (aj))(ew:Int)(jb:Option Addr)(im:Nat)(cC:List (ay))(r:Int)(w:World)(kB:Kd.C cu w bP ag.length ag)(mn:ag.length<=bh)(h9:Kd.C bc w aQ ai.length ai)(iH:ai.length<=aG)(zY:Kd.C cf w jb cC.length cC)(zM:cC.length<=im)(h:mh.f k ag ai ew cC=some r):
  Calls Tryz.prog 52 #[.agg #[.slice bP ag.length bh,.slice aQ ai.length aG],.agg #[.int .i64 ew,.slice jb cC.length im]] w fun e w'=>e= .returned (.int .i64 r)/\Below w.heap.size w w':=by
 have TP:=Tryz.underlying29
 have Ci:=Tryz.underlying33
 have Nf:=Tryz.underlying79
 have iY:=ae kB
 have uC:=ae mn
 clear kB mn
 have iZ:=ae h9
 have nA:=ae iH
 clear h9 iH
 have zj:=ae zY
 have DZ:=ae zM
 clear zY zM
 have ak:=ae (Below.refl w.heap.size w)
 have H:((gq.f k ew cC).bind fun qI=>(if qI=0 then(mh.l0 k cC (cC.length:Int) 0 ag ai)else(some qI)))=some r:=h
 clear h
 replace H:=eL.mp H
 obtain⟨qI,gI,H⟩:=H
 replace H:(if qI=0 then(mh.l0 k cC (cC.length:Int) 0 ag ai)else(some qI))=some r:=H
 have gX:=ae gI
 clear gI
 by_cases aV:qI=0
 ·rw[if_pos aV]at H
  have fB:(qI==0)=true:=beq_iff_eq.mpr aV
  have lJ:(qI !=0)=false:=bne_eq_false_iff_eq.mpr aV
  clear aV
  have bk:=ae H
  clear H
  go_enter Tryz.func52,Tryz.ntmps52
  go_wp2_with (first|((with_reducible refine c5 (N:=2) rfl ?_);refine dD ?hg (N:=2) ?hd (cs:=#[.slice bP ag.length bh,.slice aQ ai.length aG]) (t:=29) ?hr ?_;(case hd=>rfl);(case hg=>rfl);(case hr=>first|(go_simp;done)|(go_simp;rfl));intro jO hg aZ aU hb;have lY:=ae (aU);have afT:=ae (bC:w.heap.size<=jO);have afD:=ae (bC:w.heap.size<=jO);replace ak:=ae (au aD hb);clear hb aU hg)|((with_reducible refine c5 (N:=3) rfl ?_);refine dD ?hg (N:=3) ?hd (cs:=#[.int .i64 ew,.slice jb cC.length im]) (t:=33) ?hr ?_;(case hd=>rfl);(case hg=>rfl);(case hr=>first|(go_simp;done)|(go_simp;rfl));intro jP hg aY aU hb;have kS:=ae (aU);have afU:=ae (bC:w.heap.size<=jP);have afE:=ae (bC:w.heap.size<=jP);replace ak:=ae (au aD hb);have H3:=ae (fA:jO≠jP);have H4:=ae (fz:jP≠jO);replace lY:=ae (av (g:=jO) (o:= .cells #[.slice bP ag.length bh,.slice aQ ai.length aG] 29 (0,0)) cM hb);clear hb aU hg;have anY:=H4.o;have an9:=H3.o;have tD:aY.cell? ⟨jP,0,none⟩=some (.int .i64 ew):=ah kS.o 0;have tE:aY.cell? ⟨jP,1,none⟩=some (.slice jb cC.length im):=ah kS.o 1;have tG:=ar kS.o 0;have tH:=ar kS.o 1)|((with_reducible refine cV (f:=114) rfl ?_);refine cW (some 9) rfl rfl Tryz.func114 tA1 rfl #[.agg #[.int .i64 ew,.slice jb cC.length im]] rfl tA9 ?_;(with_reducible refine(gq.calls k ew _ _ cC qI _ ?side1 ?side2 gX.o).mono ?_);(case side1=>repeat(first|exact(Kd.bN zj.o ak.o)|(with_reducible refine Kd.o5 ?_ _)|(with_reducible refine Kd.ot ?_ _)|(with_reducible refine Kd.oq ?_)));(case side2=>exact DZ.o);rintro e dG ⟨rfl,hb⟩;refine⟨_,rfl,?_⟩;replace lY:=ae (av (g:=jO) (o:= .cells #[.slice bP ag.length bh,.slice aQ ai.length aG] 29 (0,0)) cM hb);replace kS:=ae (av (g:=jP) (o:= .cells #[.int .i64 ew,.slice jb cC.length im] 33 (0,0)) cM hb);replace ak:=ae (au aD hb);(try clear hb);have ams:dG.cell? ⟨jP,0,none⟩=some (.int .i64 ew):=ah kS.o 0;have amt:dG.cell? ⟨jP,1,none⟩=some (.slice jb cC.length im):=ah kS.o 1;have amW:=ar kS.o 0;have amX:=ar kS.o 1))
  go_loopg [16] k (fun cy v16 w'=>∃(bE:Int),v16= .int .i64 bE/\af (mh.l0 cy cC (cC.length:Int) bE ag ai=some r)/\af (cy<=k)/\af (w'.heap[jO]?=some (.cells #[(.slice bP ag.length bh),(.slice aQ ai.length aG)] 29 (0,0)))/\af (w'.heap[jP]?=some (.cells #[.int .i64 ew,(.slice jb cC.length im)] 33 (0,0)))/\af (Below w.heap.size w w'))
  case atStart=>exact⟨(0),tA6,bk,⟨bl _⟩,⟨tEo⟩,⟨tEc⟩,⟨aD⟩⟩
  case round=>
   clear bk
   try clear aV;try clear fB;try clear lJ;try clear ams;try clear amt;try clear tD;try clear tE;try clear amW;try clear amX;try clear tG;try clear tH
   obtain⟨bE,rfl,a7,dU,lY,kS,ak⟩:=hrel
   cases gk with
   | zero=>exact absurd a7.o (by simp[mh.l0])
   | succ k1=>
    have H:=a7.o
    clear a7
    simp only[mh.l0]at H
    by_cases c11:bE< (cC.length:Int)
    ·rw[if_pos c11]at H
     have BO:=bn c11
     clear c11
     by_cases c12:0<=bE
     ·rw[if_pos c12]at H
      have Rt:=bn c12
      clear c12
      by_cases c13:bE< (cC.length:Int)
      ·rw[if_pos c13]at H
       have YB:=bn c13
       clear c13
       replace H:=eL.mp H
       obtain⟨Gk,GH,H⟩:=H
       replace H:(if Gk<0 then(some 16)else(mh.l0 k1 cC (cC.length:Int) (wrap64 (bE+1)) ag ai))=some r:=H
       have AO:=ae GH
       clear GH
       by_cases c15:Gk<0
       ·rw[if_pos c15]at H
        have ajN:=bn c15
        clear c15
        obtain rfl:=bo H
        have C1:0<=(bE:Int):=bg tA4
        have Di:bE< (cC.length:Int):=bg tA4
        obtain⟨Ii,RX,Cw,Cx⟩:=jD zj.o bE C1 Di
        cases RX
        replace Cw:=(ak.o.cell (b7 w _ Cw)).trans Cw
        replace Cx:=(ak.o.cell (b7 w _ Cx)).trans Cx
        replace C1:=eq_true C1
        replace Di:=eq_true Di
        go_wp2_with (first|((with_reducible refine c5 (N:=7) rfl ?_);refine dD ?hg (N:=7) ?hd (cs:=#[.string (⟨#[]⟩:ByteArray),.int .i64 0]) (t:=79) ?hr ?_;(case hd=>rfl);(case hg=>rfl);(case hr=>first|(go_simp;done)|(go_simp;rfl));intro mH hg J6 aU hb;have rQ:=ae (aU);have afV:=ae (bC:w.heap.size<=mH);have afF:=ae (bC:w.heap.size<=mH);replace ak:=ae (au aD hb);have QG:=ae (fA:jO≠mH);have QI:=ae (fz:mH≠jO);replace lY:=ae (av (g:=jO) (o:= .cells #[.slice bP ag.length bh,.slice aQ ai.length aG] 29 (0,0)) cM hb);have QH:=ae (fA:jP≠mH);have QJ:=ae (fz:mH≠jP);replace kS:=ae (av (g:=jP) (o:= .cells #[.int .i64 ew,.slice (some Ii) cC.length im] 33 (0,0)) cM hb);clear hb aU hg;have anQ:=QI.o;have an1:=QG.o;have anR:=QJ.o;have an2:=QH.o;have amz:J6.cell? ⟨mH,0,none⟩=some (.string (⟨#[]⟩:ByteArray)):=ah rQ.o 0;have amA:J6.cell? ⟨mH,1,none⟩=some (.int .i64 0):=ah rQ.o 1;have am3:=ar rQ.o 0;have am4:=ar rQ.o 1;have anS:=H3.o;have an3:=H4.o;have aan:J6.cell? ⟨jO,0,none⟩=some (.slice bP ag.length bh):=ah lY.o 0;have aao:J6.cell? ⟨jO,1,none⟩=some (.slice aQ ai.length aG):=ah lY.o 1;have aaI:=ar lY.o 0;have aaJ:=ar lY.o 1)|((with_reducible refine cV (f:=59) rfl ?_);refine cW (some 23) rfl rfl Tryz.func59 tA1 rfl #[.agg #[.slice bP ag.length bh,.slice aQ ai.length aG],.string ((aJ cC bE).f0)] rfl tA9 ?_;(with_reducible refine(px.calls _ _ ag _ _ ai ((aJ cC bE).f0) Gk _ ?side1 ?side2 ?side3 ?side4 AO.o).mono ?_);(case side1=>exact Kd.bN iY.o aD);(case side2=>exact uC.o);(case side3=>exact Kd.bN iZ.o aD);(case side4=>exact nA.o);rintro e aei ⟨rfl,hb⟩;refine⟨_,rfl,?_⟩;replace lY:=ae (av (g:=jO) (o:= .cells #[.slice bP ag.length bh,.slice aQ ai.length aG] 29 (0,0)) cM hb);replace kS:=ae (av (g:=jP) (o:= .cells #[.int .i64 ew,.slice (some Ii) cC.length im] 33 (0,0)) cM hb);replace rQ:=ae (av (g:=mH) (o:= .cells #[.string ((aJ cC bE).f0),.int .i64 ((aJ cC bE).f1)] 79 (0,0)) tDx hb);replace ak:=ae (au aD hb);(try clear hb);(try clear hi)))
        go_ret
        exact⟨tAa,aD⟩
       ·rw[if_neg c15]at H
        have ajN:=cE c15
        clear c15
        have bk:=ae H
        clear H
        have C1:0<=(bE:Int):=bg tA4
        have Di:bE< (cC.length:Int):=bg tA4
        obtain⟨Ii,RX,Cw,Cx⟩:=jD zj.o bE C1 Di
        cases RX
        replace Cw:=(ak.o.cell (b7 w _ Cw)).trans Cw
        replace Cx:=(ak.o.cell (b7 w _ Cx)).trans Cx
        replace C1:=eq_true C1
        replace Di:=eq_true Di
        go_wp2_with (first|((with_reducible refine c5 (N:=7) rfl ?_);refine dD ?hg (N:=7) ?hd (cs:=#[.string (⟨#[]⟩:ByteArray),.int .i64 0]) (t:=79) ?hr ?_;(case hd=>rfl);(case hg=>rfl);(case hr=>first|(go_simp;done)|(go_simp;rfl));intro mH hg wW aU hb;have rQ:=ae (aU);have afV:=ae (bC:w.heap.size<=mH);have afF:=ae (bC:w.heap.size<=mH);replace ak:=ae (au aD hb);have QG:=ae (fA:jO≠mH);have QI:=ae (fz:mH≠jO);replace lY:=ae (av (g:=jO) (o:= .cells #[.slice bP ag.length bh,.slice aQ ai.length aG] 29 (0,0)) cM hb);have QH:=ae (fA:jP≠mH);have QJ:=ae (fz:mH≠jP);replace kS:=ae (av (g:=jP) (o:= .cells #[.int .i64 ew,.slice (some Ii) cC.length im] 33 (0,0)) cM hb);clear hb aU hg;have anT:=QI.o;have an4:=QG.o;have axr:=QJ.o;have axP:=QH.o;have amB:wW.cell? ⟨mH,0,none⟩=some (.string (⟨#[]⟩:ByteArray)):=ah rQ.o 0;have amC:wW.cell? ⟨mH,1,none⟩=some (.int .i64 0):=ah rQ.o 1;have am5:=ar rQ.o 0;have am6:=ar rQ.o 1;have anU:=H3.o;have an5:=H4.o;have aap:wW.cell? ⟨jO,0,none⟩=some (.slice bP ag.length bh):=ah lY.o 0;have aaq:wW.cell? ⟨jO,1,none⟩=some (.slice aQ ai.length aG):=ah lY.o 1;have aaK:=ar lY.o 0;have aaL:=ar lY.o 1)|((with_reducible refine cV (f:=59) rfl ?_);refine cW (some 23) rfl rfl Tryz.func59 tA1 rfl #[.agg #[.slice bP ag.length bh,.slice aQ ai.length aG],.string ((aJ cC bE).f0)] rfl tA9 ?_;(with_reducible refine(px.calls _ _ ag _ _ ai ((aJ cC bE).f0) Gk _ ?side1 ?side2 ?side3 ?side4 AO.o).mono ?_);(case side1=>exact Kd.bN iY.o aD);(case side2=>exact uC.o);(case side3=>exact Kd.bN iZ.o aD);(case side4=>exact nA.o);rintro e Gv ⟨rfl,hb⟩;refine⟨_,rfl,?_⟩;replace lY:=ae (av (g:=jO) (o:= .cells #[.slice bP ag.length bh,.slice aQ ai.length aG] 29 (0,0)) cM hb);replace kS:=ae (av (g:=jP) (o:= .cells #[.int .i64 ew,.slice (some Ii) cC.length im] 33 (0,0)) cM hb);replace rQ:=ae (av (g:=mH) (o:= .cells #[.string ((aJ cC bE).f0),.int .i64 ((aJ cC bE).f1)] 79 (0,0)) tDx hb);replace ak:=ae (au aD hb);(try clear hb);(try clear hi)))
        go_roundg k1
        case measure=>have:=dU.o;omega
        case rel=>exact⟨(wrap64 (bE+1)),tA6,bk,⟨tAm⟩,⟨tEo⟩,⟨tEc⟩,⟨aD⟩⟩
      ·rw[if_neg c13]at H
       exact absurd H tA2
     ·rw[if_neg c12]at H
      exact absurd H tA2
    ·rw[if_neg c11]at H
     have BO:=cE c11
     clear c11
     obtain rfl:=bo H
     go_wp2
     go_ret
     exact⟨tAa,aD⟩
 ·rw[if_neg aV]at H
  have fB:(qI==0)=false:=ey.mpr aV
  have lJ:(qI !=0)=true:=bne_iff_ne.mpr aV
  obtain rfl:=bo H
  go_enter Tryz.func52,Tryz.ntmps52
  go_wp2_with (first|((with_reducible refine c5 (N:=2) rfl ?_);refine dD ?hg (N:=2) ?hd (cs:=#[.slice bP ag.length bh,.slice aQ ai.length aG]) (t:=29) ?hr ?_;(case hd=>rfl);(case hg=>rfl);(case hr=>first|(go_simp;done)|(go_simp;rfl));intro jO hg asX aU hb;have lY:=ae (aU);have afT:=ae (bC:w.heap.size<=jO);have afD:=ae (bC:w.heap.size<=jO);replace ak:=ae (au aD hb);clear hb aU hg)|((with_reducible refine c5 (N:=3) rfl ?_);refine dD ?hg (N:=3) ?hd (cs:=#[.int .i64 ew,.slice jb cC.length im]) (t:=33) ?hr ?_;(case hd=>rfl);(case hg=>rfl);(case hr=>first|(go_simp;done)|(go_simp;rfl));intro jP hg Gw aU hb;have kS:=ae (aU);have afU:=ae (bC:w.heap.size<=jP);have afE:=ae (bC:w.heap.size<=jP);replace ak:=ae (au aD hb);have H3:=ae (fA:jO≠jP);have H4:=ae (fz:jP≠jO);replace lY:=ae (av (g:=jO) (o:= .cells #[.slice bP ag.length bh,.slice aQ ai.length aG] 29 (0,0)) cM hb);clear hb aU hg;have anW:=H4.o;have an7:=H3.o;have amH:Gw.cell? ⟨jP,0,none⟩=some (.int .i64 ew):=ah kS.o 0;have amI:Gw.cell? ⟨jP,1,none⟩=some (.slice jb cC.length im):=ah kS.o 1;have anb:=ar kS.o 0;have anc:=ar kS.o 1)|((with_reducible refine cV (f:=114) rfl ?_);refine cW (some 9) rfl rfl Tryz.func114 tA1 rfl #[.agg #[.int .i64 ew,.slice jb cC.length im]] rfl tA9 ?_;(with_reducible refine(gq.calls k ew _ _ cC qI _ ?side1 ?side2 gX.o).mono ?_);(case side1=>repeat(first|exact(Kd.bN zj.o ak.o)|(with_reducible refine Kd.o5 ?_ _)|(with_reducible refine Kd.ot ?_ _)|(with_reducible refine Kd.oq ?_)));(case side2=>exact DZ.o);rintro e asY ⟨rfl,hb⟩;refine⟨_,rfl,?_⟩;replace lY:=ae (av (g:=jO) (o:= .cells #[.slice bP ag.length bh,.slice aQ ai.length aG] 29 (0,0)) cM hb);replace kS:=ae (av (g:=jP) (o:= .cells #[.int .i64 ew,.slice jb cC.length im] 33 (0,0)) cM hb);replace ak:=ae (au aD hb);(try clear hb);(try clear hi)))
  go_ret
  exact⟨tAa,aD⟩
end Go.Proofs.YtjgakaembhmhpaaGreatDoor.PA
