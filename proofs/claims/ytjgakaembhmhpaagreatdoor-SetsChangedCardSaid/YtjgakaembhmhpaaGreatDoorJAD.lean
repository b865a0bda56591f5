/- Part of the proof of SetsChanged: printed contracts, struck. It holds without further conditions. -/
import Derived.Test.YtjgakaembhmhpaaGreatDoorJAC
set_option linter.unusedVariables false
set_option linter.unusedSimpArgs false
set_option maxHeartbeats 16000000
set_option maxRecDepth 100000
namespace Go.Proofs.YtjgakaembhmhpaaGreatDoor.PA
open Go.RowKit Go.Proofs.YtjgakaembhmhpaaGreatDoorW.PrintWords Go.Proofs.YtjgakaembhmhpaaGreatDoorW.PrintLast Go.Proofs.YtjgakaembhmhpaaGreatDoorW.PrintMore
open Go.Proofs.YtjgakaembhmhpaaGreatDoorM
attribute [local go_sem] str_leq str_gtr str_geq
attribute [local go_sem] max2_int min2_int max_two min_two max_three min_three max_four min_four
mutual
def dA.fl:Nat->ByteArray->Bool->Option (Bool)
 | 0,_,_=>none
 | k+1,x0,as7=>if as7=true then(some false)else(dA.l0 k x0 (x0.size:Int) 0)
def dA.l0:Nat->ByteArray->Int->Int->Option (Bool)
 | 0,_,_,_=>none
 | k+1,x0,AG,kG=>if kG<AG then(if 0<=kG then(if kG< (x0.size:Int)then(if(bG x0 kG)>=97 then(if(bG x0 kG)<=122 then(dA.l0 k x0 AG (wrap64 (kG+1)))else(if(bG x0 kG)>=48 then(if(bG x0 kG)<=57 then(dA.l0 k x0 AG (wrap64 (kG+1)))else(if((bG x0 kG)=95)then(dA.l0 k x0 AG (wrap64 (kG+1)))else(some false)))else(if((bG x0 kG)=95)then(dA.l0 k x0 AG (wrap64 (kG+1)))else(some false))))else(if(bG x0 kG)>=48 then(if(bG x0 kG)<=57 then(dA.l0 k x0 AG (wrap64 (kG+1)))else(if((bG x0 kG)=95)then(dA.l0 k x0 AG (wrap64 (kG+1)))else(some false)))else(if((bG x0 kG)=95)then(dA.l0 k x0 AG (wrap64 (kG+1)))else(some false))))else(none))else(none))else(some true)
end
def dA.f (k:Nat)(a0:ByteArray):Option (Bool):=(fE.f (a0.size:Int) 1 40).bind fun t237=>(if t237=true then((kF.f k (([(⟨#[97,114,114,97,121]⟩:ByteArray),(⟨#[102,111,114]⟩:ByteArray),(⟨#[105,102]⟩:ByteArray),(⟨#[109,97,120]⟩:ByteArray),(⟨#[109,105,110]⟩:ByteArray)]:List ByteArray)) a0).bind fun t241=>(if t241=true then(dA.fl k a0 true)else(if 0< (a0.size:Int)then(if(bG a0 0)<97 then(dA.fl k a0 true)else(dA.fl k a0 (decide ((bG a0 0)>122))))else(none))))else(dA.fl k a0 true))
theorem dA.calls (k:Nat)(a0:ByteArray)(r:Bool)(w:World)(h:dA.f k a0=some r):
  Calls Tryz.prog 47 #[.string a0] w fun e w'=>e= .returned (.bool r)/\Below w.heap.size w w':=by
 have ak:=ae (Below.refl w.heap.size w)
 have H:((fE.f (a0.size:Int) 1 40).bind fun t237=>(if t237=true then((kF.f k (([(⟨#[97,114,114,97,121]⟩:ByteArray),(⟨#[102,111,114]⟩:ByteArray),(⟨#[105,102]⟩:ByteArray),(⟨#[109,97,120]⟩:ByteArray),(⟨#[109,105,110]⟩:ByteArray)]:List ByteArray)) a0).bind fun t241=>(if t241=true then(dA.fl k a0 true)else(if 0< (a0.size:Int)then(if(bG a0 0)<97 then(dA.fl k a0 true)else(dA.fl k a0 (decide ((bG a0 0)>122))))else(none))))else(dA.fl k a0 true)))=some r:=h
 clear h
 have xl:=ae H
 clear H
 go_enter Tryz.func47,Tryz.ntmps47
 go_upto_region 1 with(fail)
 go_cut [23] (fun v23 wc=>∃(cy:Nat) (Ot:Bool),v23= .bool Ot/\af (dA.fl cy a0 Ot=some r)/\af (cy<=k)/\af (Below w.heap.size w wc))
 case first=>
  have H:=xl.o
  clear xl
  replace H:=eL.mp H
  obtain⟨t237,gI,H⟩:=H
  replace H:(if t237=true then((kF.f k (([(⟨#[97,114,114,97,121]⟩:ByteArray),(⟨#[102,111,114]⟩:ByteArray),(⟨#[105,102]⟩:ByteArray),(⟨#[109,97,120]⟩:ByteArray),(⟨#[109,105,110]⟩:ByteArray)]:List ByteArray)) a0).bind fun t241=>(if t241=true then(dA.fl k a0 true)else(if 0< (a0.size:Int)then(if(bG a0 0)<97 then(dA.fl k a0 true)else(dA.fl k a0 (decide ((bG a0 0)>122))))else(none))))else(dA.fl k a0 true))=some r:=H
  have gX:=ae gI
  clear gI
  by_cases aV:t237=true
  ·subst aV
   replace H:((kF.f k (([(⟨#[97,114,114,97,121]⟩:ByteArray),(⟨#[102,111,114]⟩:ByteArray),(⟨#[105,102]⟩:ByteArray),(⟨#[109,97,120]⟩:ByteArray),(⟨#[109,105,110]⟩:ByteArray)]:List ByteArray)) a0).bind fun t241=>(if t241=true then(dA.fl k a0 true)else(if 0< (a0.size:Int)then(if(bG a0 0)<97 then(dA.fl k a0 true)else(dA.fl k a0 (decide ((bG a0 0)>122))))else(none))))=some r:=tAd
   obtain⟨Oy,Jn⟩:∃DN:List ByteArray,DN=(([(⟨#[97,114,114,97,121]⟩:ByteArray),(⟨#[102,111,114]⟩:ByteArray),(⟨#[105,102]⟩:ByteArray),(⟨#[109,97,120]⟩:ByteArray),(⟨#[109,105,110]⟩:ByteArray)]:List ByteArray)):=⟨_,rfl⟩
   replace H:((kF.f k Oy a0).bind fun t241=>(if t241=true then(dA.fl k a0 true)else(if 0< (a0.size:Int)then(if(bG a0 0)<97 then(dA.fl k a0 true)else(dA.fl k a0 (decide ((bG a0 0)>122))))else(none))))=some r:=by first|(rw[Jn];with_reducible exact H)|(have pP:=(Option.bind_some _ _).symm.trans H;rw[Jn];with_reducible exact pP)|(have pP:=(Option.bind_some _ _).symm.trans H;with_reducible exact pP)|with_reducible exact H|(rw[Jn];exact H)|exact H
   have Ex:=ae Jn
   clear Jn
   replace H:=eL.mp H
   obtain⟨t241,yX,H⟩:=H
   replace H:(if t241=true then(dA.fl k a0 true)else(if 0< (a0.size:Int)then(if(bG a0 0)<97 then(dA.fl k a0 true)else(dA.fl k a0 (decide ((bG a0 0)>122))))else(none)))=some r:=H
   have yV:=ae yX
   clear yX
   by_cases c6:t241=true
   ·subst c6
    replace H:(dA.fl k a0 true)=some r:=tAd
    have bk:=ae H
    clear H
    go_wp2_with (first|((with_reducible refine cV (f:=49) rfl ?_);refine cW (some 7) rfl rfl Tryz.func49 tA1 rfl #[.int .i64 (a0.size:Int),.int .i64 1,.int .i64 40] rfl tA9 ?_;(with_reducible refine(fE.calls (a0.size:Int) 1 40 true _ gX.o).mono ?_);rintro e w' ⟨rfl,⟨cg,rfl⟩⟩;refine⟨_,rfl,?_⟩)|((with_reducible refine c5 (N:=10) rfl ?_);(try(refine Sp tA5 ?_;dsimp only));refine Kd.H9 Kd.string _ 9 ?hg (N:=10) ?hd (xs:=([(⟨#[97,114,114,97,121]⟩:ByteArray),(⟨#[102,111,114]⟩:ByteArray),(⟨#[105,102]⟩:ByteArray),(⟨#[109,97,120]⟩:ByteArray),(⟨#[109,105,110]⟩:ByteArray)]:List ByteArray)) (inner:=[.string (⟨#[97,114,114,97,121]⟩:ByteArray),.string (⟨#[102,111,114]⟩:ByteArray),.string (⟨#[105,102]⟩:ByteArray),.string (⟨#[109,97,120]⟩:ByteArray),.string (⟨#[109,105,110]⟩:ByteArray)]) (ok:=fun _=>True) (okp:=fun _=>True) ?hr ?hp (fun _ hk=>hk) trivial (Below.refl _ _) (bl _) tA2 ?_;(case hd=>rfl);(case hg=>rfl);(case hr=>first|(go_simp;done)|(go_simp;rfl));(case hp=>exact(bU.one (show Kd.M Kd.string _ _ _ (⟨#[97,114,114,97,121]⟩:ByteArray) [.string (⟨#[97,114,114,97,121]⟩:ByteArray)]from rfl) (bU.one (show Kd.M Kd.string _ _ _ (⟨#[102,111,114]⟩:ByteArray) [.string (⟨#[102,111,114]⟩:ByteArray)]from rfl) (bU.one (show Kd.M Kd.string _ _ _ (⟨#[105,102]⟩:ByteArray) [.string (⟨#[105,102]⟩:ByteArray)]from rfl) (bU.one (show Kd.M Kd.string _ _ _ (⟨#[109,97,120]⟩:ByteArray) [.string (⟨#[109,97,120]⟩:ByteArray)]from rfl) (bU.one (show Kd.M Kd.string _ _ _ (⟨#[109,105,110]⟩:ByteArray) [.string (⟨#[109,105,110]⟩:ByteArray)]from rfl) (bU.none _ _)))))));intro aee bt zX hb Cc Cf;clear Cc Cf;(first|rw[<- Ex.o]at zX|(simp only[Int.reduceToNat]at zX;rw[<- Ex.o]at zX));have uI:=ae (Kd.BH zX (EN aD));replace ak:=ae (au aD hb);clear hb zX;obtain⟨atr,aud,aln⟩:=Kd.r9 uI.o;subst aln)|(go_at_call 48;(with_reducible refine(kF.calls k _ _ Oy a0 true _ ?side1 ?side2 yV.o).mono ?_);(case side1=>repeat(first|exact(Kd.jY uI.o).2.2|(with_reducible refine Kd.o5 ?_ _)|(with_reducible refine Kd.ot ?_ _)|(with_reducible refine Kd.oq ?_)));(case side2=>exact(Kd.jY uI.o).2.1);rintro e w' ⟨rfl,⟨cg,rfl⟩⟩))
    go_meet
    case rel=>exact⟨_,(true),tA6,bk,⟨tB5⟩,⟨aD⟩⟩
   ·replace c6:=ju.mpr c6
    subst c6
    replace H:(if 0< (a0.size:Int)then(if(bG a0 0)<97 then(dA.fl k a0 true)else(dA.fl k a0 (decide ((bG a0 0)>122))))else(none))=some r:=tAe
    by_cases c10:0< (a0.size:Int)
    ·rw[if_pos c10]at H
     have xY:=bn c10
     have atP:decide (0<a0.size)=true:=bn tA0
     clear c10
     (first|rw[xY]|(simp only[Ab,CJ];rw[xY])|skip)
     by_cases c12:(bG a0 0)<97
     ·rw[if_pos c12]at H
      have Rt:=bn c12
      clear c12
      have bk:=ae H
      clear H
      go_wp2_with (first|((with_reducible refine cV (f:=49) rfl ?_);refine cW (some 7) rfl rfl Tryz.func49 tA1 rfl #[.int .i64 (a0.size:Int),.int .i64 1,.int .i64 40] rfl tA9 ?_;(with_reducible refine(fE.calls (a0.size:Int) 1 40 true _ gX.o).mono ?_);rintro e w' ⟨rfl,⟨cg,rfl⟩⟩;refine⟨_,rfl,?_⟩)|((with_reducible refine c5 (N:=10) rfl ?_);(try(refine Sp tA5 ?_;dsimp only));refine Kd.H9 Kd.string _ 9 ?hg (N:=10) ?hd (xs:=([(⟨#[97,114,114,97,121]⟩:ByteArray),(⟨#[102,111,114]⟩:ByteArray),(⟨#[105,102]⟩:ByteArray),(⟨#[109,97,120]⟩:ByteArray),(⟨#[109,105,110]⟩:ByteArray)]:List ByteArray)) (inner:=[.string (⟨#[97,114,114,97,121]⟩:ByteArray),.string (⟨#[102,111,114]⟩:ByteArray),.string (⟨#[105,102]⟩:ByteArray),.string (⟨#[109,97,120]⟩:ByteArray),.string (⟨#[109,105,110]⟩:ByteArray)]) (ok:=fun _=>True) (okp:=fun _=>True) ?hr ?hp (fun _ hk=>hk) trivial (Below.refl _ _) (bl _) tA2 ?_;(case hd=>rfl);(case hg=>rfl);(case hr=>first|(go_simp;done)|(go_simp;rfl));(case hp=>exact(bU.one (show Kd.M Kd.string _ _ _ (⟨#[97,114,114,97,121]⟩:ByteArray) [.string (⟨#[97,114,114,97,121]⟩:ByteArray)]from rfl) (bU.one (show Kd.M Kd.string _ _ _ (⟨#[102,111,114]⟩:ByteArray) [.string (⟨#[102,111,114]⟩:ByteArray)]from rfl) (bU.one (show Kd.M Kd.string _ _ _ (⟨#[105,102]⟩:ByteArray) [.string (⟨#[105,102]⟩:ByteArray)]from rfl) (bU.one (show Kd.M Kd.string _ _ _ (⟨#[109,97,120]⟩:ByteArray) [.string (⟨#[109,97,120]⟩:ByteArray)]from rfl) (bU.one (show Kd.M Kd.string _ _ _ (⟨#[109,105,110]⟩:ByteArray) [.string (⟨#[109,105,110]⟩:ByteArray)]from rfl) (bU.none _ _)))))));intro aee asW I8 hb Cc Cf;clear Cc Cf;(first|rw[<- Ex.o]at I8|(simp only[Int.reduceToNat]at I8;rw[<- Ex.o]at I8));have uI:=ae (Kd.BH I8 (EN aD));replace ak:=ae (au aD hb);clear hb I8;obtain⟨atq,auc,alg⟩:=Kd.r9 uI.o;subst alg)|(go_at_call 48;(with_reducible refine(kF.calls k _ _ Oy a0 false _ ?side1 ?side2 yV.o).mono ?_);(case side1=>repeat(first|exact(Kd.jY uI.o).2.2|(with_reducible refine Kd.o5 ?_ _)|(with_reducible refine Kd.ot ?_ _)|(with_reducible refine Kd.oq ?_)));(case side2=>exact(Kd.jY uI.o).2.1);rintro e w' ⟨rfl,⟨cg,rfl⟩⟩;have UH:0<=(0:Int):= tA0;have JP:0<a0.size:= tC3;have aoJ:∀h:0<a0.size,((a0[0]'h).toNat:Int)=bG a0 0:=kt a0 0;clear UH;have aqU:(0< (a0.size:Int))=True:=eq_true (bg tA4);replace JP:=eq_true JP))
      go_meet
      case rel=>exact⟨_,(true),tA6,bk,⟨tB5⟩,⟨aD⟩⟩
     ·rw[if_neg c12]at H
      have Rt:=cE c12
      clear c12
      have bk:=ae H
      clear H
      go_wp2_with (first|((with_reducible refine cV (f:=49) rfl ?_);refine cW (some 7) rfl rfl Tryz.func49 tA1 rfl #[.int .i64 (a0.size:Int),.int .i64 1,.int .i64 40] rfl tA9 ?_;(with_reducible refine(fE.calls (a0.size:Int) 1 40 true _ gX.o).mono ?_);rintro e w' ⟨rfl,⟨cg,rfl⟩⟩;refine⟨_,rfl,?_⟩)|((with_reducible refine c5 (N:=10) rfl ?_);(try(refine Sp tA5 ?_;dsimp only));refine Kd.H9 Kd.string _ 9 ?hg (N:=10) ?hd (xs:=([(⟨#[97,114,114,97,121]⟩:ByteArray),(⟨#[102,111,114]⟩:ByteArray),(⟨#[105,102]⟩:ByteArray),(⟨#[109,97,120]⟩:ByteArray),(⟨#[109,105,110]⟩:ByteArray)]:List ByteArray)) (inner:=[.string (⟨#[97,114,114,97,121]⟩:ByteArray),.string (⟨#[102,111,114]⟩:ByteArray),.string (⟨#[105,102]⟩:ByteArray),.string (⟨#[109,97,120]⟩:ByteArray),.string (⟨#[109,105,110]⟩:ByteArray)]) (ok:=fun _=>True) (okp:=fun _=>True) ?hr ?hp (fun _ hk=>hk) trivial (Below.refl _ _) (bl _) tA2 ?_;(case hd=>rfl);(case hg=>rfl);(case hr=>first|(go_simp;done)|(go_simp;rfl));(case hp=>exact(bU.one (show Kd.M Kd.string _ _ _ (⟨#[97,114,114,97,121]⟩:ByteArray) [.string (⟨#[97,114,114,97,121]⟩:ByteArray)]from rfl) (bU.one (show Kd.M Kd.string _ _ _ (⟨#[102,111,114]⟩:ByteArray) [.string (⟨#[102,111,114]⟩:ByteArray)]from rfl) (bU.one (show Kd.M Kd.string _ _ _ (⟨#[105,102]⟩:ByteArray) [.string (⟨#[105,102]⟩:ByteArray)]from rfl) (bU.one (show Kd.M Kd.string _ _ _ (⟨#[109,97,120]⟩:ByteArray) [.string (⟨#[109,97,120]⟩:ByteArray)]from rfl) (bU.one (show Kd.M Kd.string _ _ _ (⟨#[109,105,110]⟩:ByteArray) [.string (⟨#[109,105,110]⟩:ByteArray)]from rfl) (bU.none _ _)))))));intro aee DF I9 hb Cc Cf;clear Cc Cf;(first|rw[<- Ex.o]at I9|(simp only[Int.reduceToNat]at I9;rw[<- Ex.o]at I9));have uI:=ae (Kd.BH I9 (EN aD));replace ak:=ae (au aD hb);clear hb I9;obtain⟨Ki,Md,ID⟩:=Kd.r9 uI.o;subst ID)|(go_at_call 48;(with_reducible refine(kF.calls k _ _ Oy a0 false _ ?side1 ?side2 yV.o).mono ?_);(case side1=>repeat(first|exact(Kd.jY uI.o).2.2|(with_reducible refine Kd.o5 ?_ _)|(with_reducible refine Kd.ot ?_ _)|(with_reducible refine Kd.oq ?_)));(case side2=>exact(Kd.jY uI.o).2.1);rintro e w' ⟨rfl,⟨cg,rfl⟩⟩;have UH:0<=(0:Int):= tA0;have JP:0<a0.size:= tC3;have aoJ:∀h:0<a0.size,((a0[0]'h).toNat:Int)=bG a0 0:=kt a0 0;clear UH;have aqU:(0< (a0.size:Int))=True:=eq_true (bg tA4);replace JP:=eq_true JP;have wM:0<=(0:Int):= tA0;have vz:0<a0.size:= tC3;have yz:∀h:0<a0.size,((a0[0]'h).toNat:Int)=bG a0 0:=kt a0 0;clear wM;have ays:(0< (a0.size:Int))=True:=eq_true (bg tA4);replace vz:=eq_true vz))
      go_meet
      case rel=>exact⟨_,(decide ((bG a0 0)>122)),tA6,bk,⟨tB5⟩,⟨aD⟩⟩
    ·rw[if_neg c10]at H
     exact absurd H tA2
  ·replace aV:=ju.mpr aV
   subst aV
   replace H:(dA.fl k a0 true)=some r:=tAe
   have bk:=ae H
   clear H
   go_wp2_with (first|((with_reducible refine cV (f:=49) rfl ?_);refine cW (some 7) rfl rfl Tryz.func49 tA1 rfl #[.int .i64 (a0.size:Int),.int .i64 1,.int .i64 40] rfl tA9 ?_;(with_reducible refine(fE.calls (a0.size:Int) 1 40 false _ gX.o).mono ?_);rintro e w' ⟨rfl,⟨cg,rfl⟩⟩;refine⟨_,rfl,?_⟩))
   go_meet
   case rel=>exact⟨_,(true),tA6,bk,⟨tB5⟩,⟨aD⟩⟩
 case rest=>
  clear xl
  obtain⟨cy,Ot,rfl,a7,qQ,ak⟩:=hcut
  cases cy with
  | zero=>exact absurd a7.o (by simp[dA.fl])
  | succ Ug=>
   have H:=a7.o
   clear a7
   simp only[dA.fl]at H
   by_cases c20:Ot=true
   ·subst c20
    replace H:(some false)=some r:=tAd
    obtain rfl:=bo H
    go_wp2
    go_ret
    exact⟨tAa,aD⟩
   ·replace c20:=ju.mpr c20
    subst c20
    replace H:(dA.l0 Ug a0 (a0.size:Int) 0)=some r:=tAe
    have bk:=ae H
    clear H
    go_wp2
    go_loopg [26] Ug (fun cy v26 w'=>∃(cI:Int),v26= .int .i64 cI/\af (dA.l0 cy a0 (a0.size:Int) cI=some r)/\af (cy<=Ug)/\af (Below w.heap.size w w'))
    case atStart=>exact⟨(0),tA6,bk,⟨bl _⟩,⟨aD⟩⟩
    case round=>
     clear bk
     try clear c20
     obtain⟨cI,rfl,a7,dP,ak⟩:=hrel
     cases gk with
     | zero=>exact absurd a7.o (by simp[dA.l0])
     | succ k2=>
      have H:=a7.o
      clear a7
      simp only[dA.l0]at H
      by_cases nN:cI< (a0.size:Int)
      ·rw[if_pos nN]at H
       have Ru:=bn nN
       clear nN
       by_cases xZ:0<=cI
       ·rw[if_pos xZ]at H
        have atQ:=bn xZ
        clear xZ
        by_cases x4:cI< (a0.size:Int)
        ·rw[if_pos x4]at H
         have atS:=bn x4
         clear x4
         by_cases k5:(bG a0 cI)>=97
         ·rw[if_pos k5]at H
          have Rw:decide (97<=(bG a0 cI))=true:=bn k5
          clear k5
          by_cases oI:(bG a0 cI)<=122
          ·rw[if_pos oI]at H
           have Ry:=bn oI
           clear oI
           have bk:=ae H
           clear H
           have iJ:0<=(cI:Int):=bg tA4
           have iK:cI< (a0.size:Int):=bg tA4
           have wG:=kt a0 cI
           replace iJ:=eq_true iJ
           replace iK:=eq_true iK
           go_wp2
           go_roundg k2
           case measure=>have:=qQ.o;have:=dP.o;omega
           case rel=>exact⟨(wrap64 (cI+1)),tA6,bk,⟨tB6⟩,⟨aD⟩⟩
          ·rw[if_neg oI]at H
           have Ry:=cE oI
           clear oI
           by_cases qf:(bG a0 cI)>=48
           ·rw[if_pos qf]at H
            have YC:decide (48<=(bG a0 cI))=true:=bn qf
            clear qf
            by_cases qg:(bG a0 cI)<=57
            ·rw[if_pos qg]at H
             have YD:=bn qg
             clear qg
             have bk:=ae H
             clear H
             have iJ:0<=(cI:Int):=bg tA4
             have iK:cI< (a0.size:Int):=bg tA4
             have wG:=kt a0 cI
             replace iJ:=eq_true iJ
             replace iK:=eq_true iK
             go_wp2
             go_roundg k2
             case measure=>have:=qQ.o;have:=dP.o;omega
             case rel=>exact⟨(wrap64 (cI+1)),tA6,bk,⟨tB6⟩,⟨aD⟩⟩
            ·rw[if_neg qg]at H
             have YD:=cE qg
             clear qg
             by_cases rj:((bG a0 cI)=95)
             ·rw[if_pos rj]at H
              have RB:((bG a0 cI)==95)=true:=beq_iff_eq.mpr rj
              have ajQ:((bG a0 cI) !=95)=false:=bne_eq_false_iff_eq.mpr rj
              clear rj
              have bk:=ae H
              clear H
              have iJ:0<=(cI:Int):=bg tA4
              have iK:cI< (a0.size:Int):=bg tA4
              have wG:=kt a0 cI
              replace iJ:=eq_true iJ
              replace iK:=eq_true iK
              go_wp2
              go_roundg k2
              case measure=>have:=qQ.o;have:=dP.o;omega
              case rel=>exact⟨(wrap64 (cI+1)),tA6,bk,⟨tB6⟩,⟨aD⟩⟩
             ·rw[if_neg rj]at H
              have RB:((bG a0 cI)==95)=false:=ey.mpr rj
              have ajQ:((bG a0 cI) !=95)=true:=bne_iff_ne.mpr rj
              obtain rfl:=bo H
              have iJ:0<=(cI:Int):=bg tA4
              have iK:cI< (a0.size:Int):=bg tA4
              have wG:=kt a0 cI
              replace iJ:=eq_true iJ
              replace iK:=eq_true iK
              go_wp2
              go_ret
              exact⟨tAa,aD⟩
           ·rw[if_neg qf]at H
            have YC:decide (48<=(bG a0 cI))=false:=cE qf
            clear qf
            by_cases BP:((bG a0 cI)=95)
            ·rw[if_pos BP]at H
             have ajR:((bG a0 cI)==95)=true:=beq_iff_eq.mpr BP
             have ajS:((bG a0 cI) !=95)=false:=bne_eq_false_iff_eq.mpr BP
             clear BP
             have bk:=ae H
             clear H
             have iJ:0<=(cI:Int):=bg tA4
             have iK:cI< (a0.size:Int):=bg tA4
             have wG:=kt a0 cI
             replace iJ:=eq_true iJ
             replace iK:=eq_true iK
             go_wp2
             go_roundg k2
             case measure=>have:=qQ.o;have:=dP.o;omega
             case rel=>exact⟨(wrap64 (cI+1)),tA6,bk,⟨tB6⟩,⟨aD⟩⟩
            ·rw[if_neg BP]at H
             have ajR:((bG a0 cI)==95)=false:=ey.mpr BP
             have ajS:((bG a0 cI) !=95)=true:=bne_iff_ne.mpr BP
             obtain rfl:=bo H
             have iJ:0<=(cI:Int):=bg tA4
             have iK:cI< (a0.size:Int):=bg tA4
             have wG:=kt a0 cI
             replace iJ:=eq_true iJ
             replace iK:=eq_true iK
             go_wp2
             go_ret
             exact⟨tAa,aD⟩
         ·rw[if_neg k5]at H
          have Rw:decide (97<=(bG a0 cI))=false:=cE k5
          clear k5
          by_cases ET:(bG a0 cI)>=48
          ·rw[if_pos ET]at H
           have ajT:decide (48<=(bG a0 cI))=true:=bn ET
           clear ET
           by_cases EU:(bG a0 cI)<=57
           ·rw[if_pos EU]at H
            have ajU:=bn EU
            clear EU
            have bk:=ae H
            clear H
            have iJ:0<=(cI:Int):=bg tA4
            have iK:cI< (a0.size:Int):=bg tA4
            have wG:=kt a0 cI
            replace iJ:=eq_true iJ
            replace iK:=eq_true iK
            go_wp2
            go_roundg k2
            case measure=>have:=qQ.o;have:=dP.o;omega
            case rel=>exact⟨(wrap64 (cI+1)),tA6,bk,⟨tB6⟩,⟨aD⟩⟩
           ·rw[if_neg EU]at H
            have ajU:=cE EU
            clear EU
            by_cases BQ:((bG a0 cI)=95)
            ·rw[if_pos BQ]at H
             have ajV:((bG a0 cI)==95)=true:=beq_iff_eq.mpr BQ
             have ajW:((bG a0 cI) !=95)=false:=bne_eq_false_iff_eq.mpr BQ
             clear BQ
             have bk:=ae H
             clear H
             have iJ:0<=(cI:Int):=bg tA4
             have iK:cI< (a0.size:Int):=bg tA4
             have wG:=kt a0 cI
             replace iJ:=eq_true iJ
             replace iK:=eq_true iK
             go_wp2
             go_roundg k2
             case measure=>have:=qQ.o;have:=dP.o;omega
             case rel=>exact⟨(wrap64 (cI+1)),tA6,bk,⟨tB6⟩,⟨aD⟩⟩
            ·rw[if_neg BQ]at H
             have ajV:((bG a0 cI)==95)=false:=ey.mpr BQ
             have ajW:((bG a0 cI) !=95)=true:=bne_iff_ne.mpr BQ
             obtain rfl:=bo H
             have iJ:0<=(cI:Int):=bg tA4
             have iK:cI< (a0.size:Int):=bg tA4
             have wG:=kt a0 cI
             replace iJ:=eq_true iJ
             replace iK:=eq_true iK
             go_wp2
             go_ret
             exact⟨tAa,aD⟩
          ·rw[if_neg ET]at H
           have ajT:decide (48<=(bG a0 cI))=false:=cE ET
           clear ET
           by_cases BR:((bG a0 cI)=95)
           ·rw[if_pos BR]at H
            have ajX:((bG a0 cI)==95)=true:=beq_iff_eq.mpr BR
            have ajY:((bG a0 cI) !=95)=false:=bne_eq_false_iff_eq.mpr BR
            clear BR
            have bk:=ae H
            clear H
            have iJ:0<=(cI:Int):=bg tA4
            have iK:cI< (a0.size:Int):=bg tA4
            have wG:=kt a0 cI
            replace iJ:=eq_true iJ
            replace iK:=eq_true iK
            go_wp2
            go_roundg k2
            case measure=>have:=qQ.o;have:=dP.o;omega
            case rel=>exact⟨(wrap64 (cI+1)),tA6,bk,⟨tB6⟩,⟨aD⟩⟩
           ·rw[if_neg BR]at H
            have ajX:((bG a0 cI)==95)=false:=ey.mpr BR
            have ajY:((bG a0 cI) !=95)=true:=bne_iff_ne.mpr BR
            obtain rfl:=bo H
            have iJ:0<=(cI:Int):=bg tA4
            have iK:cI< (a0.size:Int):=bg tA4
            have wG:=kt a0 cI
            replace iJ:=eq_true iJ
            replace iK:=eq_true iK
            go_wp2
            go_ret
            exact⟨tAa,aD⟩
        ·rw[if_neg x4]at H
         exact absurd H tA2
       ·rw[if_neg xZ]at H
        exact absurd H tA2
      ·rw[if_neg nN]at H
       have Ru:=cE nN
       clear nN
       obtain rfl:=bo H
       go_wp2
       go_ret
       exact⟨tAa,aD⟩
mutual
def gV.l0:Nat->ByteArray->List (ay)->Int->Int->Option (Int)
 | 0,_,_,_,_=>none
 | k+1,x3,j7,gW,rK=>if rK<gW then(if 0<=rK then(if rK< (j7.length:Int)then((dA.f k ((aJ j7 rK).f0)).bind fun t246=>(if t246=true then(if((aJ j7 rK).f1)=0 then(gV.gR k x3 j7 gW rK true ((aJ j7 rK).f0) ((aJ j7 rK).f1))else((fE.f ((aJ j7 rK).f1) (-1000) 1000).bind fun t247=>(gV.gR k x3 j7 gW rK (!t247) ((aJ j7 rK).f0) ((aJ j7 rK).f1))))else(some 5)))else(none))else(none))else(some 0)
def gV.gR:Nat->ByteArray->List (ay)->Int->Int->Bool->ByteArray->Int->Option (Int)
 | 0,_,_,_,_,_,_,_=>none
 | k+1,x3,j7,gW,rK,kG,aen,azl=>if kG=true then(some 1)else(if((Op.bytesLess x3.toList aen.toList)=true)then(gV.l0 k aen j7 gW (wrap64 (rK+1)))else(some 7))
end
def gV.f (k:Nat)(bO:Int)(ai:List (ay)):Option (Int):=(fE.f bO (-1000000) 1000000).bind fun t243=>(if t243=true then(if(ai.length:Int)>12 then(some 2)else(gV.l0 k (⟨#[]⟩:ByteArray) ai (ai.length:Int) 0))else(some 1))
theorem gV.calls (k:Nat)(bO:Int)(aQ:Option Addr)(aG:Nat)(ai:List (ay))(r:Int)(w:World)(h9:Kd.C cf w aQ ai.length ai)(iH:ai.length<=aG)(h:gV.f k bO ai=some r):
  Calls Tryz.prog 37 #[.agg #[.int .i64 bO,.slice aQ ai.length aG]] w fun e w'=>e= .returned (.int .i64 r)/\Below w.heap.size w w':=by
 have Ci:=Tryz.underlying33
 have Nf:=Tryz.underlying79
 have iZ:=ae h9
 have nA:=ae iH
 clear h9 iH
 have ak:=ae (Below.refl w.heap.size w)
 have H:((fE.f bO (-1000000) 1000000).bind fun t243=>(if t243=true then(if(ai.length:Int)>12 then(some 2)else(gV.l0 k (⟨#[]⟩:ByteArray) ai (ai.length:Int) 0))else(some 1)))=some r:=h
 clear h
 replace H:=eL.mp H
 obtain⟨t243,nv,H⟩:=H
 replace H:(if t243=true then(if(ai.length:Int)>12 then(some 2)else(gV.l0 k (⟨#[]⟩:ByteArray) ai (ai.length:Int) 0))else(some 1))=some r:=H
 have fG:=ae nv
 clear nv
 by_cases aM:t243=true
 ·subst aM
  replace H:(if(ai.length:Int)>12 then(some 2)else(gV.l0 k (⟨#[]⟩:ByteArray) ai (ai.length:Int) 0))=some r:=tAd
  by_cases aV:(ai.length:Int)>12
  ·rw[if_pos aV]at H
   have fB:decide (12< (ai.length:Int))=true:=bn aV
   have lJ:decide (12<ai.length)=true:=bn tA0
   clear aV
   obtain rfl:=bo H
   go_enter Tryz.func37,Tryz.ntmps37
   go_wp2_with (first|((with_reducible refine c5 (N:=1) rfl ?_);refine dD ?hg (N:=1) ?hd (cs:=#[.int .i64 bO,.slice aQ ai.length aG]) (t:=33) ?hr ?_;(case hd=>rfl);(case hg=>rfl);(case hr=>first|(go_simp;done)|(go_simp;rfl));intro kv hg aZ aU hb;have kf:=ae (aU);have Wa:=ae (bC:w.heap.size<=kv);have V9:=ae (bC:w.heap.size<=kv);replace ak:=ae (au aD hb);clear hb aU hg;have oP:aZ.cell? ⟨kv,0,none⟩=some (.int .i64 bO):=ah kf.o 0;have oQ:aZ.cell? ⟨kv,1,none⟩=some (.slice aQ ai.length aG):=ah kf.o 1;have oT:=ar kf.o 0;have oU:=ar kf.o 1)|((with_reducible refine cV (f:=49) rfl ?_);refine cW (some 8) rfl rfl Tryz.func49 tA1 rfl #[.int .i64 bO,.int .i64 (-1000000),.int .i64 1000000] rfl tA9 ?_;(with_reducible refine(fE.calls bO (-1000000) 1000000 true _ fG.o).mono ?_);rintro e w' ⟨rfl,⟨cg,rfl⟩⟩;refine⟨_,rfl,?_⟩))
   go_ret
   exact⟨tAa,aD⟩
  ·rw[if_neg aV]at H
   have fB:decide (12< (ai.length:Int))=false:=cE aV
   have lJ:decide (12<ai.length)=false:=cE tA0
   clear aV
   have bk:=ae H
   clear H
   go_enter Tryz.func37,Tryz.ntmps37
   go_wp2_with (first|((with_reducible refine c5 (N:=1) rfl ?_);refine dD ?hg (N:=1) ?hd (cs:=#[.int .i64 bO,.slice aQ ai.length aG]) (t:=33) ?hr ?_;(case hd=>rfl);(case hg=>rfl);(case hr=>first|(go_simp;done)|(go_simp;rfl));intro kv hg bt aU hb;have kf:=ae (aU);have Wa:=ae (bC:w.heap.size<=kv);have V9:=ae (bC:w.heap.size<=kv);replace ak:=ae (au aD hb);clear hb aU hg;have tD:bt.cell? ⟨kv,0,none⟩=some (.int .i64 bO):=ah kf.o 0;have tE:bt.cell? ⟨kv,1,none⟩=some (.slice aQ ai.length aG):=ah kf.o 1;have tG:=ar kf.o 0;have tH:=ar kf.o 1)|((with_reducible refine cV (f:=49) rfl ?_);refine cW (some 8) rfl rfl Tryz.func49 tA1 rfl #[.int .i64 bO,.int .i64 (-1000000),.int .i64 1000000] rfl tA9 ?_;(with_reducible refine(fE.calls bO (-1000000) 1000000 true _ fG.o).mono ?_);rintro e w' ⟨rfl,⟨cg,rfl⟩⟩;refine⟨_,rfl,?_⟩))
   go_loopg [3,17] k (fun cy v3 v17 w'=>∃(dZ:ByteArray) (df:Int),v3= .string dZ/\v17= .int .i64 df/\af (gV.l0 cy dZ ai (ai.length:Int) df=some r)/\af (cy<=k)/\af (w'.heap[kv]?=some (.cells #[.int .i64 bO,(.slice aQ ai.length aG)] 33 (0,0)))/\af (Below w.heap.size w w'))
   case atStart=>exact⟨((⟨#[]⟩:ByteArray)),(0),tA6,tA6,bk,⟨bl _⟩,⟨tBo⟩,⟨aD⟩⟩
   case round=>
    clear bk
    try clear aM;try clear aV;try clear fB;try clear lJ;try clear tD;try clear tE;try clear tG;try clear tH
    obtain⟨dZ,df,rfl,rfl,a7,dU,kf,ak⟩:=hrel
    cases gk with
    | zero=>exact absurd a7.o (by simp[gV.l0])
    | succ k1=>
     have H:=a7.o
     clear a7
     simp only[gV.l0]at H
     by_cases c9:df< (ai.length:Int)
     ·rw[if_pos c9]at H
      have wh:=bn c9
      clear c9
      by_cases c10:0<=df
      ·rw[if_pos c10]at H
       have xY:=bn c10
       clear c10
       by_cases c11:df< (ai.length:Int)
       ·rw[if_pos c11]at H
        have BO:=bn c11
        clear c11
        replace H:=eL.mp H
        obtain⟨t246,om,H⟩:=H
        replace H:(if t246=true then(if((aJ ai df).f1)=0 then(gV.gR k1 dZ ai (ai.length:Int) df true ((aJ ai df).f0) ((aJ ai df).f1))else((fE.f ((aJ ai df).f1) (-1000) 1000).bind fun t247=>(gV.gR k1 dZ ai (ai.length:Int) df (!t247) ((aJ ai df).f0) ((aJ ai df).f1))))else(some 5))=some r:=H
        have ke:=ae om
        clear om
        by_cases c13:t246=true
        ·subst c13
         replace H:(if((aJ ai df).f1)=0 then(gV.gR k1 dZ ai (ai.length:Int) df true ((aJ ai df).f0) ((aJ ai df).f1))else((fE.f ((aJ ai df).f1) (-1000) 1000).bind fun t247=>(gV.gR k1 dZ ai (ai.length:Int) df (!t247) ((aJ ai df).f0) ((aJ ai df).f1))))=some r:=tAd
         have xk:=ae H
         clear H
         have Am:0<=(df:Int):=bg tA4
         have Ap:df< (ai.length:Int):=bg tA4
         obtain⟨EL,RP,z6,z7⟩:=jD iZ.o df Am Ap
         cases RP
         replace z6:=(ak.o.cell (b7 w _ z6)).trans z6
         replace z7:=(ak.o.cell (b7 w _ z7)).trans z7
         replace Am:=eq_true Am
         replace Ap:=eq_true Ap
         go_upto_region 11 with(first|((with_reducible refine c5 (N:=5) rfl ?_);refine dD ?hg (N:=5) ?hd (cs:=#[.string (⟨#[]⟩:ByteArray),.int .i64 0]) (t:=79) ?hr ?_;(case hd=>rfl);(case hg=>rfl);(case hr=>first|(go_simp;done)|(go_simp;rfl));intro kx hg pL aU hb;have iy:=ae (aU);have afM:=ae (bC:w.heap.size<=kx);have afw:=ae (bC:w.heap.size<=kx);replace ak:=ae (au aD hb);have Bz:=ae (fA:kv≠kx);have BA:=ae (fz:kx≠kv);replace kf:=ae (av (g:=kv) (o:= .cells #[.int .i64 bO,.slice (some EL) ai.length aG] 33 (0,0)) cM hb);clear hb aU hg;have Ty:=BA.o;have Tz:=Bz.o;have Fp:pL.cell? ⟨kx,0,none⟩=some (.string (⟨#[]⟩:ByteArray)):=ah iy.o 0;have Fq:pL.cell? ⟨kx,1,none⟩=some (.int .i64 0):=ah iy.o 1;have Fw:=ar iy.o 0;have Fx:=ar iy.o 1)|((with_reducible refine cV (f:=47) rfl ?_);refine cW (some 24) rfl rfl Tryz.func47 tA1 rfl #[.string ((aJ ai df).f0)] rfl tA9 ?_;(with_reducible refine(dA.calls k1 ((aJ ai df).f0) true _ ke.o).mono ?_);rintro e wV ⟨rfl,hb⟩;refine⟨_,rfl,?_⟩;replace kf:=ae (av (g:=kv) (o:= .cells #[.int .i64 bO,.slice (some EL) ai.length aG] 33 (0,0)) cM hb);replace iy:=ae (av (g:=kx) (o:= .cells #[.string ((aJ ai df).f0),.int .i64 ((aJ ai df).f1)] 79 (0,0)) tEv hb);replace ak:=ae (au aD hb);(try clear hb);(try clear hb2);(try clear hk);(try clear hi)))
         (try simp only[bV])
         go_cut [26] (fun v26 wc=>∃(cy:Nat) (yS:Bool),v26= .bool yS/\af (gV.gR cy dZ ai (ai.length:Int) df yS ((aJ ai df).f0) ((aJ ai df).f1)=some r)/\af (cy<=k1)/\af (wc.heap[kv]?=some (.cells #[.int .i64 bO,(.slice (some EL) ai.length aG)] 33 (0,0)))/\af (wc.heap[kx]?=some (.cells #[.string ((aJ ai df).f0),.int .i64 ((aJ ai df).f1)] 79 (0,0)))/\af (Below w.heap.size w wc))
         case first=>
          have H:=xk.o
          clear xk
          by_cases c19:((aJ ai df).f1)=0
          ·rw[if_pos c19]at H
           have Iu:(((aJ ai df).f1)==0)=true:=beq_iff_eq.mpr c19
           have ajP:(((aJ ai df).f1) !=0)=false:=bne_eq_false_iff_eq.mpr c19
           clear c19
           (first|rw[Iu]|(simp only[Ab,CJ];rw[Iu])|skip)
           have bk:=ae H
           clear H
           have anS:=BA.o
           have an3:=Bz.o
           have aan:wV.cell? ⟨kx,0,none⟩=some (.string ((aJ ai df).f0)):=ah iy.o 0
           have aao:wV.cell? ⟨kx,1,none⟩=some (.int .i64 ((aJ ai df).f1)):=ah iy.o 1
           have aaI:=ar iy.o 0
           have aaJ:=ar iy.o 1
           go_wp2
           go_meet
           case rel=>exact⟨_,(true),tA6,bk,⟨tC7⟩,⟨tBo⟩,⟨tEq⟩,⟨aD⟩⟩
          ·rw[if_neg c19]at H
           have Iu:(((aJ ai df).f1)==0)=false:=ey.mpr c19
           have ajP:(((aJ ai df).f1) !=0)=true:=bne_iff_ne.mpr c19
           (first|rw[Iu]|(simp only[Ab,CJ];rw[Iu])|skip)
           replace H:=eL.mp H
           obtain⟨t247,GK,H⟩:=H
           replace H:(gV.gR k1 dZ ai (ai.length:Int) df (!t247) ((aJ ai df).f0) ((aJ ai df).f1))=some r:=H
           have Kg:=ae GK
           clear GK
           have bk:=ae H
           clear H
           have axq:=BA.o
           have axO:=Bz.o
           have auG:wV.cell? ⟨kx,0,none⟩=some (.string ((aJ ai df).f0)):=ah iy.o 0
           have auH:wV.cell? ⟨kx,1,none⟩=some (.int .i64 ((aJ ai df).f1)):=ah iy.o 1
           have avX:=ar iy.o 0
           have avY:=ar iy.o 1
           go_wp2_with (first|(go_at_call 49;(with_reducible refine(fE.calls ((aJ ai df).f1) (-1000) 1000 t247 _ Kg.o).mono ?_);rintro e w' ⟨rfl,⟨cg,rfl⟩⟩))
           go_meet
           case rel=>exact⟨_,(!t247),tA6,bk,⟨tC7⟩,⟨tBo⟩,⟨tEq⟩,⟨aD⟩⟩
         case rest=>
          clear xk
          try clear aM;try clear aV;try clear fB;try clear lJ;try clear c9;try clear wh;try clear c10;try clear xY;try clear c11;try clear BO;try clear c13;try clear Fp;try clear Fq;try clear tD;try clear tE;try clear Fw;try clear Fx;try clear tG;try clear tH;try clear z6;try clear z7;try clear Am;try clear Ap
          obtain⟨cy,yS,rfl,a7,Be,kf,iy,ak⟩:=hcut
          cases cy with
          | zero=>exact absurd a7.o (by simp[gV.gR])
          | succ Af=>
           have H:=a7.o
           clear a7
           simp only[gV.gR]at H
           by_cases k5:yS=true
           ·subst k5
            replace H:(some 1)=some r:=tAd
            obtain rfl:=bo H
            go_wp2
            go_ret
            exact⟨tAa,aD⟩
           ·replace k5:=ju.mpr k5
            subst k5
            replace H:(if((Op.bytesLess dZ.toList ((aJ ai df).f0).toList)=true)then(gV.l0 Af ((aJ ai df).f0) ai (ai.length:Int) (wrap64 (df+1)))else(some 7))=some r:=tAe
            by_cases oI:((Op.bytesLess dZ.toList ((aJ ai df).f0).toList)=true)
            ·rw[if_pos oI]at H
             have Ry:(Op.bytesLess dZ.toList ((aJ ai df).f0).toList)=true:=oI
             clear oI
             have bk:=ae H
             clear H
             have anU:=BA.o
             have an5:=Bz.o
             have aap:wc.cell? ⟨kx,0,none⟩=some (.string ((aJ ai df).f0)):=ah iy.o 0
             have aaq:wc.cell? ⟨kx,1,none⟩=some (.int .i64 ((aJ ai df).f1)):=ah iy.o 1
             have aaK:=ar iy.o 0
             have aaL:=ar iy.o 1
             go_wp2
             go_roundg Af
             case measure=>have:=dU.o;have:=Be.o;omega
             case rel=>exact⟨(((aJ ai df).f0)),(wrap64 (df+1)),tA6,tA6,bk,⟨tCx⟩,⟨tBo⟩,⟨aD⟩⟩
            ·rw[if_neg oI]at H
             have Ry:(Op.bytesLess dZ.toList ((aJ ai df).f0).toList)=false:=by simpa using oI
             clear oI
             obtain rfl:=bo H
             have axt:=BA.o
             have axR:=Bz.o
             have auS:wc.cell? ⟨kx,0,none⟩=some (.string ((aJ ai df).f0)):=ah iy.o 0
             have auT:wc.cell? ⟨kx,1,none⟩=some (.int .i64 ((aJ ai df).f1)):=ah iy.o 1
             have av9:=ar iy.o 0
             have awa:=ar iy.o 1
             go_wp2
             go_ret
             exact⟨tAa,aD⟩
        ·replace c13:=ju.mpr c13
         subst c13
         replace H:(some 5)=some r:=tAe
         obtain rfl:=bo H
         have Am:0<=(df:Int):=bg tA4
         have Ap:df< (ai.length:Int):=bg tA4
         obtain⟨EL,RP,z6,z7⟩:=jD iZ.o df Am Ap
         cases RP
         replace z6:=(ak.o.cell (b7 w _ z6)).trans z6
         replace z7:=(ak.o.cell (b7 w _ z7)).trans z7
         replace Am:=eq_true Am
         replace Ap:=eq_true Ap
         go_wp2_with (first|((with_reducible refine c5 (N:=5) rfl ?_);refine dD ?hg (N:=5) ?hd (cs:=#[.string (⟨#[]⟩:ByteArray),.int .i64 0]) (t:=79) ?hr ?_;(case hd=>rfl);(case hg=>rfl);(case hr=>first|(go_simp;done)|(go_simp;rfl));intro kx hg Gw aU hb;have iy:=ae (aU);have afM:=ae (bC:w.heap.size<=kx);have afw:=ae (bC:w.heap.size<=kx);replace ak:=ae (au aD hb);have Bz:=ae (fA:kv≠kx);have BA:=ae (fz:kx≠kv);replace kf:=ae (av (g:=kv) (o:= .cells #[.int .i64 bO,.slice (some EL) ai.length aG] 33 (0,0)) cM hb);clear hb aU hg;have anW:=BA.o;have an7:=Bz.o;have amH:Gw.cell? ⟨kx,0,none⟩=some (.string (⟨#[]⟩:ByteArray)):=ah iy.o 0;have amI:Gw.cell? ⟨kx,1,none⟩=some (.int .i64 0):=ah iy.o 1;have anb:=ar iy.o 0;have anc:=ar iy.o 1)|((with_reducible refine cV (f:=47) rfl ?_);refine cW (some 24) rfl rfl Tryz.func47 tA1 rfl #[.string ((aJ ai df).f0)] rfl tA9 ?_;(with_reducible refine(dA.calls k1 ((aJ ai df).f0) false _ ke.o).mono ?_);rintro e asY ⟨rfl,hb⟩;refine⟨_,rfl,?_⟩;replace kf:=ae (av (g:=kv) (o:= .cells #[.int .i64 bO,.slice (some EL) ai.length aG] 33 (0,0)) cM hb);replace iy:=ae (av (g:=kx) (o:= .cells #[.string ((aJ ai df).f0),.int .i64 ((aJ ai df).f1)] 79 (0,0)) tEv hb);replace ak:=ae (au aD hb);(try clear hb);(try clear hi)))
         go_ret
         exact⟨tAa,aD⟩
       ·rw[if_neg c11]at H
        exact absurd H tA2
      ·rw[if_neg c10]at H
       exact absurd H tA2
     ·rw[if_neg c9]at H
      have wh:=cE c9
      clear c9
      obtain rfl:=bo H
      go_wp2
      go_ret
      exact⟨tAa,aD⟩
 ·replace aM:=ju.mpr aM
  subst aM
  replace H:(some 1)=some r:=tAe
  obtain rfl:=bo H
  go_enter Tryz.func37,Tryz.ntmps37
  go_wp2_with (first|((with_reducible refine c5 (N:=1) rfl ?_);refine dD ?hg (N:=1) ?hd (cs:=#[.int .i64 bO,.slice aQ ai.length aG]) (t:=33) ?hr ?_;(case hd=>rfl);(case hg=>rfl);(case hr=>first|(go_simp;done)|(go_simp;rfl));intro kv hg nr aU hb;have kf:=ae (aU);have Wa:=ae (bC:w.heap.size<=kv);have V9:=ae (bC:w.heap.size<=kv);replace ak:=ae (au aD hb);clear hb aU hg;have amK:nr.cell? ⟨kv,0,none⟩=some (.int .i64 bO):=ah kf.o 0;have amL:nr.cell? ⟨kv,1,none⟩=some (.slice aQ ai.length aG):=ah kf.o 1;have anf:=ar kf.o 0;have ang:=ar kf.o 1)|((with_reducible refine cV (f:=49) rfl ?_);refine cW (some 8) rfl rfl Tryz.func49 tA1 rfl #[.int .i64 bO,.int .i64 (-1000000),.int .i64 1000000] rfl tA9 ?_;(with_reducible refine(fE.calls bO (-1000000) 1000000 false _ fG.o).mono ?_);rintro e w' ⟨rfl,⟨cg,rfl⟩⟩;refine⟨_,rfl,?_⟩))
  go_ret
  exact⟨tAa,aD⟩
def ln.l0:Nat->List ByteArray->List (ay)->Int->Int->Option (Int)
 | 0,_,_,_,_=>none
 | k+1,x1,lS,j7,gW=>if gW<j7 then(if 0<=gW then(if gW< (lS.length:Int)then((kF.f k x1 ((aJ lS gW).f0)).bind fun t252=>(if t252=true then(ln.l0 k x1 lS j7 (wrap64 (gW+1)))else(some 16)))else(none))else(none))else(some 0)
def ln.f (k:Nat)(bO:Int)(ai:List (ay))(l1:List ByteArray):Option (Int):=(gV.f k bO ai).bind fun t249=>(if t249=0 then(ln.l0 k l1 ai (ai.length:Int) 0)else(some t249))
theorem ln.calls (k:Nat)(bO:Int)(aQ:Option Addr)(aG:Nat)(ai:List (ay))(aN:Option Addr)(c1:Nat)(l1:List ByteArray)(r:Int)(w:World)(h9:Kd.C cf w aQ ai.length ai)(iH:ai.length<=aG)(hr1:Kd.C Kd.string w aN l1.length l1)(hc1:l1.length<=c1)(h:ln.f k bO ai l1=some r):
  Calls Tryz.prog 50 #[.agg #[.int .i64 bO,.slice aQ ai.length aG],.slice aN l1.length c1] w fun e w'=>e= .returned (.int .i64 r)/\Below w.heap.size w w':=by
 have Ci:=Tryz.underlying33
 have Nf:=Tryz.underlying79
 have iZ:=ae h9
 have nA:=ae iH
 clear h9 iH
 have fM:=ae hr1
 have jc:=ae hc1
 clear hr1 hc1
 have ak:=ae (Below.refl w.heap.size w)
 have H:((gV.f k bO ai).bind fun t249=>(if t249=0 then(ln.l0 k l1 ai (ai.length:Int) 0)else(some t249)))=some r:=h
 clear h
 replace H:=eL.mp H
 obtain⟨t249,gI,H⟩:=H
 replace H:(if t249=0 then(ln.l0 k l1 ai (ai.length:Int) 0)else(some t249))=some r:=H
 have gX:=ae gI
 clear gI
 by_cases aV:t249=0
 ·rw[if_pos aV]at H
  have fB:(t249==0)=true:=beq_iff_eq.mpr aV
  have lJ:(t249 !=0)=false:=bne_eq_false_iff_eq.mpr aV
  clear aV
  have bk:=ae H
  clear H
  go_enter Tryz.func50,Tryz.ntmps50
  go_wp2_with (first|((with_reducible refine c5 (N:=2) rfl ?_);refine dD ?hg (N:=2) ?hd (cs:=#[.int .i64 bO,.slice aQ ai.length aG]) (t:=33) ?hr ?_;(case hd=>rfl);(case hg=>rfl);(case hr=>first|(go_simp;done)|(go_simp;rfl));intro mm hg aZ aU hb;have lX:=ae (aU);have afN:=ae (bC:w.heap.size<=mm);have afx:=ae (bC:w.heap.size<=mm);replace ak:=ae (au aD hb);clear hb aU hg;have oP:aZ.cell? ⟨mm,0,none⟩=some (.int .i64 bO):=ah lX.o 0;have oQ:aZ.cell? ⟨mm,1,none⟩=some (.slice aQ ai.length aG):=ah lX.o 1;have oT:=ar lX.o 0;have oU:=ar lX.o 1)|((with_reducible refine cV (f:=37) rfl ?_);refine cW (some 9) rfl rfl Tryz.func37 tA1 rfl #[.agg #[.int .i64 bO,.slice aQ ai.length aG]] rfl tA9 ?_;(with_reducible refine(gV.calls k bO _ _ ai t249 _ ?side1 ?side2 gX.o).mono ?_);(case side1=>repeat(first|exact(Kd.bN iZ.o ak.o)|(with_reducible refine Kd.o5 ?_ _)|(with_reducible refine Kd.ot ?_ _)|(with_reducible refine Kd.oq ?_)));(case side2=>exact nA.o);rintro e bt ⟨rfl,hb⟩;refine⟨_,rfl,?_⟩;replace lX:=ae (av (g:=mm) (o:= .cells #[.int .i64 bO,.slice aQ ai.length aG] 33 (0,0)) cM hb);replace ak:=ae (au aD hb);(try clear hb);have tD:bt.cell? ⟨mm,0,none⟩=some (.int .i64 bO):=ah lX.o 0;have tE:bt.cell? ⟨mm,1,none⟩=some (.slice aQ ai.length aG):=ah lX.o 1;have tG:=ar lX.o 0;have tH:=ar lX.o 1))
  go_loopg [16] k (fun cy v16 w'=>∃(bE:Int),v16= .int .i64 bE/\af (ln.l0 cy l1 ai (ai.length:Int) bE=some r)/\af (cy<=k)/\af (w'.heap[mm]?=some (.cells #[.int .i64 bO,(.slice aQ ai.length aG)] 33 (0,0)))/\af (Below w.heap.size w w'))
  case atStart=>exact⟨(0),tA6,bk,⟨bl _⟩,⟨by(with_reducible repeat(first|refine bD ?_ _|refine bz ?_|refine aH ?_ _));exact lX.o⟩,⟨aD⟩⟩
  case round=>
   clear bk
   try clear c1;try clear aV;try clear fB;try clear lJ;try clear oP;try clear oQ;try clear tD;try clear tE;try clear oT;try clear oU;try clear tG;try clear tH
   obtain⟨bE,rfl,a7,dU,lX,ak⟩:=hrel
   cases gk with
   | zero=>exact absurd a7.o (by simp[ln.l0])
   | succ k1=>
    have H:=a7.o
    clear a7
    simp only[ln.l0]at H
    by_cases c9:bE< (ai.length:Int)
    ·rw[if_pos c9]at H
     have wh:=bn c9
     clear c9
     by_cases c10:0<=bE
     ·rw[if_pos c10]at H
      have xY:=bn c10
      clear c10
      by_cases c11:bE< (ai.length:Int)
      ·rw[if_pos c11]at H
       have BO:=bn c11
       clear c11
       replace H:=eL.mp H
       obtain⟨t252,om,H⟩:=H
       replace H:(if t252=true then(ln.l0 k1 l1 ai (ai.length:Int) (wrap64 (bE+1)))else(some 16))=some r:=H
       have ke:=ae om
       clear om
       by_cases c13:t252=true
       ·subst c13
        replace H:(ln.l0 k1 l1 ai (ai.length:Int) (wrap64 (bE+1)))=some r:=tAd
        have bk:=ae H
        clear H
        have CW:0<=(bE:Int):=bg tA4
        have Dd:bE< (ai.length:Int):=bg tA4
        obtain⟨Ri,RQ,Ck,Cl⟩:=jD iZ.o bE CW Dd
        cases RQ
        replace Ck:=(ak.o.cell (b7 w _ Ck)).trans Ck
        replace Cl:=(ak.o.cell (b7 w _ Cl)).trans Cl
        replace CW:=eq_true CW
        replace Dd:=eq_true Dd
        go_wp2_with (first|((with_reducible refine c5 (N:=7) rfl ?_);refine dD ?hg (N:=7) ?hd (cs:=#[.string (⟨#[]⟩:ByteArray),.int .i64 0]) (t:=79) ?hr ?_;(case hd=>rfl);(case hg=>rfl);(case hr=>first|(go_simp;done)|(go_simp;rfl));intro sw hg rH aU hb;have w7:=ae (aU);have afO:=ae (bC:w.heap.size<=sw);have afy:=ae (bC:w.heap.size<=sw);replace ak:=ae (au aD hb);have H2:=ae (fA:mm≠sw);have QB:=ae (fz:sw≠mm);replace lX:=ae (av (g:=mm) (o:= .cells #[.int .i64 bO,.slice (some Ri) ai.length aG] 33 (0,0)) cM hb);clear hb aU hg;have abk:=QB.o;have abm:=H2.o;have aal:rH.cell? ⟨sw,0,none⟩=some (.string (⟨#[]⟩:ByteArray)):=ah w7.o 0;have aam:rH.cell? ⟨sw,1,none⟩=some (.int .i64 0):=ah w7.o 1;have aaG:=ar w7.o 0;have aaH:=ar w7.o 1)|((with_reducible refine cV (f:=48) rfl ?_);refine cW (some 23) rfl rfl Tryz.func48 tA1 rfl #[.slice aN l1.length c1,.string ((aJ ai bE).f0)] rfl tA9 ?_;(with_reducible refine(kF.calls k1 _ _ l1 ((aJ ai bE).f0) true _ ?side1 ?side2 ke.o).mono ?_);(case side1=>exact Kd.bN fM.o aD);(case side2=>exact jc.o);rintro e w' ⟨rfl,⟨cg,rfl⟩⟩;refine⟨_,rfl,?_⟩))
        go_roundg k1
        case measure=>have:=dU.o;omega
        case rel=>exact⟨(wrap64 (bE+1)),tA6,bk,⟨tAm⟩,⟨by(with_reducible repeat(first|refine bD ?_ _|refine bz ?_|refine aH ?_ _));refine lH ?_ H2.o _;(with_reducible repeat(first|refine bD ?_ _|refine bz ?_|refine aH ?_ _));refine lH ?_ H2.o _;(with_reducible repeat(first|refine bD ?_ _|refine bz ?_|refine aH ?_ _));exact lX.o⟩,⟨aD⟩⟩
       ·replace c13:=ju.mpr c13
        subst c13
        replace H:(some 16)=some r:=tAe
        obtain rfl:=bo H
        have CW:0<=(bE:Int):=bg tA4
        have Dd:bE< (ai.length:Int):=bg tA4
        obtain⟨Ri,RQ,Ck,Cl⟩:=jD iZ.o bE CW Dd
        cases RQ
        replace Ck:=(ak.o.cell (b7 w _ Ck)).trans Ck
        replace Cl:=(ak.o.cell (b7 w _ Cl)).trans Cl
        replace CW:=eq_true CW
        replace Dd:=eq_true Dd
        go_wp2_with (first|((with_reducible refine c5 (N:=7) rfl ?_);refine dD ?hg (N:=7) ?hd (cs:=#[.string (⟨#[]⟩:ByteArray),.int .i64 0]) (t:=79) ?hr ?_;(case hd=>rfl);(case hg=>rfl);(case hr=>first|(go_simp;done)|(go_simp;rfl));intro sw hg DF aU hb;have w7:=ae (aU);have afO:=ae (bC:w.heap.size<=sw);have afy:=ae (bC:w.heap.size<=sw);replace ak:=ae (au aD hb);have H2:=ae (fA:mm≠sw);have QB:=ae (fz:sw≠mm);replace lX:=ae (av (g:=mm) (o:= .cells #[.int .i64 bO,.slice (some Ri) ai.length aG] 33 (0,0)) cM hb);clear hb aU hg;have anR:=QB.o;have an2:=H2.o;have amz:DF.cell? ⟨sw,0,none⟩=some (.string (⟨#[]⟩:ByteArray)):=ah w7.o 0;have amA:DF.cell? ⟨sw,1,none⟩=some (.int .i64 0):=ah w7.o 1;have am3:=ar w7.o 0;have am4:=ar w7.o 1)|((with_reducible refine cV (f:=48) rfl ?_);refine cW (some 23) rfl rfl Tryz.func48 tA1 rfl #[.slice aN l1.length c1,.string ((aJ ai bE).f0)] rfl tA9 ?_;(with_reducible refine(kF.calls k1 _ _ l1 ((aJ ai bE).f0) false _ ?side1 ?side2 ke.o).mono ?_);(case side1=>exact Kd.bN fM.o aD);(case side2=>exact jc.o);rintro e w' ⟨rfl,⟨cg,rfl⟩⟩;refine⟨_,rfl,?_⟩))
        go_ret
        exact⟨tAa,aD⟩
      ·rw[if_neg c11]at H
       exact absurd H tA2
     ·rw[if_neg c10]at H
      exact absurd H tA2
    ·rw[if_neg c9]at H
     have wh:=cE c9
     clear c9
     obtain rfl:=bo H
     go_wp2
     go_ret
     exact⟨tAa,aD⟩
 ·rw[if_neg aV]at H
  have fB:(t249==0)=false:=ey.mpr aV
  have lJ:(t249 !=0)=true:=bne_iff_ne.mpr aV
  obtain rfl:=bo H
  go_enter Tryz.func50,Tryz.ntmps50
  go_wp2_with (first|((with_reducible refine c5 (N:=2) rfl ?_);refine dD ?hg (N:=2) ?hd (cs:=#[.int .i64 bO,.slice aQ ai.length aG]) (t:=33) ?hr ?_;(case hd=>rfl);(case hg=>rfl);(case hr=>first|(go_simp;done)|(go_simp;rfl));intro mm hg Gu aU hb;have lX:=ae (aU);have afN:=ae (bC:w.heap.size<=mm);have afx:=ae (bC:w.heap.size<=mm);replace ak:=ae (au aD hb);clear hb aU hg;have aan:Gu.cell? ⟨mm,0,none⟩=some (.int .i64 bO):=ah lX.o 0;have aao:Gu.cell? ⟨mm,1,none⟩=some (.slice aQ ai.length aG):=ah lX.o 1;have aaI:=ar lX.o 0;have aaJ:=ar lX.o 1)|((with_reducible refine cV (f:=37) rfl ?_);refine cW (some 9) rfl rfl Tryz.func37 tA1 rfl #[.agg #[.int .i64 bO,.slice aQ ai.length aG]] rfl tA9 ?_;(with_reducible refine(gV.calls k bO _ _ ai t249 _ ?side1 ?side2 gX.o).mono ?_);(case side1=>repeat(first|exact(Kd.bN iZ.o ak.o)|(with_reducible refine Kd.o5 ?_ _)|(with_reducible refine Kd.ot ?_ _)|(with_reducible refine Kd.oq ?_)));(case side2=>exact nA.o);rintro e aei ⟨rfl,hb⟩;refine⟨_,rfl,?_⟩;replace lX:=ae (av (g:=mm) (o:= .cells #[.int .i64 bO,.slice aQ ai.length aG] 33 (0,0)) cM hb);replace ak:=ae (au aD hb);(try clear hb);(try clear hi)))
  go_ret
  exact⟨tAa,aD⟩
end Go.Proofs.YtjgakaembhmhpaaGreatDoor.PA
