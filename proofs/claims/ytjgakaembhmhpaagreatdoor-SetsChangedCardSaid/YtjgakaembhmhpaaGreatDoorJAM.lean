/- Part of the proof of SetsChanged: the walk and the plain laws. It holds without further conditions. -/
import Derived.Test.YtjgakaembhmhpaaGreatDoorJAI
set_option linter.unusedVariables false
set_option linter.unusedSimpArgs false
set_option maxHeartbeats 16000000
set_option maxRecDepth 100000
namespace Go.Proofs.YtjgakaembhmhpaaGreatDoor.PA
open Go.RowKit Go.Proofs.YtjgakaembhmhpaaGreatDoorW.PrintWords Go.Proofs.YtjgakaembhmhpaaGreatDoorW.PrintLast Go.Proofs.YtjgakaembhmhpaaGreatDoorW.PrintMore
open Go.Proofs.YtjgakaembhmhpaaGreatDoorM
attribute [local go_sem] str_leq str_gtr str_geq
attribute [local go_sem] max2_int min2_int max_two min_two max_three min_three max_four min_four
theorem eqA77 (d:Nat)(w:World)(x0 aK:ByteArray)(x1 aC:Int)(x2 bM:Int):
  (Op.equalIn (d+2) 77 (.agg #[.string x0,.int .i64 x1,.int .i64 x2]) (.agg #[.string aK,.int .i64 aC,.int .i64 bM])).run Tryz.prog w= .ok (x0.toList==aK.toList&&(x1==aC&&(x2==bM))) w:=by
 refine Zm Tryz.underlying77 tA1 ?_
 refine Sd tA5 tAx tAx tBm ?_
 refine Sd tA5 tAx tAx tBm ?_
 exact Zo tA5 tAx tAx tBm
theorem eqA79 (d:Nat)(w:World)(x0 aK:ByteArray)(x1 aC:Int):
  (Op.equalIn (d+2) 79 (.agg #[.string x0,.int .i64 x1]) (.agg #[.string aK,.int .i64 aC])).run Tryz.prog w= .ok (x0.toList==aK.toList&&(x1==aC)) w:=by
 refine Zm Tryz.underlying79 tA1 ?_
 refine Sd tA5 tAx tAx tBm ?_
 exact Zo tA5 tAx tAx tBm
attribute [local go_sem high] eqA77 eqA79
def sI.l0:Nat->Int->Int->Option (Int)
 | 0,_,_=>none
 | k+1,x0,x1=>if x1=0 then(some (mx x0 (wrap64 (-x0))))else(sI.l0 k x1 (Int.tmod x0 x1))
def sI.f (k:Nat)(a0:Int)(a1:Int):Option (Int):=sI.l0 k a0 a1
theorem sI.calls (k:Nat)(a0:Int)(a1:Int)(r:Int)(w:World)(h:sI.f k a0 a1=some r):
  Calls Tryz.prog 134 #[.int .i64 a0,.int .i64 a1] w fun e w'=>e= .returned (.int .i64 r)/\Below w.heap.size w w':=by
 have ak:=ae (Below.refl w.heap.size w)
 have H:(sI.l0 k a0 a1)=some r:=h
 clear h
 have bk:=ae H
 clear H
 go_enter Tryz.func134,Tryz.ntmps134
 go_wp2
 repeat(go_quiet (fail);try go_wp2)
 go_loopg [0,1] k (fun cy v0 v1 w'=>∃(lR:Int) (lT:Int),v0= .int .i64 lR/\v1= .int .i64 lT/\af (sI.l0 cy lR lT=some r)/\af (cy<=k)/\af (Below w.heap.size w w'))
 case atStart=>exact⟨(a0),(a1),tA6,tA6,bk,⟨bl _⟩,⟨aD⟩⟩
 case round=>
  clear bk
  obtain⟨lR,lT,rfl,rfl,a7,dU,ak⟩:=hrel
  cases gk with
  | zero=>exact absurd a7.o (by simp[sI.l0])
  | succ k1=>
   have H:=a7.o
   clear a7
   simp only[sI.l0]at H
   by_cases aM:lT=0
   ·rw[if_pos aM]at H
    have jE:(lT==0)=true:=beq_iff_eq.mpr aM
    have k6:(lT !=0)=false:=bne_eq_false_iff_eq.mpr aM
    clear aM
    obtain⟨Jw,yr⟩:∃CN:Int,(mx lR (wrap64 (-lR)))=CN:=⟨_,rfl⟩
    replace H:(some Jw)=some r:=tDz
    have anw:(if lR< (wrap64 (-lR))then(wrap64 (-lR))else lR)=Jw:=yr
    obtain rfl:=bo H
    go_wp2
    repeat(go_quiet (fail);try go_wp2)
    go_ret
    exact⟨tEr,aD⟩
   ·rw[if_neg aM]at H
    have jE:(lT==0)=false:=ey.mpr aM
    have k6:(lT !=0)=true:=bne_iff_ne.mpr aM
    have bk:=ae H
    clear H
    go_wp2
    repeat(go_quiet (fail);try go_wp2)
    go_roundg k1
    case measure=>have:=dU.o;omega
    case rel=>exact⟨(lT),(Int.tmod lR lT),tA6,tA6,bk,⟨tAm⟩,⟨aD⟩⟩
def Jz.f (a0:Int)(a1:Int):Option (Int):=if a1=0 then(none)else(if(Int.tmod a0 a1)<0 then(some (wrap64 ((wrap64 (Int.tdiv a0 a1))-1)))else(some (wrap64 (Int.tdiv a0 a1))))
theorem Jz.calls (a0:Int)(a1:Int)(r:Int)(w:World)(h:Jz.f a0 a1=some r):
  Calls Tryz.prog 135 #[.int .i64 a0,.int .i64 a1] w fun e w'=>e= .returned (.int .i64 r)/\aR w w':=by
 have H:(if a1=0 then(none)else(if(Int.tmod a0 a1)<0 then(some (wrap64 ((wrap64 (Int.tdiv a0 a1))-1)))else(some (wrap64 (Int.tdiv a0 a1)))))=some r:=h
 clear h
 by_cases aM:a1=0
 ·rw[if_pos aM]at H
  exact absurd H tA2
 ·rw[if_neg aM]at H
  have jE:(a1==0)=false:=ey.mpr aM
  have k6:(a1 !=0)=true:=bne_iff_ne.mpr aM
  by_cases aV:(Int.tmod a0 a1)<0
  ·rw[if_pos aV]at H
   have fB:=bn aV
   clear aV
   obtain rfl:=bo H
   go_enter Tryz.func135,Tryz.ntmps135
   go_wp2
   go_ret
   exact⟨tA6,tA8⟩
  ·rw[if_neg aV]at H
   have fB:=cE aV
   clear aV
   obtain rfl:=bo H
   go_enter Tryz.func135,Tryz.ntmps135
   go_wp2
   go_ret
   exact⟨tA6,tA8⟩
def ayl.f (a0:Int):Option (Int×(List (ay))):=some (a0,([]:List (ay)))
def sW.l0:Nat->Int->Int->Option (Int)
 | 0,_,_=>none
 | k+1,x0,x1=>if x1=0 then(some (mx x0 (wrap64 (-x0))))else(sW.l0 k x1 (Int.tmod x0 x1))
def sW.f (k:Nat)(a0:Int)(a1:Int):Option (Int):=sW.l0 k a0 a1
theorem sW.calls (k:Nat)(a0:Int)(a1:Int)(r:Int)(w:World)(h:sW.f k a0 a1=some r):
  Calls Tryz.prog 96 #[.int .i64 a0,.int .i64 a1] w fun e w'=>e= .returned (.int .i64 r)/\Below w.heap.size w w':=by
 have ak:=ae (Below.refl w.heap.size w)
 have H:(sW.l0 k a0 a1)=some r:=h
 clear h
 have bk:=ae H
 clear H
 go_enter Tryz.func96,Tryz.ntmps96
 go_wp2
 repeat(go_quiet (fail);try go_wp2)
 go_loopg [0,1] k (fun cy v0 v1 w'=>∃(lR:Int) (lT:Int),v0= .int .i64 lR/\v1= .int .i64 lT/\af (sW.l0 cy lR lT=some r)/\af (cy<=k)/\af (Below w.heap.size w w'))
 case atStart=>exact⟨(a0),(a1),tA6,tA6,bk,⟨bl _⟩,⟨aD⟩⟩
 case round=>
  clear bk
  obtain⟨lR,lT,rfl,rfl,a7,dU,ak⟩:=hrel
  cases gk with
  | zero=>exact absurd a7.o (by simp[sW.l0])
  | succ k1=>
   have H:=a7.o
   clear a7
   simp only[sW.l0]at H
   by_cases aM:lT=0
   ·rw[if_pos aM]at H
    have jE:(lT==0)=true:=beq_iff_eq.mpr aM
    have k6:(lT !=0)=false:=bne_eq_false_iff_eq.mpr aM
    clear aM
    obtain⟨Jw,yr⟩:∃CN:Int,(mx lR (wrap64 (-lR)))=CN:=⟨_,rfl⟩
    replace H:(some Jw)=some r:=tDz
    have anw:(if lR< (wrap64 (-lR))then(wrap64 (-lR))else lR)=Jw:=yr
    obtain rfl:=bo H
    go_wp2
    repeat(go_quiet (fail);try go_wp2)
    go_ret
    exact⟨tEr,aD⟩
   ·rw[if_neg aM]at H
    have jE:(lT==0)=false:=ey.mpr aM
    have k6:(lT !=0)=true:=bne_iff_ne.mpr aM
    have bk:=ae H
    clear H
    go_wp2
    repeat(go_quiet (fail);try go_wp2)
    go_roundg k1
    case measure=>have:=dU.o;omega
    case rel=>exact⟨(lT),(Int.tmod lR lT),tA6,tA6,bk,⟨tAm⟩,⟨aD⟩⟩
def Ka.f (a0:Int)(a1:Int):Option (Int):=if a1=0 then(none)else(if(Int.tmod a0 a1)=0 then(some (wrap64 (Int.tdiv a0 a1)))else(if a0<0 then(some (wrap64 ((wrap64 (Int.tdiv a0 a1))-1)))else(some (wrap64 (Int.tdiv a0 a1)))))
theorem Ka.calls (a0:Int)(a1:Int)(r:Int)(w:World)(h:Ka.f a0 a1=some r):
  Calls Tryz.prog 97 #[.int .i64 a0,.int .i64 a1] w fun e w'=>e= .returned (.int .i64 r)/\aR w w':=by
 have H:(if a1=0 then(none)else(if(Int.tmod a0 a1)=0 then(some (wrap64 (Int.tdiv a0 a1)))else(if a0<0 then(some (wrap64 ((wrap64 (Int.tdiv a0 a1))-1)))else(some (wrap64 (Int.tdiv a0 a1))))))=some r:=h
 clear h
 by_cases aM:a1=0
 ·rw[if_pos aM]at H
  exact absurd H tA2
 ·rw[if_neg aM]at H
  have jE:(a1==0)=false:=ey.mpr aM
  have k6:(a1 !=0)=true:=bne_iff_ne.mpr aM
  by_cases aV:(Int.tmod a0 a1)=0
  ·rw[if_pos aV]at H
   have fB:((Int.tmod a0 a1)==0)=true:=beq_iff_eq.mpr aV
   have lJ:((Int.tmod a0 a1) !=0)=false:=bne_eq_false_iff_eq.mpr aV
   clear aV
   obtain rfl:=bo H
   go_enter Tryz.func97,Tryz.ntmps97
   go_wp2
   go_ret
   exact⟨tA6,tA8⟩
  ·rw[if_neg aV]at H
   have fB:((Int.tmod a0 a1)==0)=false:=ey.mpr aV
   have lJ:((Int.tmod a0 a1) !=0)=true:=bne_iff_ne.mpr aV
   by_cases bW:a0<0
   ·rw[if_pos bW]at H
    have nO:=bn bW
    clear bW
    obtain rfl:=bo H
    go_enter Tryz.func97,Tryz.ntmps97
    go_wp2
    go_ret
    exact⟨tA6,tA8⟩
   ·rw[if_neg bW]at H
    have nO:=cE bW
    clear bW
    obtain rfl:=bo H
    go_enter Tryz.func97,Tryz.ntmps97
    go_wp2
    go_ret
    exact⟨tA6,tA8⟩
def Oo.f (a0:Int):Option (ByteArray):=if a0<0 then(some (⟨#[32,45,32]⟩:ByteArray))else(some (⟨#[32,43,32]⟩:ByteArray))
theorem Oo.calls (a0:Int)(r:ByteArray)(w:World)(h:Oo.f a0=some r):
  Calls Tryz.prog 181 #[.int .i64 a0] w fun e w'=>e= .returned (.string r)/\aR w w':=by
 have H:(if a0<0 then(some (⟨#[32,45,32]⟩:ByteArray))else(some (⟨#[32,43,32]⟩:ByteArray)))=some r:=h
 clear h
 by_cases bb:a0<0
 ·rw[if_pos bb]at H
  have lI:=bn bb
  clear bb
  obtain rfl:=bo H
  go_enter Tryz.func181,Tryz.ntmps181
  go_wp2
  go_ret
  exact⟨tA6,tA8⟩
 ·rw[if_neg bb]at H
  have lI:=cE bb
  clear bb
  obtain rfl:=bo H
  go_enter Tryz.func181,Tryz.ntmps181
  go_wp2
  go_ret
  exact⟨tA6,tA8⟩
def tT.f (a0:ByteArray)(a1:ByteArray):Option (Bool):=if(a0.size:Int)>=(a1.size:Int)then(if 0<=(a1.size:Int)then(if(a1.size:Int)<=(a0.size:Int)then(some ((a0.extract 0 ((a1.size:Int):Int).toNat).toList==a1.toList))else(none))else(none))else(some false)
theorem tT.calls (a0:ByteArray)(a1:ByteArray)(r:Bool)(w:World)(h:tT.f a0 a1=some r):
  Calls Tryz.prog 227 #[.string a0,.string a1] w fun e w'=>e= .returned (.bool r)/\aR w w':=by
 have H:(if(a0.size:Int)>=(a1.size:Int)then(if 0<=(a1.size:Int)then(if(a1.size:Int)<=(a0.size:Int)then(some ((a0.extract 0 ((a1.size:Int):Int).toNat).toList==a1.toList))else(none))else(none))else(some false))=some r:=h
 clear h
 by_cases aM:(a0.size:Int)>=(a1.size:Int)
 ·rw[if_pos aM]at H
  have jE:decide ((a1.size:Int)<=(a0.size:Int))=true:=bn aM
  have k6:decide (a1.size<=a0.size)=true:=bn (Int.ofNat_le.mp aM)
  clear aM
  by_cases aV:0<=(a1.size:Int)
  ·rw[if_pos aV]at H
   have fB:=eq_true aV
   have lJ:=bn aV
   clear aV
   by_cases bW:(a1.size:Int)<=(a0.size:Int)
   ·rw[if_pos bW]at H
    have nO:=eq_true bW
    have zF:=bn bW
    clear bW
    obtain rfl:=bo H
    go_enter Tryz.func227,Tryz.ntmps227
    go_wp2
    go_ret
    exact⟨tA6,tA8⟩
   ·rw[if_neg bW]at H
    exact absurd H tA2
  ·rw[if_neg aV]at H
   exact absurd H tA2
 ·rw[if_neg aM]at H
  have jE:decide ((a1.size:Int)<=(a0.size:Int))=false:=cE aM
  have k6:decide (a1.size<=a0.size)=false:=cE (fun h=>aM (Int.ofNat_le.mpr h))
  clear aM
  obtain rfl:=bo H
  go_enter Tryz.func227,Tryz.ntmps227
  go_wp2
  go_ret
  exact⟨tA6,tA8⟩
def Gg.f (a0:ByteArray)(a1:ByteArray):Option (ByteArray×Bool):=(tT.f a0 a1).bind fun Gm=>(if Gm=true then(if 0<=(a1.size:Int)then(if(a1.size:Int)<=(a0.size:Int)then(some (a0.extract ((a1.size:Int):Int).toNat a0.size,true))else(none))else(none))else(some (a0,false)))
theorem Gg.calls (a0:ByteArray)(a1:ByteArray)(r1:ByteArray)(r2:Bool)(w:World)(h:Gg.f a0 a1=some (r1,r2)):
  Calls Tryz.prog 207 #[.string a0,.string a1] w fun e w'=>e= .returned (.tuple #[.string r1,.bool r2])/\aR w w':=by
 have H:((tT.f a0 a1).bind fun Gm=>(if Gm=true then(if 0<=(a1.size:Int)then(if(a1.size:Int)<=(a0.size:Int)then(some (a0.extract ((a1.size:Int):Int).toNat a0.size,true))else(none))else(none))else(some (a0,false))))=some (r1,r2):=h
 clear h
 replace H:=eL.mp H
 obtain⟨Gm,gI,H⟩:=H
 replace H:(if Gm=true then(if 0<=(a1.size:Int)then(if(a1.size:Int)<=(a0.size:Int)then(some (a0.extract ((a1.size:Int):Int).toNat a0.size,true))else(none))else(none))else(some (a0,false)))=some (r1,r2):=H
 have gX:=ae gI
 clear gI
 by_cases aV:Gm=true
 ·subst aV
  replace H:(if 0<=(a1.size:Int)then(if(a1.size:Int)<=(a0.size:Int)then(some (a0.extract ((a1.size:Int):Int).toNat a0.size,true))else(none))else(none))=some (r1,r2):=tAd
  by_cases bW:0<=(a1.size:Int)
  ·rw[if_pos bW]at H
   have nO:=eq_true bW
   have zF:=bn bW
   clear bW
   by_cases c6:(a1.size:Int)<=(a0.size:Int)
   ·rw[if_pos c6]at H
    have x9:=eq_true c6
    have EX:=bn c6
    clear c6
    simp only[Option.some.injEq,Prod.mk.injEq]at H
    obtain⟨rfl,rfl⟩:=H
    go_enter Tryz.func207,Tryz.ntmps207
    go_wp2_with (first|((with_reducible refine cV (f:=227) rfl ?_);refine cW (some 8) rfl rfl Tryz.func227 tA1 rfl #[.string a0,.string a1] rfl tA9 ?_;(with_reducible refine(tT.calls a0 a1 true _ gX.o).mono ?_);rintro e w' ⟨rfl,⟨cg,rfl⟩⟩;refine⟨_,rfl,?_⟩))
    go_ret2
    exact⟨tA6,tA8⟩
   ·rw[if_neg c6]at H
    exact absurd H tA2
  ·rw[if_neg bW]at H
   exact absurd H tA2
 ·replace aV:=ju.mpr aV
  subst aV
  replace H:(some (a0,false))=some (r1,r2):=tAe
  simp only[Option.some.injEq,Prod.mk.injEq]at H
  obtain⟨rfl,rfl⟩:=H
  go_enter Tryz.func207,Tryz.ntmps207
  go_wp2_with (first|((with_reducible refine cV (f:=227) rfl ?_);refine cW (some 8) rfl rfl Tryz.func227 tA1 rfl #[.string a0,.string a1] rfl tA9 ?_;(with_reducible refine(tT.calls a0 a1 false _ gX.o).mono ?_);rintro e w' ⟨rfl,⟨cg,rfl⟩⟩;refine⟨_,rfl,?_⟩))
  go_ret2
  exact⟨tA6,tA8⟩
def Ge.f (a0:ByteArray)(a1:ByteArray):Option (ByteArray×Bool):=(Gg.f a0 a1).bind fun Iq=>(some (Iq.1,Iq.2))
theorem Ge.calls (a0:ByteArray)(a1:ByteArray)(r1:ByteArray)(r2:Bool)(w:World)(h:Ge.f a0 a1=some (r1,r2)):
  Calls Tryz.prog 182 #[.string a0,.string a1] w fun e w'=>e= .returned (.tuple #[.string r1,.bool r2])/\aR w w':=by
 have H:((Gg.f a0 a1).bind fun Iq=>(some (Iq.1,Iq.2)))=some (r1,r2):=h
 clear h
 replace H:=eL.mp H
 obtain⟨⟨adU,adV⟩,gI,H⟩:=H
 replace H:(some (adU,adV))=some (r1,r2):=H
 have gX:=ae gI
 clear gI
 simp only[Option.some.injEq,Prod.mk.injEq]at H
 obtain⟨rfl,rfl⟩:=H
 go_enter Tryz.func182,Tryz.ntmps182
 go_wp2_with (first|((with_reducible refine cV (f:=207) rfl ?_);refine cW (some 8) rfl rfl Tryz.func207 tA1 rfl #[.string a0,.string a1] rfl tA9 ?_;(with_reducible refine(Gg.calls a0 a1 adU adV _ gX.o).mono ?_);rintro e w' ⟨rfl,⟨cg,rfl⟩⟩;refine⟨_,rfl,?_⟩))
 go_ret2
 exact⟨tA6,tA8⟩
def Gh.f (a0:ByteArray)(a1:ByteArray):Option (ByteArray):=(tT.f a0 a1).bind fun Gn=>(if Gn=true then(if 0<=(a1.size:Int)then(if(a1.size:Int)<=(a0.size:Int)then(some (a0.extract ((a1.size:Int):Int).toNat a0.size))else(none))else(none))else(some a0))
theorem Gh.calls (a0:ByteArray)(a1:ByteArray)(r:ByteArray)(w:World)(h:Gh.f a0 a1=some r):
  Calls Tryz.prog 208 #[.string a0,.string a1] w fun e w'=>e= .returned (.string r)/\aR w w':=by
 have H:((tT.f a0 a1).bind fun Gn=>(if Gn=true then(if 0<=(a1.size:Int)then(if(a1.size:Int)<=(a0.size:Int)then(some (a0.extract ((a1.size:Int):Int).toNat a0.size))else(none))else(none))else(some a0)))=some r:=h
 clear h
 replace H:=eL.mp H
 obtain⟨Gn,gI,H⟩:=H
 replace H:(if Gn=true then(if 0<=(a1.size:Int)then(if(a1.size:Int)<=(a0.size:Int)then(some (a0.extract ((a1.size:Int):Int).toNat a0.size))else(none))else(none))else(some a0))=some r:=H
 have gX:=ae gI
 clear gI
 by_cases aV:Gn=true
 ·subst aV
  replace H:(if 0<=(a1.size:Int)then(if(a1.size:Int)<=(a0.size:Int)then(some (a0.extract ((a1.size:Int):Int).toNat a0.size))else(none))else(none))=some r:=tAd
  by_cases bW:0<=(a1.size:Int)
  ·rw[if_pos bW]at H
   have nO:=eq_true bW
   have zF:=bn bW
   clear bW
   by_cases c6:(a1.size:Int)<=(a0.size:Int)
   ·rw[if_pos c6]at H
    have x9:=eq_true c6
    have EX:=bn c6
    clear c6
    obtain rfl:=bo H
    go_enter Tryz.func208,Tryz.ntmps208
    go_wp2_with (first|((with_reducible refine cV (f:=227) rfl ?_);refine cW (some 7) rfl rfl Tryz.func227 tA1 rfl #[.string a0,.string a1] rfl tA9 ?_;(with_reducible refine(tT.calls a0 a1 true _ gX.o).mono ?_);rintro e w' ⟨rfl,⟨cg,rfl⟩⟩;refine⟨_,rfl,?_⟩))
    go_ret
    exact⟨tA6,tA8⟩
   ·rw[if_neg c6]at H
    exact absurd H tA2
  ·rw[if_neg bW]at H
   exact absurd H tA2
 ·replace aV:=ju.mpr aV
  subst aV
  replace H:(some a0)=some r:=tAe
  obtain rfl:=bo H
  go_enter Tryz.func208,Tryz.ntmps208
  go_wp2_with (first|((with_reducible refine cV (f:=227) rfl ?_);refine cW (some 7) rfl rfl Tryz.func227 tA1 rfl #[.string a0,.string a1] rfl tA9 ?_;(with_reducible refine(tT.calls a0 a1 false _ gX.o).mono ?_);rintro e w' ⟨rfl,⟨cg,rfl⟩⟩;refine⟨_,rfl,?_⟩))
  go_ret
  exact⟨tA6,tA8⟩
def Gf.f (a0:ByteArray)(a1:ByteArray):Option (ByteArray):=(Gh.f a0 a1).bind fun Gp=>(some Gp)
theorem Gf.calls (a0:ByteArray)(a1:ByteArray)(r:ByteArray)(w:World)(h:Gf.f a0 a1=some r):
  Calls Tryz.prog 183 #[.string a0,.string a1] w fun e w'=>e= .returned (.string r)/\aR w w':=by
 have H:((Gh.f a0 a1).bind fun Gp=>(some Gp))=some r:=h
 clear h
 replace H:=eL.mp H
 obtain⟨Gp,gI,H⟩:=H
 replace H:(some Gp)=some r:=H
 have gX:=ae gI
 clear gI
 obtain rfl:=bo H
 go_enter Tryz.func183,Tryz.ntmps183
 go_wp2_with (first|((with_reducible refine cV (f:=208) rfl ?_);refine cW (some 7) rfl rfl Tryz.func208 tA1 rfl #[.string a0,.string a1] rfl tA9 ?_;(with_reducible refine(Gh.calls a0 a1 Gp _ gX.o).mono ?_);rintro e w' ⟨rfl,⟨cg,rfl⟩⟩;refine⟨_,rfl,?_⟩))
 go_ret
 exact⟨tA6,tA8⟩
def qc.l0:Nat->List (aq)->List (aq)->Int->Int->Option (Bool)
 | 0,_,_,_,_=>none
 | k+1,x0,x1,AE,jo=>if jo<AE then(if 0<=jo then(if jo< (x0.length:Int)then(if jo< (x1.length:Int)then(if(!((((aw x0 jo).f0).toList)==(((aw x1 jo).f0).toList))||(!(((aw x0 jo).f1)==((aw x1 jo).f1))||(!(((aw x0 jo).f2)==((aw x1 jo).f2)))))=true then(some false)else(qc.l0 k x0 x1 AE (wrap64 (jo+1))))else(none))else(none))else(none))else(some true)
def qc.f (k:Nat)(l0:List (aq))(l1:List (aq)):Option (Bool):=if(l0.length:Int)=(l1.length:Int)then(qc.l0 k l0 l1 (l0.length:Int) 0)else(some false)
theorem qc.calls (k:Nat)(cU:Option Addr)(bf:Nat)(l0:List (aq))(aN:Option Addr)(c1:Nat)(l1:List (aq))(r:Bool)(w:World)(dS:Kd.C cu w cU l0.length l0)(hc0:l0.length<=bf)(hr1:Kd.C cu w aN l1.length l1)(hc1:l1.length<=c1)(h:qc.f k l0 l1=some r):
  Calls Tryz.prog 103 #[.slice cU l0.length bf,.slice aN l1.length c1] w fun e w'=>e= .returned (.bool r)/\aR w w':=by
 have TQ:=Tryz.underlying77
 have kj:=ae dS
 have xj:=ae hc0
 clear dS hc0
 have fM:=ae hr1
 have jc:=ae hc1
 clear hr1 hc1
 have H:(if(l0.length:Int)=(l1.length:Int)then(qc.l0 k l0 l1 (l0.length:Int) 0)else(some false))=some r:=h
 clear h
 by_cases aM:(l0.length:Int)=(l1.length:Int)
 ·rw[if_pos aM]at H
  have jE:((l0.length:Int)==(l1.length:Int))=true:=beq_iff_eq.mpr aM
  have k6:((l0.length:Int) !=(l1.length:Int))=false:=bne_eq_false_iff_eq.mpr aM
  have x7:(l0.length==l1.length)=true:=tBa
  clear aM
  have bk:=ae H
  clear H
  go_enter Tryz.func103,Tryz.ntmps103
  go_wp2
  repeat(go_quiet (fail);try go_wp2)
  go_loopg [13] k (fun cy v13 w'=>∃(bY:Int),v13= .int .i64 bY/\af (qc.l0 cy l0 l1 (l0.length:Int) bY=some r)/\af (cy<=k)/\aR w w')
  case atStart=>exact⟨(0),tA6,bk,⟨bl _⟩,tA8⟩
  case round=>
   clear bk
   try clear c1;try clear aM;try clear jE;try clear k6;try clear x7
   obtain⟨bY,rfl,a7,dU,⟨m1,rfl⟩⟩:=hrel
   cases gk with
   | zero=>exact absurd a7.o (by simp[qc.l0])
   | succ k1=>
    have H:=a7.o
    clear a7
    simp only[qc.l0]at H
    by_cases aV:bY< (l0.length:Int)
    ·rw[if_pos aV]at H
     have fB:=bn aV
     clear aV
     by_cases bW:0<=bY
     ·rw[if_pos bW]at H
      have nO:=bn bW
      clear bW
      by_cases c6:bY< (l0.length:Int)
      ·rw[if_pos c6]at H
       have x9:=bn c6
       clear c6
       by_cases c7:bY< (l1.length:Int)
       ·rw[if_pos c7]at H
        have qh:=bn c7
        clear c7
        by_cases c8:(!((((aw l0 bY).f0).toList)==(((aw l1 bY).f0).toList))||(!(((aw l0 bY).f1)==((aw l1 bY).f1))||(!(((aw l0 bY).f2)==((aw l1 bY).f2)))))=true
        ·rw[if_pos c8]at H
         have ya:(!((((aw l0 bY).f0).toList)==(((aw l1 bY).f0).toList))||(!(((aw l0 bY).f1)==((aw l1 bY).f1))||(!(((aw l0 bY).f2)==((aw l1 bY).f2)))))=true:=c8
         clear c8
         obtain rfl:=bo H
         have C8:0<=(bY:Int):=bg tA4
         have Dq:bY< (l0.length:Int):=bg tA4
         obtain⟨ajD,R5,aoP,aoQ,aoR⟩:=fe kj.o bY C8 Dq
         cases R5
         replace C8:=eq_true C8
         replace Dq:=eq_true Dq
         have C9:0<=(bY:Int):=bg tA4
         have Dr:bY< (l1.length:Int):=bg tA4
         obtain⟨ajE,R6,aoS,aoT,aoU⟩:=fe fM.o bY C9 Dr
         cases R6
         replace C9:=eq_true C9
         replace Dr:=eq_true Dr
         go_wp2
         repeat(go_quiet (fail);try go_wp2)
         go_ret
         exact⟨tA6,tA8⟩
        ·rw[if_neg c8]at H
         have ya:(!((((aw l0 bY).f0).toList)==(((aw l1 bY).f0).toList))||(!(((aw l0 bY).f1)==((aw l1 bY).f1))||(!(((aw l0 bY).f2)==((aw l1 bY).f2)))))=false:=by simpa using c8
         clear c8
         have bk:=ae H
         clear H
         have C8:0<=(bY:Int):=bg tA4
         have Dq:bY< (l0.length:Int):=bg tA4
         obtain⟨ajD,R5,aoP,aoQ,aoR⟩:=fe kj.o bY C8 Dq
         cases R5
         replace C8:=eq_true C8
         replace Dq:=eq_true Dq
         have C9:0<=(bY:Int):=bg tA4
         have Dr:bY< (l1.length:Int):=bg tA4
         obtain⟨ajE,R6,aoS,aoT,aoU⟩:=fe fM.o bY C9 Dr
         cases R6
         replace C9:=eq_true C9
         replace Dr:=eq_true Dr
         go_wp2
         repeat(go_quiet (fail);try go_wp2)
         go_roundg k1
         case measure=>have:=dU.o;omega
         case rel=>exact⟨(wrap64 (bY+1)),tA6,bk,⟨tAm⟩,tA8⟩
       ·rw[if_neg c7]at H
        exact absurd H tA2
      ·rw[if_neg c6]at H
       exact absurd H tA2
     ·rw[if_neg bW]at H
      exact absurd H tA2
    ·rw[if_neg aV]at H
     have fB:=cE aV
     clear aV
     obtain rfl:=bo H
     go_wp2
     repeat(go_quiet (fail);try go_wp2)
     go_ret
     exact⟨tA6,tA8⟩
 ·rw[if_neg aM]at H
  have jE:((l0.length:Int)==(l1.length:Int))=false:=ey.mpr aM
  have k6:((l0.length:Int) !=(l1.length:Int))=true:=bne_iff_ne.mpr aM
  have x7:(l0.length==l1.length)=false:=tBa
  obtain rfl:=bo H
  go_enter Tryz.func103,Tryz.ntmps103
  go_wp2
  repeat(go_quiet (fail);try go_wp2)
  go_ret
  exact⟨tA6,tA8⟩
def nM.l0:Nat->List (ay)->List (ay)->Int->Int->Option (Bool)
 | 0,_,_,_,_=>none
 | k+1,x0,x1,AE,jo=>if jo<AE then(if 0<=jo then(if jo< (x0.length:Int)then(if jo< (x1.length:Int)then(if(!((((aJ x0 jo).f0).toList)==(((aJ x1 jo).f0).toList))||(!(((aJ x0 jo).f1)==((aJ x1 jo).f1))))=true then(some false)else(nM.l0 k x0 x1 AE (wrap64 (jo+1))))else(none))else(none))else(none))else(some true)
def nM.f (k:Nat)(l0:List (ay))(l1:List (ay)):Option (Bool):=if(l0.length:Int)=(l1.length:Int)then(nM.l0 k l0 l1 (l0.length:Int) 0)else(some false)
theorem nM.calls (k:Nat)(cU:Option Addr)(bf:Nat)(l0:List (ay))(aN:Option Addr)(c1:Nat)(l1:List (ay))(r:Bool)(w:World)(dS:Kd.C cf w cU l0.length l0)(hc0:l0.length<=bf)(hr1:Kd.C cf w aN l1.length l1)(hc1:l1.length<=c1)(h:nM.f k l0 l1=some r):
  Calls Tryz.prog 137 #[.slice cU l0.length bf,.slice aN l1.length c1] w fun e w'=>e= .returned (.bool r)/\aR w w':=by
 have Nf:=Tryz.underlying79
 have kj:=ae dS
 have xj:=ae hc0
 clear dS hc0
 have fM:=ae hr1
 have jc:=ae hc1
 clear hr1 hc1
 have H:(if(l0.length:Int)=(l1.length:Int)then(nM.l0 k l0 l1 (l0.length:Int) 0)else(some false))=some r:=h
 clear h
 by_cases aM:(l0.length:Int)=(l1.length:Int)
 ·rw[if_pos aM]at H
  have jE:((l0.length:Int)==(l1.length:Int))=true:=beq_iff_eq.mpr aM
  have k6:((l0.length:Int) !=(l1.length:Int))=false:=bne_eq_false_iff_eq.mpr aM
  have x7:(l0.length==l1.length)=true:=tBa
  clear aM
  have bk:=ae H
  clear H
  go_enter Tryz.func137,Tryz.ntmps137
  go_wp2
  repeat(go_quiet (fail);try go_wp2)
  go_loopg [13] k (fun cy v13 w'=>∃(bY:Int),v13= .int .i64 bY/\af (nM.l0 cy l0 l1 (l0.length:Int) bY=some r)/\af (cy<=k)/\aR w w')
  case atStart=>exact⟨(0),tA6,bk,⟨bl _⟩,tA8⟩
  case round=>
   clear bk
   try clear c1;try clear aM;try clear jE;try clear k6;try clear x7
   obtain⟨bY,rfl,a7,dU,⟨m1,rfl⟩⟩:=hrel
   cases gk with
   | zero=>exact absurd a7.o (by simp[nM.l0])
   | succ k1=>
    have H:=a7.o
    clear a7
    simp only[nM.l0]at H
    by_cases aV:bY< (l0.length:Int)
    ·rw[if_pos aV]at H
     have fB:=bn aV
     clear aV
     by_cases bW:0<=bY
     ·rw[if_pos bW]at H
      have nO:=bn bW
      clear bW
      by_cases c6:bY< (l0.length:Int)
      ·rw[if_pos c6]at H
       have x9:=bn c6
       clear c6
       by_cases c7:bY< (l1.length:Int)
       ·rw[if_pos c7]at H
        have qh:=bn c7
        clear c7
        by_cases c8:(!((((aJ l0 bY).f0).toList)==(((aJ l1 bY).f0).toList))||(!(((aJ l0 bY).f1)==((aJ l1 bY).f1))))=true
        ·rw[if_pos c8]at H
         have ya:(!((((aJ l0 bY).f0).toList)==(((aJ l1 bY).f0).toList))||(!(((aJ l0 bY).f1)==((aJ l1 bY).f1))))=true:=c8
         clear c8
         obtain rfl:=bo H
         have Da:0<=(bY:Int):=bg tA4
         have Ds:bY< (l0.length:Int):=bg tA4
         obtain⟨ajF,R7,aoV,aoW⟩:=jD kj.o bY Da Ds
         cases R7
         replace Da:=eq_true Da
         replace Ds:=eq_true Ds
         have Db:0<=(bY:Int):=bg tA4
         have Dt:bY< (l1.length:Int):=bg tA4
         obtain⟨ajG,R8,aoX,aoY⟩:=jD fM.o bY Db Dt
         cases R8
         replace Db:=eq_true Db
         replace Dt:=eq_true Dt
         go_wp2
         repeat(go_quiet (fail);try go_wp2)
         go_ret
         exact⟨tA6,tA8⟩
        ·rw[if_neg c8]at H
         have ya:(!((((aJ l0 bY).f0).toList)==(((aJ l1 bY).f0).toList))||(!(((aJ l0 bY).f1)==((aJ l1 bY).f1))))=false:=by simpa using c8
         clear c8
         have bk:=ae H
         clear H
         have Da:0<=(bY:Int):=bg tA4
         have Ds:bY< (l0.length:Int):=bg tA4
         obtain⟨ajF,R7,aoV,aoW⟩:=jD kj.o bY Da Ds
         cases R7
         replace Da:=eq_true Da
         replace Ds:=eq_true Ds
         have Db:0<=(bY:Int):=bg tA4
         have Dt:bY< (l1.length:Int):=bg tA4
         obtain⟨ajG,R8,aoX,aoY⟩:=jD fM.o bY Db Dt
         cases R8
         replace Db:=eq_true Db
         replace Dt:=eq_true Dt
         go_wp2
         repeat(go_quiet (fail);try go_wp2)
         go_roundg k1
         case measure=>have:=dU.o;omega
         case rel=>exact⟨(wrap64 (bY+1)),tA6,bk,⟨tAm⟩,tA8⟩
       ·rw[if_neg c7]at H
        exact absurd H tA2
      ·rw[if_neg c6]at H
       exact absurd H tA2
     ·rw[if_neg bW]at H
      exact absurd H tA2
    ·rw[if_neg aV]at H
     have fB:=cE aV
     clear aV
     obtain rfl:=bo H
     go_wp2
     repeat(go_quiet (fail);try go_wp2)
     go_ret
     exact⟨tA6,tA8⟩
 ·rw[if_neg aM]at H
  have jE:((l0.length:Int)==(l1.length:Int))=false:=ey.mpr aM
  have k6:((l0.length:Int) !=(l1.length:Int))=true:=bne_iff_ne.mpr aM
  have x7:(l0.length==l1.length)=false:=tBa
  obtain rfl:=bo H
  go_enter Tryz.func137,Tryz.ntmps137
  go_wp2
  repeat(go_quiet (fail);try go_wp2)
  go_ret
  exact⟨tA6,tA8⟩
def J9.f (k:Nat)(bO:Int)(ai:List (ay))(ew:Int)(cC:List (ay)):Option (Bool):=if bO=ew then((nM.f k ai cC).bind fun Gq=>(some Gq))else(some false)
theorem J9.calls (k:Nat)(bO:Int)(aQ:Option Addr)(aG:Nat)(ai:List (ay))(ew:Int)(jb:Option Addr)(im:Nat)(cC:List (ay))(r:Bool)(w:World)(h9:Kd.C cf w aQ ai.length ai)(iH:ai.length<=aG)(zY:Kd.C cf w jb cC.length cC)(zM:cC.length<=im)(h:J9.f k bO ai ew cC=some r):
  Calls Tryz.prog 150 #[.agg #[.int .i64 bO,.slice aQ ai.length aG],.agg #[.int .i64 ew,.slice jb cC.length im]] w fun e w'=>e= .returned (.bool r)/\Below w.heap.size w w':=by
 have Ci:=Tryz.underlying33
 have iZ:=ae h9
 have nA:=ae iH
 clear h9 iH
 have zj:=ae zY
 have DZ:=ae zM
 clear zY zM
 have ak:=ae (Below.refl w.heap.size w)
 have H:(if bO=ew then((nM.f k ai cC).bind fun Gq=>(some Gq))else(some false))=some r:=h
 clear h
 by_cases aM:bO=ew
 ·rw[if_pos aM]at H
  have jE:(bO==ew)=true:=beq_iff_eq.mpr aM
  have k6:(bO !=ew)=false:=bne_eq_false_iff_eq.mpr aM
  clear aM
  replace H:=eL.mp H
  obtain⟨Gq,ui,H⟩:=H
  replace H:(some Gq)=some r:=H
  have uh:=ae ui
  clear ui
  obtain rfl:=bo H
  go_enter Tryz.func150,Tryz.ntmps150
  go_wp2_with (first|((with_reducible refine c5 (N:=2) rfl ?_);refine dD ?hg (N:=2) ?hd (cs:=#[.int .i64 bO,.slice aQ ai.length aG]) (t:=33) ?hr ?_;(case hd=>rfl);(case hg=>rfl);(case hr=>first|(go_simp;done)|(go_simp;rfl));intro qu hg aZ aU hb;have um:=ae (aU);have af0:=ae (bC:w.heap.size<=qu);have afK:=ae (bC:w.heap.size<=qu);replace ak:=ae (au aD hb);clear hb aU hg)|((with_reducible refine c5 (N:=3) rfl ?_);refine dD ?hg (N:=3) ?hd (cs:=#[.int .i64 ew,.slice jb cC.length im]) (t:=33) ?hr ?_;(case hd=>rfl);(case hg=>rfl);(case hr=>first|(go_simp;done)|(go_simp;rfl));intro sA hg aY aU hb;have w8:=ae (aU);have af1:=ae (bC:w.heap.size<=sA);have afL:=ae (bC:w.heap.size<=sA);replace ak:=ae (au aD hb);have QO:=ae (fA:qu≠sA);have QP:=ae (fz:sA≠qu);replace um:=ae (av (g:=qu) (o:= .cells #[.int .i64 bO,.slice aQ ai.length aG] 33 (0,0)) cM hb);clear hb aU hg;have anY:=QO.o;have an9:=QP.o;have tD:aY.cell? ⟨qu,0,none⟩=some (.int .i64 bO):=ah um.o 0;have tE:aY.cell? ⟨qu,1,none⟩=some (.slice aQ ai.length aG):=ah um.o 1;have tG:=ar um.o 0;have tH:=ar um.o 1;have avM:aY.cell? ⟨sA,0,none⟩=some (.int .i64 ew):=ah w8.o 0;have avN:aY.cell? ⟨sA,1,none⟩=some (.slice jb cC.length im):=ah w8.o 1;have aw2:=ar w8.o 0;have aw3:=ar w8.o 1)|(go_at_call 137;(with_reducible refine(nM.calls k _ _ ai _ _ cC Gq _ ?side1 ?side2 ?side3 ?side4 uh.o).mono ?_);(case side1=>repeat(first|exact(Kd.bN iZ.o ak.o)|(with_reducible refine Kd.o5 ?_ _)|(with_reducible refine Kd.ot ?_ _)|(with_reducible refine Kd.oq ?_)));(case side2=>exact nA.o);(case side3=>repeat(first|exact(Kd.bN zj.o ak.o)|(with_reducible refine Kd.o5 ?_ _)|(with_reducible refine Kd.ot ?_ _)|(with_reducible refine Kd.oq ?_)));(case side4=>exact DZ.o);rintro e w' ⟨rfl,⟨cg,rfl⟩⟩))
  go_ret
  exact⟨tAa,aD⟩
 ·rw[if_neg aM]at H
  have jE:(bO==ew)=false:=ey.mpr aM
  have k6:(bO !=ew)=true:=bne_iff_ne.mpr aM
  obtain rfl:=bo H
  go_enter Tryz.func150,Tryz.ntmps150
  go_wp2_with (first|((with_reducible refine c5 (N:=2) rfl ?_);refine dD ?hg (N:=2) ?hd (cs:=#[.int .i64 bO,.slice aQ ai.length aG]) (t:=33) ?hr ?_;(case hd=>rfl);(case hg=>rfl);(case hr=>first|(go_simp;done)|(go_simp;rfl));intro qu hg DD aU hb;have um:=ae (aU);have af0:=ae (bC:w.heap.size<=qu);have afK:=ae (bC:w.heap.size<=qu);replace ak:=ae (au aD hb);clear hb aU hg)|((with_reducible refine c5 (N:=3) rfl ?_);refine dD ?hg (N:=3) ?hd (cs:=#[.int .i64 ew,.slice jb cC.length im]) (t:=33) ?hr ?_;(case hd=>rfl);(case hg=>rfl);(case hr=>first|(go_simp;done)|(go_simp;rfl));intro sA hg gh aU hb;have w8:=ae (aU);have af1:=ae (bC:w.heap.size<=sA);have afL:=ae (bC:w.heap.size<=sA);replace ak:=ae (au aD hb);have QO:=ae (fA:qu≠sA);have QP:=ae (fz:sA≠qu);replace um:=ae (av (g:=qu) (o:= .cells #[.int .i64 bO,.slice aQ ai.length aG] 33 (0,0)) cM hb);clear hb aU hg;have anP:=QO.o;have an0:=QP.o;have auy:gh.cell? ⟨qu,0,none⟩=some (.int .i64 bO):=ah um.o 0;have auz:gh.cell? ⟨qu,1,none⟩=some (.slice aQ ai.length aG):=ah um.o 1;have avP:=ar um.o 0;have avQ:=ar um.o 1;have amu:gh.cell? ⟨sA,0,none⟩=some (.int .i64 ew):=ah w8.o 0;have amv:gh.cell? ⟨sA,1,none⟩=some (.slice jb cC.length im):=ah w8.o 1;have amY:=ar w8.o 0;have amZ:=ar w8.o 1))
  go_ret
  exact⟨tAa,aD⟩
end Go.Proofs.YtjgakaembhmhpaaGreatDoor.PA
