/- Part of the proof of SetsChanged: printed contracts, struck. It holds without further conditions. -/
import Derived.Lib.Bytealg
import Derived.BigCall
import Derived.Shelf.Abstract
import Derived.Test.YtjgakaembhmhpaaGreatDoorProg
import Derived.Test.YtjgakaembhmhpaaGreatDoorJAB
set_option linter.unusedVariables false
set_option linter.unusedSimpArgs false
set_option maxHeartbeats 16000000
set_option maxRecDepth 100000
namespace Go.Proofs.YtjgakaembhmhpaaGreatDoor.PA
open Go.RowKit Go.Proofs.YtjgakaembhmhpaaGreatDoorW.PrintWords Go.Proofs.YtjgakaembhmhpaaGreatDoorW.PrintLast Go.Proofs.YtjgakaembhmhpaaGreatDoorW.PrintMore
open Go.Proofs.YtjgakaembhmhpaaGreatDoorM
attribute [local go_sem] str_leq str_gtr str_geq
attribute [local go_sem] max2_int min2_int max_two min_two max_three min_three max_four min_four
theorem aD {p:Prop}(h:p:=by repeat(first|(with_reducible first|exact ak.o|apply ax|apply eG|apply zC|refine vZ ?_ (af.o (by assumption))|refine vZ ?_ (bB.ge dx.o))|exact ak.o)):p:=h
theorem cM {p:Prop}(h:p:=by(with_reducible repeat(first|refine bD ?_ _|refine bz ?_|refine aH ?_ _|refine lH ?_ (af.o (by assumption)) _));exact af.o (by first|(with_reducible assumption)|assumption)):p:=h
theorem bC {p:Prop}(h:p:=by rw[hg];exact EN aD):p:=h
theorem fA {p:Prop}(h:p:=by rw[hg];exact Nat.ne_of_lt (az cM)):p:=h
theorem fz {p:Prop}(h:p:=by rw[hg];exact Nat.ne_of_gt (az cM)):p:=h
theorem aW {α:Type}{l:List α}{i:Nat}{x:α}(h:l[i]?=some x):l.toArray[i]?=some x:=List.getElem?_toArray.trans h
abbrev bV:=And.intro @Act.put.eq_1 (And.intro (@List.setIfInBounds_toArray Value) (And.intro (@List.set_cons_zero Value) (@List.set_cons_succ Value)))
abbrev b8:= @List.getElem?_eq_getElem
abbrev bj:= @Nat.le_trans
abbrev bo:= @Option.some.inj
abbrev dt:= @World.drewN_drewN
abbrev bl:= @Nat.le_refl
abbrev eL:= @Option.bind_eq_some_iff
abbrev iC:= @List.getElem?_eq_some_iff
abbrev fZ:= @List.length_append
abbrev kr:= @List.take_succ_eq_append_getElem
abbrev eQ:= @Int.toNat_natCast
abbrev fy:= @Nat.lt_of_lt_of_le
abbrev jZ:= @Below.heap_setCell
abbrev jC:= @List.getElem?_take_of_lt
abbrev fJ:= @List.take_length
abbrev bg:= @of_decide_eq_true
abbrev bn:= @decide_eq_true
abbrev cE:= @decide_eq_false
abbrev ey:= @beq_eq_false_iff_ne
abbrev lF:= @List.drop_eq_getElem_cons
abbrev jk:= @List.mem_cons_of_mem
abbrev ji:= @List.drop_of_length_le
abbrev qb:= @List.getElem?_append_left
abbrev ju:= @Bool.eq_false_iff
abbrev eM:= @IntWalk.wrap64_in
abbrev b7:= @World.block_lt_of_cell?
abbrev bQ:= @List.length_take
abbrev il:= @List.mem_singleton
abbrev i6:= @List.length_cons
abbrev fc:= @List.length_map
abbrev Ro:= @Nat.mul_le_mul_right
abbrev fN:= @Kept.setCell
theorem tA0 {p:Prop}(h:p:=by omega):p:=h
theorem tA1 {p:Prop}(h:p:=by kernel_rfl):p:=h
theorem tA2 {p:Prop}(h:p:=by simp):p:=h
theorem tA3 {p:Prop}(h:p:=by decide):p:=h
theorem tA4 {p:Prop}(h:p:=by first|(with_reducible assumption)|assumption):p:=h
theorem tA5 {p:Prop}(h:p:=by rfl):p:=h
theorem tA6 {p:Prop}(h:p:=by first|rfl|(simp;done)|(simp[*];done)):p:=h
theorem tA7 {p:Prop}(h:p:=by go_num):p:=h
theorem tA8 {p:Prop}(h:p:=by repeat(first|exact aR.refl _|apply aR.step)):p:=h
theorem tA9 {p:Prop}(h:p:=by (try simp only[List.map_toArray,List.map_cons,List.map_nil]);first|done|rfl|(simp only[List.length_drop,bQ];rfl)):p:=h
theorem tAa {p:Prop}(h:p:=by first|rfl|(simp[bJ,bK]<;>rfl)|(simp[*,bJ,bK]<;>rfl)):p:=h
theorem tAb {p:Prop}(h:p:=by simp;omega):p:=h
theorem tAc {p:Prop}(h:p:=by assumption):p:=h
theorem tAd {p:Prop}(h:p:=by rw[if_pos rfl]at H;exact H):p:=h
theorem tAe {p:Prop}(h:p:=by rw[if_neg (show ¬ (false=true) by decide)]at H;exact H):p:=h
theorem tAf {p:Prop}(h:p:=by show w.heap.size<=w.heap.size+1+1;omega):p:=h
theorem tAg {p:Prop}(h:p:=by rw[bQ];omega):p:=h
theorem tAh {p:Prop}(h:p:=by rw[eM _ (by omega)];omega):p:=h
theorem tAi {p:Prop}(h:p:=by simpa using h):p:=h
theorem tAj {p:Prop}(h:p:=by repeat(first|(with_reducible first|exact HK.o|apply bF.ni|apply mV|apply nW|apply nV)|exact HK.o)):p:=h
theorem tAk {p:Prop}(h:p:=by simp at h):p:=h
theorem tAl {p:Prop}(h:p:=by simp[h]):p:=h
theorem tAm {p:Prop}(h:p:=by have:=dU.o;omega):p:=h
theorem tAn {p:Prop}(h:p:=by simp[hI.pu j hj]):p:=h
theorem tAo {p:Prop}(h:p:=by have h:=lx.o;omega):p:=h
theorem tAp {p:Prop}(h:p:=by have:=jB.o;omega):p:=h
theorem tAq {p:Prop}(h:p:=by have:=cv.o;omega):p:=h
theorem tAr {p:Prop}(h:p:=by have:=bo hj;omega):p:=h
theorem tAs {p:Prop}(h:p:=by have:=jz.o;omega):p:=h
theorem tAt {p:Prop}(h:p:=by (with_reducible repeat(first|apply Kd.ko|apply Kd.jX|apply Kd.kp));exact ei.o):p:=h
theorem tAu {p:Prop}(h:p:=by repeat(first|(with_reducible first|exact dx.o|apply bB.alloc|apply bB.drewN|apply bB.drew|apply bB.nj)|exact dx.o)):p:=h
theorem tAv {p:Prop}(h:p:=by simpa using hj):p:=h
theorem tAw {p:Prop}(h:p:=by unfold maxLen;omega):p:=h
theorem tAx {p:Prop}(h:p:=by go_simp;rfl):p:=h
theorem tAy {p:Prop}(h:p:=by have:=eJ.o;omega):p:=h
theorem tAz {p:Prop}(h:p:=by have:=br.o;omega):p:=h
theorem tB0 {p:Prop}(h:p:=by rw[hy];exact List.getElem_mem hlt):p:=h
theorem tB1 {p:Prop}(h:p:=by rw[jd.o];omega):p:=h
theorem tB2 {p:Prop}(h:p:=by rw[hI.tm];decide):p:=h
theorem tB3 {p:Prop}(h:p:=by have h2:=qz.o;omega):p:=h
theorem tB4 {p:Prop}(h:p:=by simp[hy]):p:=h
theorem tB5 {p:Prop}(h:p:=by first|omega|exact bl _):p:=h
theorem tB6 {p:Prop}(h:p:=by have:=qQ.o;have:=dP.o;omega):p:=h
theorem tB7 {p:Prop}(h:p:=by simp[Lib.compareBytes]):p:=h
theorem tB8 {p:Prop}(h:p:=by simp[World.setCell]):p:=h
theorem tB9 {p:Prop}(h:p:=by (with_reducible repeat(first|refine bD ?_ _|refine bz ?_|refine aH ?_ _));exact dW.o):p:=h
theorem tBa {p:Prop}(h:p:=by first|simpa using aM|(simp at aM ⊢;omega)):p:=h
theorem tBb {p:Prop}(h:p:=by (with_reducible repeat(first|refine bD ?_ _|refine bz ?_|refine aH ?_ _));exact cF.o):p:=h
theorem tBc {p:Prop}(h:p:=by simp at ht):p:=h
theorem tBd {p:Prop}(h:p:=by unfold fI;simp):p:=h
theorem tBe {p:Prop}(h:p:=by (with_reducible repeat(first|apply Kd.ko|apply Kd.jX|apply Kd.kp));exact(Kd.pw (Kd.jN (p:=⟨cR,2,none⟩) (Kd.jN (p:=⟨cR,1,none⟩) (Kd.jN (p:=⟨cR,0,none⟩) (Kd.uT ei.o cK.o (by decide)) (fun _ hk=>hk.2) (.string ((aw ag bp).f0))) (fun _ hk=>hk.2) (.int .i64 ((aw ag bp).f1))) (fun _ hk=>hk.2) (.int .i64 ((aw ag bp).f2))) (fun _ mI=>mI.1))):p:=h
theorem tBf {p:Prop}(h:p:=by (with_reducible repeat(first|refine bD ?_ _|refine bz ?_|refine aH ?_ _));refine a6 (cs:=#[.string ((aw ag bp).f0),.int .i64 ((aw ag bp).f1),.int .i64 0]) ?_ 2 _ rfl;(with_reducible repeat(first|refine bD ?_ _|refine bz ?_|refine aH ?_ _));refine a6 (cs:=#[.string ((aw ag bp).f0),.int .i64 0,.int .i64 0]) ?_ 1 _ rfl;(with_reducible repeat(first|refine bD ?_ _|refine bz ?_|refine aH ?_ _));refine a6 (cs:=#[.string (⟨#[]⟩:ByteArray),.int .i64 0,.int .i64 0]) ?_ 0 _ rfl;(with_reducible repeat(first|refine bD ?_ _|refine bz ?_|refine aH ?_ _));exact cK.o):p:=h
theorem tBg {p:Prop}(h:p:=by rw[fc];exact hl):p:=h
theorem tBh {p:Prop}(h:p:=by simp at h;omega):p:=h
theorem tBi {p:Prop}(h:p:=by rw[iA.o];omega):p:=h
theorem tBj {p:Prop}(h:p:=by simpa using hl):p:=h
theorem tBk {p:Prop}(h:p:=by have h1:=q9.o;simp only at h1;omega):p:=h
theorem tBl {p:Prop}(h:p:=by rw[Array.length_toList];rfl):p:=h
theorem tBm {p:Prop}(h:p:=by go_simp):p:=h
theorem tBn {p:Prop}(h:p:=by simpa using h2):p:=h
theorem tBo {p:Prop}(h:p:=by (with_reducible repeat(first|refine bD ?_ _|refine bz ?_|refine aH ?_ _));exact kf.o):p:=h
theorem tBp {p:Prop}(h:p:=by show w.heap.size<=w.heap.size+1;omega):p:=h
theorem tBq {p:Prop}(h:p:=by rw[hlen];simpa using hc):p:=h
theorem tBr {p:Prop}(h:p:=by (with_reducible repeat(first|apply Kd.ko|apply Kd.jX|apply Kd.kp));exact(Kd.pw (Kd.jN (p:=⟨kM,1,none⟩) (Kd.jN (p:=⟨kM,0,none⟩) (Kd.uT ei.o oo.o (by decide)) (fun _ hk=>hk.2) (.int .i64 ((bH ai gH).f0))) (fun _ hk=>hk.2) (.slice w5 ((bH ai gH).f1).length x6)) (fun _ mI=>mI.1))):p:=h
theorem tBs {p:Prop}(h:p:=by show w.heap.size+1≠t6;omega):p:=h
theorem tBt {p:Prop}(h:p:=by have:=nD.o.s.len;omega):p:=h
theorem tBu {p:Prop}(h:p:=by simp only[Act.eval,Array.getD_eq_getD_getElem?]at hrun;simp[execOp,Act.eval,hrun,Result.andThen]):p:=h
theorem tBv {p:Prop}(h:p:=by simp[cmpL]at h):p:=h
theorem tBw {p:Prop}(h:p:=by simp[Value.ownBlock]):p:=h
theorem tBx {p:Prop}(h:p:=by rw[fL.o,HD.o,Bool.true_and]):p:=h
theorem tBy {p:Prop}(h:p:=by have:=J4 a b e;omega):p:=h
theorem tBz {p:Prop}(h:p:=by show k≠w.heap.size+1+1;omega):p:=h
theorem tC0 {p:Prop}(h:p:=by first|rfl|(simp;done)):p:=h
theorem tC1 {p:Prop}(h:p:=by simp[aw,List.getD,b8 hlt]):p:=h
theorem tC2 {p:Prop}(h:p:=by rw[hcs];simp[Builtin.zeroCells]):p:=h
theorem tC3 {p:Prop}(h:p:=by have:(0:Int)< (a0.size:Int):=bg (by first|(with_reducible assumption)|assumption);omega):p:=h
theorem tC4 {p:Prop}(h:p:=by rw[List.length_set];exact eJ.o):p:=h
theorem tC5 {p:Prop}(h:p:=by first|exact Below.refl _ _|exact cB (Below.refl _ _)):p:=h
theorem tC6 {p:Prop}(h:p:=by (with_reducible repeat(first|refine bD ?_ _|refine bz ?_|refine aH ?_ _));refine a6 (cs:=#[.string ((aw ag bZ).f0),.int .i64 ((aw ag bZ).f1),.int .i64 0]) ?_ 2 _ rfl;(with_reducible repeat(first|refine bD ?_ _|refine bz ?_|refine aH ?_ _));refine a6 (cs:=#[.string ((aw ag bZ).f0),.int .i64 0,.int .i64 0]) ?_ 1 _ rfl;(with_reducible repeat(first|refine bD ?_ _|refine bz ?_|refine aH ?_ _));refine a6 (cs:=#[.string (⟨#[]⟩:ByteArray),.int .i64 0,.int .i64 0]) ?_ 0 _ rfl;(with_reducible repeat(first|refine bD ?_ _|refine bz ?_|refine aH ?_ _));exact dN.o):p:=h
theorem tC7 {p:Prop}(h:p:=by have:=dU.o;first|omega|exact bl _):p:=h
theorem tC8 {p:Prop}(h:p:=by rw[fc,eJ.o];omega):p:=h
theorem tC9 {p:Prop}(h:p:=by have:=cv.o;simp;omega):p:=h
theorem tCa {p:Prop}(h:p:=by have:=e5.o;omega):p:=h
theorem tCb {p:Prop}(h:p:=by have:=hq k hk;show k≠w.heap.size+1+1;omega):p:=h
theorem tCc {p:Prop}(h:p:=by have:=h.c;omega):p:=h
theorem tCd {p:Prop}(h:p:=by rw[hlen];simpa using hf):p:=h
theorem tCe {p:Prop}(h:p:=by have:=dC.o.1;omega):p:=h
theorem tCf {p:Prop}(h:p:=by (with_reducible repeat(first|refine bD ?_ _|refine bz ?_|refine aH ?_ _));exact dw.o):p:=h
theorem tCg {p:Prop}(h:p:=by simp at hk;omega):p:=h
theorem tCh {p:Prop}(h:p:=by rw[<- mL];exact vk):p:=h
theorem tCi {p:Prop}(h:p:=by rw[<- LL _ _ 1 (by omega)];exact hc 1 _ rfl):p:=h
theorem tCj {p:Prop}(h:p:=by have:=jV.o.2;unfold maxLen;omega):p:=h
theorem tCk {p:Prop}(h:p:=by have:=D3.o;have:=dP.o;omega):p:=h
theorem tCl {p:Prop}(h:p:=by simp[aJ,List.getD,b8 hlt]):p:=h
theorem tCm {p:Prop}(h:p:=by have:=km.o;omega):p:=h
theorem tCn {p:Prop}(h:p:=by have h1:=po.o;have h2:=kn.o;omega):p:=h
theorem tCo {p:Prop}(h:p:=by unfold wrap64;omega):p:=h
theorem tCp {p:Prop}(h:p:=by simp[Region.wanted,hg]):p:=h
theorem tCq {p:Prop}(h:p:=by have:=a8 (w.alloc (.cells #[.slice A l0.length c,.slice A' l1.length c'] 29)) (.cells #[.slice none 0 0,.slice none 0 0] 29);simpa using this):p:=h
theorem tCr {p:Prop}(h:p:=by first|exact yy.o|exact FL.o|exact FM.o):p:=h
theorem tCs {p:Prop}(h:p:=by have:=e8.o.bf;omega):p:=h
theorem tCt {p:Prop}(h:p:=by have:=Dw f.f1 s;show(dm f.f1 s).length+g.f1.length<20;omega):p:=h
theorem tCu {p:Prop}(h:p:=by intro e;have:=bo e;omega):p:=h
theorem tCv {p:Prop}(h:p:=by show ¬ w.heap.size=w.heap.size+1;omega):p:=h
theorem tCw {p:Prop}(h:p:=by have:=uG.o.s.len;omega):p:=h
theorem tCx {p:Prop}(h:p:=by have:=dU.o;have:=Be.o;omega):p:=h
theorem tCy {p:Prop}(h:p:=by rw[ByteArray.toList_eq]):p:=h
theorem tCz {p:Prop}(h:p:=by cases a;cases b;simp_all):p:=h
theorem tD0 {p:Prop}(h:p:=by show ¬ w.heap.size=_;omega):p:=h
theorem tD1 {p:Prop}(h:p:=by rw[List.length_set];exact h2):p:=h
theorem tD2 {p:Prop}(h:p:=by simp[Op.bytesLess]):p:=h
theorem tD3 {p:Prop}(h:p:=by have:=hv.len;omega):p:=h
theorem tD4 {p:Prop}(h:p:=by simpa using congrArg List.length hv2):p:=h
theorem tD5 {p:Prop}(h:p:=by rw[hrg1.left_eq,hrg.left_eq];exact kA):p:=h
theorem tD6 {p:Prop}(h:p:=by first|exact bl _|exact Nat.le_of_eq rfl):p:=h
theorem tD7 {p:Prop}(h:p:=by first|exact Kd.LG _ _ _ _ _|exact Kd.i1 _ _ _ _ _|exact Kd.Q0 _ _ _ _ _|exact Kd.aiN _ _ _ _ _|exact Kd.ai7 _ _ _ _ _):p:=h
theorem tD8 {p:Prop}(h:p:=by have h:=lx.o;show e6.heap.size<=iQ;omega):p:=h
theorem tD9 {p:Prop}(h:p:=by rw[dQ.o,if_neg (by simp),Vo _ _ _ (by have:=eJ.o;omega),A5.o]):p:=h
theorem tDa {p:Prop}(h:p:=by have:=hq k hk;show k≠w.heap.size+1;omega):p:=h
theorem tDb {p:Prop}(h:p:=by have h1:=Kd.eK gw.o k e.symm;have h2:=hk.2;have iF:=zz.o;omega):p:=h
theorem tDc {p:Prop}(h:p:=by (with_reducible repeat(first|apply Kd.ko|apply Kd.jX|apply Kd.kp));exact s8.o):p:=h
theorem tDd {p:Prop}(h:p:=by first|exact ak.o.size|exact(cB ak.o).size|exact(eG ak.o _).size):p:=h
theorem tDe {p:Prop}(h:p:=by rw[List.getD_eq_getElem?_getD,hj];rfl):p:=h
theorem tDf {p:Prop}(h:p:=by have:=a8 (w.alloc (.cells #[.slice A l0.length c,.slice A' l1.length c'] 29)) (.cells #[.string name] 9);simpa using this):p:=h
theorem tDg {p:Prop}(h:p:=by rw[<- Bf.o];show(Lib.join _ []).toArray.size<=_;rw[List.size_toArray];exact Hf.o):p:=h
theorem tDh {p:Prop}(h:p:=by first|exact bl _|exact oz.o|exact xE.o):p:=h
theorem tDi {p:Prop}(h:p:=by have h:=lx.o;show e6.heap.size<=iP;omega):p:=h
theorem tDj {p:Prop}(h:p:=by rw[<- ly.o];exact ack eO (by omega)):p:=h
theorem tDk {p:Prop}(h:p:=by have h1:=PB.o _ e;have h2:=po.o;have h3:=kn.o;have h4:=e5.o;omega):p:=h
theorem tDl {p:Prop}(h:p:=by first|exact bm.o|exact Kd.aiC bm.o|exact Kd.Lx bm.o _):p:=h
theorem tDm {p:Prop}(h:p:=by have h1:=(HOW.o _ e).1;have h2:=po.o;have h3:=kn.o;omega):p:=h
theorem tDn {p:Prop}(h:p:=by show w3.heap.size<=w4.heap.size;have:=Bw.o;omega):p:=h
theorem tDo {p:Prop}(h:p:=by first|exact hb|exact au (cB (Below.refl _ _)) hb|exact au (eG (Below.refl _ _) _) hb):p:=h
theorem tDp {p:Prop}(h:p:=by obtain⟨x,h1,_⟩:=Ns hk;exact⟨x,h1⟩):p:=h
theorem tDq {p:Prop}(h:p:=by (with_reducible repeat(first|refine bD ?_ _|refine bz ?_|refine aH ?_ _));refine a6 (cs:=#[.int .i64 ((bH ai jw).f0),.slice none 0 0]) ?_ 1 _ rfl;(with_reducible repeat(first|refine bD ?_ _|refine bz ?_|refine aH ?_ _));refine a6 (cs:=#[.int .i64 0,.slice none 0 0]) ?_ 0 _ rfl;(with_reducible repeat(first|refine bD ?_ _|refine bz ?_|refine aH ?_ _));exact rR.o):p:=h
theorem tDr {p:Prop}(h:p:=by have:=Kd.eK dr.o k hk.symm;show k≠w3.heap.size;omega):p:=h
theorem tDs {p:Prop}(h:p:=by have:=fx.o;first|rfl|(congr 1<;>omega)):p:=h
theorem tDt {p:Prop}(h:p:=by rw[zo.o];exact Kd.dz gy.o (au dX.o bq.o)):p:=h
theorem tDu {p:Prop}(h:p:=by have:=iL.o G (by simp[Value.ownBlock]);omega):p:=h
theorem tDv {p:Prop}(h:p:=by have:=cv.o;rw[List.take_of_length_le (by omega),ji (by simp),List.append_nil];exact fx.o):p:=h
theorem tDw {p:Prop}(h:p:=by rw[<- oM,fZ];have:=jL.o.cl;have:=nH.o.cl;omega):p:=h
theorem tDx {p:Prop}(h:p:=by (with_reducible repeat(first|refine bD ?_ _|refine bz ?_|refine aH ?_ _));refine a6 (cs:=#[.string ((aJ cC bE).f0),.int .i64 0]) ?_ 1 _ rfl;(with_reducible repeat(first|refine bD ?_ _|refine bz ?_|refine aH ?_ _));refine a6 (cs:=#[.string (⟨#[]⟩:ByteArray),.int .i64 0]) ?_ 0 _ rfl;(with_reducible repeat(first|refine bD ?_ _|refine bz ?_|refine aH ?_ _));exact rQ.o):p:=h
theorem tDy {p:Prop}(h:p:=by have h1:=kn.o;have h2:=e5.o;have h3:k=w2.heap.size:=e;rcases hk.1 with h|h<;>omega):p:=h
theorem tDz {p:Prop}(h:p:=by first|(rw[yr]at H;exact H)|(simp only[yr]at H ⊢;exact H)):p:=h
theorem tE0 {p:Prop}(h:p:=by have h:=lx.o;show e6.heap.size<=iR;omega):p:=h
theorem tE1 {p:Prop}(h:p:=by rw[b9.o,HST.o,NL _ _ hno.o];exact je.o):p:=h
theorem tE2 {p:Prop}(h:p:=by (with_reducible repeat(first|refine bD ?_ _|refine bz ?_|refine aH ?_ _));refine a6 (cs:=#[.int .i64 ((bH ai gH).f0),.slice none 0 0]) ?_ 1 _ rfl;(with_reducible repeat(first|refine bD ?_ _|refine bz ?_|refine aH ?_ _));refine a6 (cs:=#[.int .i64 0,.slice none 0 0]) ?_ 0 _ rfl;(with_reducible repeat(first|refine bD ?_ _|refine bz ?_|refine aH ?_ _));exact oo.o):p:=h
theorem tE3 {p:Prop}(h:p:=by have:=cv.o;rw[ji (by omega),ji (by omega)];rfl):p:=h
theorem tE4 {p:Prop}(h:p:=by (with_reducible repeat(first|refine bD ?_ _|refine bz ?_|refine aH ?_ _));exact rU.o):p:=h
theorem tE5 {p:Prop}(h:p:=by have h:=lx.o;show e6.heap.size<=jg;omega):p:=h
theorem tE6 {p:Prop}(h:p:=by rw[e]at hi;exact absurd hi (by simp)):p:=h
theorem tE7 {p:Prop}(h:p:=by have:=HOW.o k (hk.trans NI);show k≠w.heap.size;omega):p:=h
theorem tE8 {p:Prop}(h:p:=by have:=(iT jL.o).sd x Lj.o;omega):p:=h
theorem tE9 {p:Prop}(h:p:=by have h1:=Kd.eK pD k e.symm;have h2:=AY.o.size;omega):p:=h
theorem tEa {p:Prop}(h:p:=by have:=dU.o;have:=dP.o;have:=qR.o;have:=vJ.o;omega):p:=h
theorem tEb {p:Prop}(h:p:=by cases fu with|none=>simp[Value.ownBlock]at hk|some p=>(obtain⟨pb,UQ,pf⟩:=p;cases UQ<;>cases pf<;>first|exact hk.symm|simp[Value.ownBlock]at hk)):p:=h
theorem tEc {p:Prop}(h:p:=by (with_reducible repeat(first|refine bD ?_ _|refine bz ?_|refine aH ?_ _));exact kS.o):p:=h
theorem tEd {p:Prop}(h:p:=by show 2<=9223372036854775807;decide):p:=h
theorem tEe {p:Prop}(h:p:=by have:(false).toNat=0:=rfl;have:(true).toNat=1:=rfl;omega):p:=h
theorem tEf {p:Prop}(h:p:=by have:=dU.o;have:=dP.o;have:=qR.o;omega):p:=h
theorem tEg {p:Prop}(h:p:=by have:=uF.o.len;have:=xp.o.len;omega):p:=h
theorem tEh {p:Prop}(h:p:=by first|go_num|(rw[eM ((i0:Int)+1) (by omega)];go_num)):p:=h
theorem tEi {p:Prop}(h:p:=by obtain⟨c,h1,_⟩:=Mn hv;exact⟨c,h1⟩):p:=h
theorem tEj {p:Prop}(h:p:=by (with_reducible repeat(first|refine bD ?_ _|refine bz ?_|refine aH ?_ _));refine a6 (cs:=#[.string ((aJ ai bE).f0),.int .i64 0]) ?_ 1 _ rfl;(with_reducible repeat(first|refine bD ?_ _|refine bz ?_|refine aH ?_ _));refine a6 (cs:=#[.string (⟨#[]⟩:ByteArray),.int .i64 0]) ?_ 0 _ rfl;(with_reducible repeat(first|refine bD ?_ _|refine bz ?_|refine aH ?_ _));exact eU.o):p:=h
theorem tEk {p:Prop}(h:p:=by rw[dQ.o,if_pos (by trivial)];exact A5.o):p:=h
theorem tEl {p:Prop}(h:p:=by first|exact SN.o|exact SP.o|exact SQ.o):p:=h
theorem tEm {p:Prop}(h:p:=by first|exact ak.o|exact cB ak.o|exact eG ak.o _):p:=h
theorem tEn {p:Prop}(h:p:=by have h1:=bo e;have h2:=xu.o.lt;omega):p:=h
theorem tEo {p:Prop}(h:p:=by (with_reducible repeat(first|refine bD ?_ _|refine bz ?_|refine aH ?_ _));exact lY.o):p:=h
theorem tEp {p:Prop}(h:p:=by (with_reducible repeat(first|refine bD ?_ _|refine bz ?_|refine aH ?_ _));exact sY.o):p:=h
theorem tEq {p:Prop}(h:p:=by (with_reducible repeat(first|refine bD ?_ _|refine bz ?_|refine aH ?_ _));exact iy.o):p:=h
theorem tEr {p:Prop}(h:p:=by first|rfl|(simp[bJ,bK]<;>rfl)|(simp only[<- yr];first|rfl|(simp[bJ,bK]<;>rfl))|(simp[*,bJ,bK]<;>rfl)):p:=h
theorem tEs {p:Prop}(h:p:=by (with_reducible repeat(first|refine bD ?_ _|refine bz ?_|refine aH ?_ _));refine lH ?_ mF.o _;(with_reducible repeat(first|refine bD ?_ _|refine bz ?_|refine aH ?_ _));refine lH ?_ mF.o _;(with_reducible repeat(first|refine bD ?_ _|refine bz ?_|refine aH ?_ _));exact dw.o):p:=h
theorem tEt {p:Prop}(h:p:=by first|exact AX.o|exact AX.o.below (ax (Below.refl _ _) _)):p:=h
theorem tEu {p:Prop}(h:p:=by have h2:=bm.o;rw[pX.o]at h2;exact h2):p:=h
theorem tEv {p:Prop}(h:p:=by (with_reducible repeat(first|refine bD ?_ _|refine bz ?_|refine aH ?_ _));refine a6 (cs:=#[.string ((aJ ai df).f0),.int .i64 0]) ?_ 1 _ rfl;(with_reducible repeat(first|refine bD ?_ _|refine bz ?_|refine aH ?_ _));refine a6 (cs:=#[.string (⟨#[]⟩:ByteArray),.int .i64 0]) ?_ 0 _ rfl;(with_reducible repeat(first|refine bD ?_ _|refine bz ?_|refine aH ?_ _));exact iy.o):p:=h
def Zp:Option Int->Value
 | none=> .nilIface
 | some c=> .iface 0 (.int .i64 c)
theorem bJ:Zp none= .nilIface:=rfl
theorem bK (c:Int):Zp (some c)= .iface 0 (.int .i64 c):=rfl
theorem info3:(Tryz.prog.info? 3).map (fun i=>(i.zero,i.size,i.bytes))=some (some (.int .i64 0),1,8):=tA1
theorem Jt:(Tryz.prog.info? 9).map (fun i=>(i.zero,i.size,i.bytes))=some (some (.string ⟨#[]⟩),1,16):=tA1
structure aq where
 f0:ByteArray
 f1:Int
 f2:Int
def z77:aq:=⟨(⟨#[]⟩:ByteArray),(0:Int),(0:Int)⟩
def cu:Kd aq:=Kd.Nl (Kd.pair Kd.string (Kd.pair (Kd.int .i64) (Kd.int .i64))) (fun x:aq=>(x.f0,x.f1,x.f2))
theorem Np {w:World}{x:aq}{cs:List Value}(h:cu.K w x cs):cs=[.string x.f0,.int .i64 x.f1,.int .i64 x.f2]:=by
 obtain⟨_,_,rfl,rfl,⟨_,_,rfl,rfl,rfl⟩⟩:=h
 exact rfl
def aw (xs:List aq)(i:Int):aq:=xs.getD i.toNat z77
theorem fe {w:World}{A:Option Addr}{n:Nat}{xs:List aq}(h:Kd.C cu w A n xs)(i:Int)(h0:0<=i)(h1:i<n):∃ad,A=some ad/\w.cell? (ad.add (i.toNat * 3))=some (.string (aw xs i).f0)/\w.cell? ⟨(ad.add (i.toNat * 3)).block,(ad.add (i.toNat * 3)).off+1,none⟩=some (.int .i64 (aw xs i).f1)/\w.cell? ⟨(ad.add (i.toNat * 3)).block,(ad.add (i.toNat * 3)).off+2,none⟩=some (.int .i64 (aw xs i).f2):=by
 obtain⟨ad,c,e,_,hK,hc0⟩:=Kd.AR h z77 i h0 h1
 have hc:∀j u,c[j]?=some u->w.cell? (ad.add (i.toNat * 3+j))=some u:=hc0
 obtain rfl:=Np hK
 exact⟨ad,e,hc 0 _ rfl,tCi,by rw[<- LL _ _ 2 tA0];exact hc 2 _ rfl⟩
structure ay where
 f0:ByteArray
 f1:Int
def z79:ay:=⟨(⟨#[]⟩:ByteArray),(0:Int)⟩
def cf:Kd ay:=Kd.Nl (Kd.pair Kd.string (Kd.int .i64)) (fun x:ay=>(x.f0,x.f1))
theorem Ue {w:World}{x:ay}{cs:List Value}(h:cf.K w x cs):cs=[.string x.f0,.int .i64 x.f1]:=by
 obtain⟨_,_,rfl,rfl,rfl⟩:=h
 exact rfl
def aJ (xs:List ay)(i:Int):ay:=xs.getD i.toNat z79
theorem jD {w:World}{A:Option Addr}{n:Nat}{xs:List ay}(h:Kd.C cf w A n xs)(i:Int)(h0:0<=i)(h1:i<n):∃ad,A=some ad/\w.cell? (ad.add (i.toNat * 2))=some (.string (aJ xs i).f0)/\w.cell? ⟨(ad.add (i.toNat * 2)).block,(ad.add (i.toNat * 2)).off+1,none⟩=some (.int .i64 (aJ xs i).f1):=by
 obtain⟨ad,c,e,_,hK,hc0⟩:=Kd.AR h z79 i h0 h1
 have hc:∀j u,c[j]?=some u->w.cell? (ad.add (i.toNat * 2+j))=some u:=hc0
 obtain rfl:=Ue hK
 exact⟨ad,e,hc 0 _ rfl,tCi⟩
structure aj where
 f0:Int
 f1:(List ay)
def z33:aj:=⟨(0:Int),([]:List ay)⟩
def bc:Kd aj:=Kd.Nl (Kd.pair (Kd.int .i64) (Kd.slice 79 cf)) (fun x:aj=>(x.f0,x.f1))
theorem FV {w:World}{x:aj}{cs:List Value}(h:bc.K w x cs):∃aN c1,cs=[.int .i64 x.f0,.slice aN x.f1.length c1]/\x.f1.length<=c1/\cf.C w aN x.f1.length x.f1:=by
 obtain⟨_,_,rfl,rfl,⟨aN,c1,rfl,l1,g1⟩⟩:=h
 exact⟨aN,c1,rfl,l1,g1⟩
theorem ab2 (w:World)(x:aj){aN:Option Addr}{c1:Nat}(l1:x.f1.length<=c1)(g1:cf.C w aN x.f1.length x.f1):bc.K w x [.int .i64 x.f0,.slice aN x.f1.length c1]:=⟨[.int .i64 x.f0],[.slice aN x.f1.length c1],rfl,rfl,⟨aN,c1,rfl,l1,g1⟩⟩
def bH (xs:List aj)(i:Int):aj:=xs.getD i.toNat z33
theorem rh {w:World}{A:Option Addr}{n:Nat}{xs:List aj}(h:Kd.C bc w A n xs)(i:Int)(h0:0<=i)(h1:i<n):∃ad aN c1,A=some ad/\w.cell? (ad.add (i.toNat * 2))=some (.int .i64 (bH xs i).f0)/\w.cell? ⟨(ad.add (i.toNat * 2)).block,(ad.add (i.toNat * 2)).off+1,none⟩=some (.slice aN (bH xs i).f1.length c1)/\(bH xs i).f1.length<=c1/\cf.C w aN (bH xs i).f1.length (bH xs i).f1:=by
 obtain⟨ad,c,e,_,hK,hc0⟩:=Kd.AR h z33 i h0 h1
 have hc:∀j u,c[j]?=some u->w.cell? (ad.add (i.toNat * 2+j))=some u:=hc0
 obtain⟨aN,c1,rfl,l1,g1⟩:=FV hK
 exact⟨ad,aN,c1,e,hc 0 _ rfl,tCi,l1,g1⟩
def ll.f (a0:Int)(a1:Int):Option (Int):=if a1<1 then(some 0)else(if a1=0 then(none)else(if(Int.tmod a0 a1)<0 then(some (wrap64 ((Int.tmod a0 a1)+a1)))else(some (Int.tmod a0 a1))))
theorem ll.calls (a0:Int)(a1:Int)(r:Int)(w:World)(h:ll.f a0 a1=some r):
  Calls Tryz.prog 46 #[.int .i64 a0,.int .i64 a1] w fun e w'=>e= .returned (.int .i64 r)/\aR w w':=by
 have H:(if a1<1 then(some 0)else(if a1=0 then(none)else(if(Int.tmod a0 a1)<0 then(some (wrap64 ((Int.tmod a0 a1)+a1)))else(some (Int.tmod a0 a1)))))=some r:=h
 clear h
 by_cases aM:a1<1
 ·rw[if_pos aM]at H
  have jE:=bn aM
  clear aM
  obtain rfl:=bo H
  go_enter Tryz.func46,Tryz.ntmps46
  go_wp2
  go_ret
  exact⟨tA6,tA8⟩
 ·rw[if_neg aM]at H
  have jE:=cE aM
  clear aM
  by_cases aV:a1=0
  ·rw[if_pos aV]at H
   exact absurd H tA2
  ·rw[if_neg aV]at H
   have fB:(a1==0)=false:=ey.mpr aV
   have lJ:(a1 !=0)=true:=bne_iff_ne.mpr aV
   by_cases bW:(Int.tmod a0 a1)<0
   ·rw[if_pos bW]at H
    have nO:=bn bW
    clear bW
    obtain rfl:=bo H
    go_enter Tryz.func46,Tryz.ntmps46
    go_wp2
    go_ret
    exact⟨tA6,tA8⟩
   ·rw[if_neg bW]at H
    have nO:=cE bW
    clear bW
    obtain rfl:=bo H
    go_enter Tryz.func46,Tryz.ntmps46
    go_wp2
    go_ret
    exact⟨tA6,tA8⟩
def bB (w0 W:World)(g:Nat)(f0:List Int)(f1:Int):Prop:=∃cU bf,W.heap[g]?=some (.cells #[.slice cU f0.length bf,.int .i64 f1] 25 (0,0))/\w0.heap.size<=g/\Kd.C (Kd.int .i64) w0 cU f0.length f0
theorem bB.grown {w0 W:World}{g:Nat}{f0:List Int}{f1:Int}{W1:World}{row:Option Nat}(h:bB w0 W g f0 f1)(hw:W.grownBy W1 row)(hne:some g≠row):bB w0 W1 g f0 f1:=by
 obtain⟨cU,bf,hb,hg,dS⟩:=h
 exact⟨cU,bf,gf hb hw hne,hg,dS⟩
theorem bB.kept {w0 W:World}{g:Nat}{f0:List Int}{f1:Int}{W1:World}{S:Nat->Prop}(h:bB w0 W g f0 f1)(hk:Kept W W1 S)(hne:¬ S g):bB w0 W1 g f0 f1:=by
 obtain⟨cU,bf,hb,hg,dS⟩:=h
 exact⟨cU,bf,iD hb hk hne,hg,dS⟩
theorem bB.below {w0 W:World}{g:Nat}{f0:List Int}{f1:Int}{W1:World}(h:bB w0 W g f0 f1)(hw:Below W.heap.size W W1):bB w0 W1 g f0 f1:=h.grown (alZ hw none) tA2
theorem bB.drewN {w0 W:World}{g:Nat}{f0:List Int}{f1:Int}(h:bB w0 W g f0 f1)(m:Nat):bB w0 (W.drewN m) g f0 f1:=h
theorem bB.apart {w0 W:World}{g:Nat}{f0:List Int}{f1:Int}{α:Type}{d:Kd α}{e:Nat}{base:Nat}{ok:Nat->Prop}{v:Value}{xs:List α}(h:bB w0 W g f0 f1)(ho:d.R e W base ok v xs)(ht:∀q,q∈e::d.E->q≠25):d.R e W base (fun k=>ok k/\k≠g) v xs:=by
 obtain⟨cU,bf,hb,hg,dS⟩:=h
 exact Kd.uT ho hb ht
theorem bB.UD {w0 W:World}{g:Nat}{f0:List Int}{f1:Int}{α:Type}{d:Kd α}{e:Nat}{base:Nat}{ok:Nat->Prop}{v:Value}{xs:List α}(h:bB w0 W g f0 f1)(ho:d.R e W base ok v xs)(ht:e≠25):some g≠v.ownBlock:=by
 obtain⟨cU,bf,hb,hg,dS⟩:=h
 exact Kd.Ey ho hb ht
theorem bB.lt {w0 W:World}{g:Nat}{f0:List Int}{f1:Int}(h:bB w0 W g f0 f1):g<W.heap.size:=by
 obtain⟨cU,bf,hb,hg,dS⟩:=h
 exact az hb
theorem bB.ge {w0 W:World}{g:Nat}{f0:List Int}{f1:Int}(h:bB w0 W g f0 f1):w0.heap.size<=g:=by
 obtain⟨cU,bf,hb,hg,dS⟩:=h
 exact hg
theorem YM {W:World}{g:Nat}{cU:Option Addr}{bf:Nat}{f0:List Int}{f1:Int}(h:W.heap[g]?=some (.cells #[.slice cU f0.length bf,.int .i64 f1] 25 (0,0))):W.cell? ⟨g,0,none⟩=some (.slice cU f0.length bf):=ah h 0
theorem YN {W:World}{g:Nat}{cU:Option Addr}{bf:Nat}{f0:List Int}{f1:Int}(h:W.heap[g]?=some (.cells #[.slice cU f0.length bf,.int .i64 f1] 25 (0,0))):W.cell? ⟨g,1,none⟩=some (.int .i64 f1):=ah h 1
theorem bB.nj {w0 W:World}{g:Nat}{f0:List Int}{f1:Int}(h:bB w0 W g f0 f1)(x:Int):bB w0 (W.setCell ⟨g,1,none⟩ (.int .i64 x)) g f0 x:=by
 obtain⟨cU,bf,hb,hg,dS⟩:=h
 exact⟨cU,bf,by simpa using uV hb 1 (.int .i64 x),hg,dS⟩
def oZ.f (ck:List Int)(cT:Int)(a1:Int):Option (Int×Int):=if(ck.length:Int)=0 then((ll.f (wrap64 ((wrap64 (cT+1)) * 7919)) a1).bind fun t101=>(some (t101,wrap64 (cT+1))))else(if 0<=(Int.tmod (wrap64 ((wrap64 (cT+1))-1)) (ck.length:Int))then(if(Int.tmod (wrap64 ((wrap64 (cT+1))-1)) (ck.length:Int))< (ck.length:Int)then((ll.f (rd ck (Int.tmod (wrap64 ((wrap64 (cT+1))-1)) (ck.length:Int))) 1073741824).bind fun t103=>((ll.f (wrap64 (t103+(wrap64 ((wrap64 (Int.tdiv (wrap64 ((wrap64 (cT+1))-1)) (ck.length:Int))) * (wrap64 (7919+(Int.tmod (wrap64 ((wrap64 (cT+1))-1)) (ck.length:Int)))))))) a1).bind fun t104=>(some (t104,wrap64 (cT+1)))))else(none))else(none))
theorem oZ.calls (g:Nat)(ck:List Int)(cT:Int)(a1:Int)(r1:Int)(r2:Int)(w0 w:World)(hI:bB w0 w g ck cT)(hB:Below w0.heap.size w0 w)(h:oZ.f ck cT a1=some (r1,r2)):
  Calls Tryz.prog 10 #[.pointer (some ⟨g,0,none⟩),.int .i64 a1] w fun e w'=>e= .returned (.int .i64 r1)/\bB w0 w' g ck r2/\Below w0.heap.size w0 w'/\bF w w' g none:=by
 have dx:=ae hI
 have HK:=ae (bF.refl w g none)
 have br:=ae hB.size
 clear hI
 have zt:=ae hB.size
 have ak:=ae hB
 clear hB
 have H:(if(ck.length:Int)=0 then((ll.f (wrap64 ((wrap64 (cT+1)) * 7919)) a1).bind fun t101=>(some (t101,wrap64 (cT+1))))else(if 0<=(Int.tmod (wrap64 ((wrap64 (cT+1))-1)) (ck.length:Int))then(if(Int.tmod (wrap64 ((wrap64 (cT+1))-1)) (ck.length:Int))< (ck.length:Int)then((ll.f (rd ck (Int.tmod (wrap64 ((wrap64 (cT+1))-1)) (ck.length:Int))) 1073741824).bind fun t103=>((ll.f (wrap64 (t103+(wrap64 ((wrap64 (Int.tdiv (wrap64 ((wrap64 (cT+1))-1)) (ck.length:Int))) * (wrap64 (7919+(Int.tmod (wrap64 ((wrap64 (cT+1))-1)) (ck.length:Int)))))))) a1).bind fun t104=>(some (t104,wrap64 (cT+1)))))else(none))else(none)))=some (r1,r2):=h
 clear h
 by_cases aM:(ck.length:Int)=0
 ·rw[if_pos aM]at H
  have jE:((ck.length:Int)==0)=true:=beq_iff_eq.mpr aM
  have k6:((ck.length:Int) !=0)=false:=bne_eq_false_iff_eq.mpr aM
  clear aM
  replace H:=eL.mp H
  obtain⟨t101,ui,H⟩:=H
  replace H:(some (t101,wrap64 (cT+1)))=some (r1,r2):=H
  have uh:=ae ui
  clear ui
  simp only[Option.some.injEq,Prod.mk.injEq]at H
  obtain⟨rfl,rfl⟩:=H
  obtain⟨atp,at8,KI,anp,atD⟩:=dx.o
  have avk:=YM KI
  have avl:=YN KI
  have awB:=ar KI 1
  clear KI anp
  go_enter Tryz.func10,Tryz.ntmps10
  go_wp2_with (first|(go_at_call 46;(with_reducible refine(ll.calls (wrap64 ((wrap64 (cT+1)) * 7919)) a1 t101 _ uh.o).mono ?_);rintro e w' ⟨rfl,⟨cg,rfl⟩⟩;(try first|exact⟨rfl,_,dt _ _ _⟩|exact⟨rfl,_,Eq.trans (dt _ _ _) (congrArg (World.drewN _) (Nat.add_assoc _ _ _))⟩)))
  repeat(go_quiet (first|(go_at_call 46;(with_reducible refine(ll.calls (wrap64 ((wrap64 (cT+1)) * 7919)) a1 t101 _ uh.o).mono ?_);rintro e w' ⟨rfl,⟨cg,rfl⟩⟩;(try first|exact⟨rfl,_,dt _ _ _⟩|exact⟨rfl,_,Eq.trans (dt _ _ _) (congrArg (World.drewN _) (Nat.add_assoc _ _ _))⟩)));try go_wp2_with (first|(go_at_call 46;(with_reducible refine(ll.calls (wrap64 ((wrap64 (cT+1)) * 7919)) a1 t101 _ uh.o).mono ?_);rintro e w' ⟨rfl,⟨cg,rfl⟩⟩;(try first|exact⟨rfl,_,dt _ _ _⟩|exact⟨rfl,_,Eq.trans (dt _ _ _) (congrArg (World.drewN _) (Nat.add_assoc _ _ _))⟩))))
  go_ret
  exact⟨tAa,tAu,aD,tAj⟩
 ·rw[if_neg aM]at H
  have jE:((ck.length:Int)==0)=false:=ey.mpr aM
  have k6:((ck.length:Int) !=0)=true:=bne_iff_ne.mpr aM
  have x7:¬ (ck=[]):=fun mI=>aM (by rw[mI];rfl)
  obtain⟨pH,Ti⟩:∃CN:Int,(Int.tmod (wrap64 ((wrap64 (cT+1))-1)) (ck.length:Int))=CN:=⟨_,rfl⟩
  replace H:(if 0<=(pH)then(if(pH)< (ck.length:Int)then((ll.f (rd ck (pH)) 1073741824).bind fun t103=>((ll.f (wrap64 (t103+(wrap64 ((wrap64 (Int.tdiv (wrap64 ((wrap64 (cT+1))-1)) (ck.length:Int))) * (wrap64 (7919+(pH))))))) a1).bind fun t104=>(some (t104,wrap64 (cT+1)))))else(none))else(none))=some (r1,r2):=by first|(rw[Ti]at H;exact H)|(simp only[Ti]at H ⊢;exact H)
  by_cases c7:0<=(pH)
  ·rw[if_pos c7]at H
   have qh:=bn c7
   clear c7
   by_cases c8:(pH)< (ck.length:Int)
   ·rw[if_pos c8]at H
    have ya:=bn c8
    clear c8
    replace H:=eL.mp H
    obtain⟨t103,VU,H⟩:=H
    replace H:((ll.f (wrap64 (t103+(wrap64 ((wrap64 (Int.tdiv (wrap64 ((wrap64 (cT+1))-1)) (ck.length:Int))) * (wrap64 (7919+(pH))))))) a1).bind fun t104=>(some (t104,wrap64 (cT+1))))=some (r1,r2):=H
    have DR:=ae VU
    clear VU
    replace H:=eL.mp H
    obtain⟨t104,yU,H⟩:=H
    replace H:(some (t104,wrap64 (cT+1)))=some (r1,r2):=H
    have mz:=ae yU
    clear yU
    simp only[Option.some.injEq,Prod.mk.injEq]at H
    obtain⟨rfl,rfl⟩:=H
    obtain⟨ato,at7,KH,ano,ahy⟩:=dx.o
    have auv:=YM KH
    have auw:=YN KH
    have avO:=ar KH 1
    clear KH ano
    have UF:0<=((pH):Int):=bg tA4
    have UT:(pH)< (ck.length:Int):=bg tA4
    obtain⟨ajw,akT,FP⟩:=Kd.uU ahy (pH) UF UT
    cases akT
    have MW:ajw.block≠g:=Nat.ne_of_lt (fy (by have:=b7 _ _ FP;first|rwa[add_block]at this|exact this) (bB.ge dx.o))
    replace FP:=bw ak.o FP
    replace FP:=(cell_far (p:=⟨g,1,none⟩) (by first|(rw[add_block];exact MW)|(show(Addr.add _ _).block≠_;rw[add_block];exact MW)|exact MW) (.int .i64 (wrap64 (cT+1)))).trans FP
    (try have ayf:=fun(apV:Nat)=>(show(((w.drewN apV).setCell ⟨g,1,none⟩ (.int .i64 (wrap64 (cT+1))))).cell? _=some _ from FP))
    clear MW
    replace UF:=eq_true UF
    replace UT:=eq_true UT
    go_enter Tryz.func10,Tryz.ntmps10
    go_wp2_with (first|(go_at_call 46;(with_reducible refine(ll.calls (rd ck (pH)) 1073741824 t103 _ DR.o).mono ?_);rintro e w' ⟨rfl,⟨cg,rfl⟩⟩;(try first|exact⟨rfl,_,dt _ _ _⟩|exact⟨rfl,_,Eq.trans (dt _ _ _) (congrArg (World.drewN _) (Nat.add_assoc _ _ _))⟩))|(go_at_call 46;(with_reducible refine(ll.calls (wrap64 (t103+(wrap64 ((wrap64 (Int.tdiv (wrap64 ((wrap64 (cT+1))-1)) (ck.length:Int))) * (wrap64 (7919+(pH))))))) a1 t104 _ mz.o).mono ?_);rintro e w' ⟨rfl,⟨cg,rfl⟩⟩;(try first|exact⟨rfl,_,dt _ _ _⟩|exact⟨rfl,_,Eq.trans (dt _ _ _) (congrArg (World.drewN _) (Nat.add_assoc _ _ _))⟩)))
    repeat(go_quiet (first|(go_at_call 46;(with_reducible refine(ll.calls (rd ck (pH)) 1073741824 t103 _ DR.o).mono ?_);rintro e w' ⟨rfl,⟨cg,rfl⟩⟩;(try first|exact⟨rfl,_,dt _ _ _⟩|exact⟨rfl,_,Eq.trans (dt _ _ _) (congrArg (World.drewN _) (Nat.add_assoc _ _ _))⟩))|(go_at_call 46;(with_reducible refine(ll.calls (wrap64 (t103+(wrap64 ((wrap64 (Int.tdiv (wrap64 ((wrap64 (cT+1))-1)) (ck.length:Int))) * (wrap64 (7919+(pH))))))) a1 t104 _ mz.o).mono ?_);rintro e w' ⟨rfl,⟨cg,rfl⟩⟩;(try first|exact⟨rfl,_,dt _ _ _⟩|exact⟨rfl,_,Eq.trans (dt _ _ _) (congrArg (World.drewN _) (Nat.add_assoc _ _ _))⟩)));try go_wp2_with (first|(go_at_call 46;(with_reducible refine(ll.calls (rd ck (pH)) 1073741824 t103 _ DR.o).mono ?_);rintro e w' ⟨rfl,⟨cg,rfl⟩⟩;(try first|exact⟨rfl,_,dt _ _ _⟩|exact⟨rfl,_,Eq.trans (dt _ _ _) (congrArg (World.drewN _) (Nat.add_assoc _ _ _))⟩))|(go_at_call 46;(with_reducible refine(ll.calls (wrap64 (t103+(wrap64 ((wrap64 (Int.tdiv (wrap64 ((wrap64 (cT+1))-1)) (ck.length:Int))) * (wrap64 (7919+(pH))))))) a1 t104 _ mz.o).mono ?_);rintro e w' ⟨rfl,⟨cg,rfl⟩⟩;(try first|exact⟨rfl,_,dt _ _ _⟩|exact⟨rfl,_,Eq.trans (dt _ _ _) (congrArg (World.drewN _) (Nat.add_assoc _ _ _))⟩))))
    go_ret
    exact⟨by first|rfl|(simp[bJ,bK]<;>rfl)|(simp only[<- Ti];first|rfl|(simp[bJ,bK]<;>rfl))|(simp[*,bJ,bK]<;>rfl),tAu,aD,tAj⟩
   ·rw[if_neg c8]at H
    exact absurd H tA2
  ·rw[if_neg c7]at H
   exact absurd H tA2
def J8.f (ck:List Int)(cT:Int)(l1:List ByteArray):Option (ByteArray×Int):=(oZ.f ck cT (l1.length:Int)).bind fun xW=>(if 0<=xW.1 then(if xW.1< (l1.length:Int)then(some (gg ByteArray.empty l1 xW.1,xW.2))else(none))else(none))
theorem J8.calls (g:Nat)(ck:List Int)(cT:Int)(aN:Option Addr)(c1:Nat)(l1:List ByteArray)(r1:ByteArray)(r2:Int)(w0 w:World)(hI:bB w0 w g ck cT)(hB:Below w0.heap.size w0 w)(hr1:Kd.C Kd.string w aN l1.length l1)(hc1:l1.length<=c1)(kO:∀ad,aN=some ad->0<l1.length->ad.block≠g)(h:J8.f ck cT l1=some (r1,r2)):
  Calls Tryz.prog 8 #[.pointer (some ⟨g,0,none⟩),.slice aN l1.length c1] w fun e w'=>e= .returned (.string r1)/\bB w0 w' g ck r2/\Below w0.heap.size w0 w'/\bF w w' g none:=by
 have fM:=ae hr1
 have jc:=ae hc1
 clear hr1 hc1
 have dx:=ae hI
 have HK:=ae (bF.refl w g none)
 have br:=ae hB.size
 clear hI
 have zt:=ae hB.size
 have ak:=ae hB
 clear hB
 have H:((oZ.f ck cT (l1.length:Int)).bind fun xW=>(if 0<=xW.1 then(if xW.1< (l1.length:Int)then(some (gg ByteArray.empty l1 xW.1,xW.2))else(none))else(none)))=some (r1,r2):=h
 clear h
 replace H:=eL.mp H
 obtain⟨⟨t105,t106⟩,gI,H⟩:=H
 replace H:(if 0<=t105 then(if t105< (l1.length:Int)then(some (gg ByteArray.empty l1 t105,t106))else(none))else(none))=some (r1,r2):=H
 have gX:=ae gI
 clear gI
 by_cases aV:0<=t105
 ·rw[if_pos aV]at H
  have fB:=bn aV
  clear aV
  by_cases bW:t105< (l1.length:Int)
  ·rw[if_pos bW]at H
   have nO:=bn bW
   clear bW
   simp only[Option.some.injEq,Prod.mk.injEq]at H
   obtain⟨rfl,rfl⟩:=H
   go_enter Tryz.func8,Tryz.ntmps8
   go_wp2_with (first|((with_reducible refine cV (f:=10) rfl ?_);refine cW (some 9) rfl rfl Tryz.func10 tA1 rfl #[.pointer (some ⟨g,0,none⟩),.int .i64 (l1.length:Int)] rfl tA9 ?_;(with_reducible refine(oZ.calls g ck cT (l1.length:Int) t105 t106 w0 _ ?side1 ?side2 gX.o).mono ?_);(case side1=>repeat(first|(with_reducible first|exact dx.o|apply bB.alloc|apply bB.drewN|apply bB.drew|apply bB.nj)|exact dx.o));(case side2=>repeat(first|(with_reducible first|exact ak.o|apply ax|apply eG|apply zC|refine vZ ?_ (bB.ge dx.o))|exact ak.o));rintro e aY ⟨rfl,hi,hb,hk⟩;refine⟨_,rfl,?_⟩;replace HK:=ae (bF.trans tAj hk (.inl rfl));replace ak:=ae (hb);replace dx:=ae (hi);(try clear hb);(try clear hk);(try clear hi);have UG:0<=(t105:Int):=bg tA4;have UU:t105< (l1.length:Int):=bg tA4;obtain⟨ajx,akU,abP⟩:=Kd.EM fM.o t105 UG UU;cases akU;replace abP:=ab4 HK.o abP (by first|(rw[add_block];exact kO _ rfl tA0)|exact kO _ rfl tA0 |exact kO ajx rfl tA0);replace UG:=eq_true UG;replace UU:=eq_true UU))
   go_ret
   exact⟨tAa,tAu,aD,tAj⟩
  ·rw[if_neg bW]at H
   exact absurd H tA2
 ·rw[if_neg aV]at H
  exact absurd H tA2
def yQ.f (ck:List Int)(cT:Int)(a1:Int):Option (Bool×Int):=(oZ.f ck cT a1).bind fun Im=>(some ((Im.1==0),Im.2))
theorem yQ.calls (g:Nat)(ck:List Int)(cT:Int)(a1:Int)(r1:Bool)(r2:Int)(w0 w:World)(hI:bB w0 w g ck cT)(hB:Below w0.heap.size w0 w)(h:yQ.f ck cT a1=some (r1,r2)):
  Calls Tryz.prog 9 #[.pointer (some ⟨g,0,none⟩),.int .i64 a1] w fun e w'=>e= .returned (.bool r1)/\bB w0 w' g ck r2/\Below w0.heap.size w0 w'/\bF w w' g none:=by
 have dx:=ae hI
 have HK:=ae (bF.refl w g none)
 have br:=ae hB.size
 clear hI
 have zt:=ae hB.size
 have ak:=ae hB
 clear hB
 have H:((oZ.f ck cT a1).bind fun Im=>(some ((Im.1==0),Im.2)))=some (r1,r2):=h
 clear h
 replace H:=eL.mp H
 obtain⟨⟨t108,t109⟩,gI,H⟩:=H
 replace H:(some ((t108==0),t109))=some (r1,r2):=H
 have gX:=ae gI
 clear gI
 simp only[Option.some.injEq,Prod.mk.injEq]at H
 obtain⟨rfl,rfl⟩:=H
 go_enter Tryz.func9,Tryz.ntmps9
 go_wp2_with (first|((with_reducible refine cV (f:=10) rfl ?_);refine cW (some 7) rfl rfl Tryz.func10 tA1 rfl #[.pointer (some ⟨g,0,none⟩),.int .i64 a1] rfl tA9 ?_;(with_reducible refine(oZ.calls g ck cT a1 t108 t109 w0 _ ?side1 ?side2 gX.o).mono ?_);(case side1=>repeat(first|(with_reducible first|exact dx.o|apply bB.alloc|apply bB.drewN|apply bB.drew|apply bB.nj)|exact dx.o));(case side2=>repeat(first|(with_reducible first|exact ak.o|apply ax|apply eG|apply zC|refine vZ ?_ (bB.ge dx.o))|exact ak.o));rintro e w4 ⟨rfl,hi,hb,hk⟩;refine⟨_,rfl,?_⟩;replace HK:=ae (bF.trans tAj hk (.inl rfl));replace ak:=ae (hb);replace dx:=ae (hi);(try clear hb);(try clear hk);(try clear hi)))
 go_ret
 exact⟨tAa,tAu,aD,tAj⟩
def vC.f (ck:List Int)(cT:Int)(l1:List Int):Option (Int×Int):=(oZ.f ck cT (l1.length:Int)).bind fun xX=>(if 0<=xX.1 then(if xX.1< (l1.length:Int)then(some (rd l1 xX.1,xX.2))else(none))else(none))
theorem vC.calls (g:Nat)(ck:List Int)(cT:Int)(aN:Option Addr)(c1:Nat)(l1:List Int)(r1:Int)(r2:Int)(w0 w:World)(hI:bB w0 w g ck cT)(hB:Below w0.heap.size w0 w)(hr1:Kd.C (Kd.int .i64) w aN l1.length l1)(hc1:l1.length<=c1)(kO:∀ad,aN=some ad->0<l1.length->ad.block≠g)(h:vC.f ck cT l1=some (r1,r2)):
  Calls Tryz.prog 40 #[.pointer (some ⟨g,0,none⟩),.slice aN l1.length c1] w fun e w'=>e= .returned (.int .i64 r1)/\bB w0 w' g ck r2/\Below w0.heap.size w0 w'/\bF w w' g none:=by
 have fM:=ae hr1
 have jc:=ae hc1
 clear hr1 hc1
 have dx:=ae hI
 have HK:=ae (bF.refl w g none)
 have br:=ae hB.size
 clear hI
 have zt:=ae hB.size
 have ak:=ae hB
 clear hB
 have H:((oZ.f ck cT (l1.length:Int)).bind fun xX=>(if 0<=xX.1 then(if xX.1< (l1.length:Int)then(some (rd l1 xX.1,xX.2))else(none))else(none)))=some (r1,r2):=h
 clear h
 replace H:=eL.mp H
 obtain⟨⟨t110,t111⟩,gI,H⟩:=H
 replace H:(if 0<=t110 then(if t110< (l1.length:Int)then(some (rd l1 t110,t111))else(none))else(none))=some (r1,r2):=H
 have gX:=ae gI
 clear gI
 by_cases aV:0<=t110
 ·rw[if_pos aV]at H
  have fB:=bn aV
  clear aV
  by_cases bW:t110< (l1.length:Int)
  ·rw[if_pos bW]at H
   have nO:=bn bW
   clear bW
   simp only[Option.some.injEq,Prod.mk.injEq]at H
   obtain⟨rfl,rfl⟩:=H
   go_enter Tryz.func40,Tryz.ntmps40
   go_wp2_with (first|((with_reducible refine cV (f:=10) rfl ?_);refine cW (some 9) rfl rfl Tryz.func10 tA1 rfl #[.pointer (some ⟨g,0,none⟩),.int .i64 (l1.length:Int)] rfl tA9 ?_;(with_reducible refine(oZ.calls g ck cT (l1.length:Int) t110 t111 w0 _ ?side1 ?side2 gX.o).mono ?_);(case side1=>repeat(first|(with_reducible first|exact dx.o|apply bB.alloc|apply bB.drewN|apply bB.drew|apply bB.nj)|exact dx.o));(case side2=>repeat(first|(with_reducible first|exact ak.o|apply ax|apply eG|apply zC|refine vZ ?_ (bB.ge dx.o))|exact ak.o));rintro e aY ⟨rfl,hi,hb,hk⟩;refine⟨_,rfl,?_⟩;replace HK:=ae (bF.trans tAj hk (.inl rfl));replace ak:=ae (hb);replace dx:=ae (hi);(try clear hb);(try clear hk);(try clear hi);have UI:0<=(t110:Int):=bg tA4;have UW:t110< (l1.length:Int):=bg tA4;obtain⟨ajy,akV,abQ⟩:=Kd.uU fM.o t110 UI UW;cases akV;replace abQ:=ab4 HK.o abQ (by first|(rw[add_block];exact kO _ rfl tA0)|exact kO _ rfl tA0 |exact kO ajy rfl tA0);replace UI:=eq_true UI;replace UW:=eq_true UW))
   go_ret
   exact⟨tAa,tAu,aD,tAj⟩
  ·rw[if_neg bW]at H
   exact absurd H tA2
 ·rw[if_neg aV]at H
  exact absurd H tA2
def Ay.f (ck:List Int)(cT:Int)(a1:Int)(a2:Int):Option (Int×Int):=if a2<a1 then(some (a1,cT))else((oZ.f ck cT (wrap64 ((wrap64 (a2-a1))+1))).bind fun Io=>(some (wrap64 (a1+Io.1),Io.2)))
theorem Ay.calls (g:Nat)(ck:List Int)(cT:Int)(a1:Int)(a2:Int)(r1:Int)(r2:Int)(w0 w:World)(hI:bB w0 w g ck cT)(hB:Below w0.heap.size w0 w)(h:Ay.f ck cT a1 a2=some (r1,r2)):
  Calls Tryz.prog 45 #[.pointer (some ⟨g,0,none⟩),.int .i64 a1,.int .i64 a2] w fun e w'=>e= .returned (.int .i64 r1)/\bB w0 w' g ck r2/\Below w0.heap.size w0 w'/\bF w w' g none:=by
 have dx:=ae hI
 have HK:=ae (bF.refl w g none)
 have br:=ae hB.size
 clear hI
 have zt:=ae hB.size
 have ak:=ae hB
 clear hB
 have H:(if a2<a1 then(some (a1,cT))else((oZ.f ck cT (wrap64 ((wrap64 (a2-a1))+1))).bind fun Io=>(some (wrap64 (a1+Io.1),Io.2))))=some (r1,r2):=h
 clear h
 by_cases aV:a2<a1
 ·rw[if_pos aV]at H
  have fB:=bn aV
  clear aV
  simp only[Option.some.injEq,Prod.mk.injEq]at H
  obtain⟨rfl,rfl⟩:=H
  go_enter Tryz.func45,Tryz.ntmps45
  go_wp2
  go_ret
  exact⟨tAa,tAu,aD,tAj⟩
 ·rw[if_neg aV]at H
  have fB:=cE aV
  clear aV
  replace H:=eL.mp H
  obtain⟨⟨t113,t114⟩,yX,H⟩:=H
  replace H:(some (wrap64 (a1+t113),t114))=some (r1,r2):=H
  have yV:=ae yX
  clear yX
  simp only[Option.some.injEq,Prod.mk.injEq]at H
  obtain⟨rfl,rfl⟩:=H
  go_enter Tryz.func45,Tryz.ntmps45
  go_wp2_with (first|((with_reducible refine cV (f:=10) rfl ?_);refine cW (some 17) rfl rfl Tryz.func10 tA1 rfl #[.pointer (some ⟨g,0,none⟩),.int .i64 (wrap64 ((wrap64 (a2-a1))+1))] rfl tA9 ?_;(with_reducible refine(oZ.calls g ck cT (wrap64 ((wrap64 (a2-a1))+1)) t113 t114 w0 _ ?side1 ?side2 yV.o).mono ?_);(case side1=>repeat(first|(with_reducible first|exact dx.o|apply bB.alloc|apply bB.drewN|apply bB.drew|apply bB.nj)|exact dx.o));(case side2=>repeat(first|(with_reducible first|exact ak.o|apply ax|apply eG|apply zC|refine vZ ?_ (bB.ge dx.o))|exact ak.o));rintro e aY ⟨rfl,hi,hb,hk⟩;refine⟨_,rfl,?_⟩;replace HK:=ae (bF.trans tAj hk (.inl rfl));replace ak:=ae (hb);replace dx:=ae (hi);(try clear hb);(try clear hk);(try clear hi)))
  go_ret
  exact⟨tAa,tAu,aD,tAj⟩
def J7.f (ck:List Int)(cT:Int)(a1:Int)(a2:Int):Option (Int×Int):=(yQ.f ck cT 12).bind fun BN=>(if BN.1=true then((vC.f ck BN.2 (([wrap64 (a1-1),wrap64 (a2+1),a1,a2,(-1099511627776),1099511627776]:List Int))).bind fun ri=>(some (ri.1,ri.2)))else((Ay.f ck BN.2 a1 a2).bind fun uW=>(some (uW.1,uW.2))))
theorem J7.calls (g:Nat)(ck:List Int)(cT:Int)(a1:Int)(a2:Int)(r1:Int)(r2:Int)(w0 w:World)(hI:bB w0 w g ck cT)(hB:Below w0.heap.size w0 w)(h:J7.f ck cT a1 a2=some (r1,r2)):
  Calls Tryz.prog 41 #[.pointer (some ⟨g,0,none⟩),.int .i64 a1,.int .i64 a2] w fun e w'=>e= .returned (.int .i64 r1)/\bB w0 w' g ck r2/\Below w0.heap.size w0 w'/\bF w w' g none:=by
 have dx:=ae hI
 have HK:=ae (bF.refl w g none)
 have br:=ae hB.size
 clear hI
 have zt:=ae hB.size
 have ak:=ae hB
 clear hB
 have H:((yQ.f ck cT 12).bind fun BN=>(if BN.1=true then((vC.f ck BN.2 (([wrap64 (a1-1),wrap64 (a2+1),a1,a2,(-1099511627776),1099511627776]:List Int))).bind fun ri=>(some (ri.1,ri.2)))else((Ay.f ck BN.2 a1 a2).bind fun uW=>(some (uW.1,uW.2)))))=some (r1,r2):=h
 clear h
 replace H:=eL.mp H
 obtain⟨⟨t115,t116⟩,ui,H⟩:=H
 replace H:(if t115=true then((vC.f ck t116 (([wrap64 (a1-1),wrap64 (a2+1),a1,a2,(-1099511627776),1099511627776]:List Int))).bind fun ri=>(some (ri.1,ri.2)))else((Ay.f ck t116 a1 a2).bind fun uW=>(some (uW.1,uW.2))))=some (r1,r2):=H
 have uh:=ae ui
 clear ui
 by_cases bW:t115=true
 ·subst bW
  replace H:((vC.f ck t116 (([wrap64 (a1-1),wrap64 (a2+1),a1,a2,(-1099511627776),1099511627776]:List Int))).bind fun ri=>(some (ri.1,ri.2)))=some (r1,r2):=tAd
  obtain⟨VL,Jm⟩:∃DN:List Int,DN=(([wrap64 (a1-1),wrap64 (a2+1),a1,a2,(-1099511627776),1099511627776]:List Int)):=⟨_,rfl⟩
  replace H:((vC.f ck t116 VL).bind fun ri=>(some (ri.1,ri.2)))=some (r1,r2):=by first|(rw[Jm];with_reducible exact H)|(have pP:=(Option.bind_some _ _).symm.trans H;rw[Jm];with_reducible exact pP)|(have pP:=(Option.bind_some _ _).symm.trans H;with_reducible exact pP)|with_reducible exact H|(rw[Jm];exact H)|exact H
  have X8:=ae Jm
  clear Jm
  replace H:=eL.mp H
  obtain⟨⟨t120,t121⟩,VS,H⟩:=H
  replace H:(some (t120,t121))=some (r1,r2):=H
  have dn:=ae VS
  clear VS
  simp only[Option.some.injEq,Prod.mk.injEq]at H
  obtain⟨rfl,rfl⟩:=H
  go_enter Tryz.func41,Tryz.ntmps41
  go_wp2_with (first|((with_reducible refine cV (f:=9) rfl ?_);refine cW (some 8) rfl rfl Tryz.func9 tA1 rfl #[.pointer (some ⟨g,0,none⟩),.int .i64 12] rfl tA9 ?_;(with_reducible refine(yQ.calls g ck cT 12 true t116 w0 _ ?side1 ?side2 uh.o).mono ?_);(case side1=>repeat(first|(with_reducible first|exact dx.o|apply bB.alloc|apply bB.drewN|apply bB.drew|apply bB.nj)|exact dx.o));(case side2=>repeat(first|(with_reducible first|exact ak.o|apply ax|apply eG|apply zC|refine vZ ?_ (bB.ge dx.o))|exact ak.o));rintro e bt ⟨rfl,hi,hb,hk⟩;refine⟨_,rfl,?_⟩;replace HK:=ae (bF.trans tAj hk (.inl rfl));replace ak:=ae (hb);replace dx:=ae (hi);(try clear hb);(try clear hk);(try clear hi))|((with_reducible refine c5 (N:=16) rfl ?_);refine Kd.H9 (Kd.int .i64) _ 3 ?hg (N:=16) ?hd (xs:=([wrap64 (a1-1),wrap64 (a2+1),a1,a2,(-1099511627776),1099511627776]:List Int)) (inner:=[.int .i64 (wrap64 (a1-1)),.int .i64 (wrap64 (a2+1)),.int .i64 a1,.int .i64 a2,.int .i64 (-1099511627776),.int .i64 1099511627776]) (ok:=fun _=>True) (okp:=fun _=>True) ?hr ?hp (fun _ hk=>hk) trivial (Below.refl _ _) (bl _) tA2 ?_;(case hd=>rfl);(case hg=>rfl);(case hr=>first|(go_simp;done)|(go_simp;rfl));(case hp=>exact(bU.one (show Kd.M (Kd.int .i64) _ _ _ (wrap64 (a1-1)) [.int .i64 (wrap64 (a1-1))]from rfl) (bU.one (show Kd.M (Kd.int .i64) _ _ _ (wrap64 (a2+1)) [.int .i64 (wrap64 (a2+1))]from rfl) (bU.one (show Kd.M (Kd.int .i64) _ _ _ a1 [.int .i64 a1]from rfl) (bU.one (show Kd.M (Kd.int .i64) _ _ _ a2 [.int .i64 a2]from rfl) (bU.one (show Kd.M (Kd.int .i64) _ _ _ (-1099511627776) [.int .i64 (-1099511627776)]from rfl) (bU.one (show Kd.M (Kd.int .i64) _ _ _ 1099511627776 [.int .i64 1099511627776]from rfl) (bU.none _ _))))))));intro ayV fq Ja hb Cc Cf;clear Cc Cf;(first|rw[<- X8.o]at Ja|(simp only[Int.reduceToNat]at Ja;rw[<- X8.o]at Ja));have D5:=ae (Kd.BH Ja (apl (w:=w) (g:=g) (row:=none) tAj));replace HK:=ae (bF.trans tAj (bF.gF hb g none) (.inl rfl));replace ak:=ae (au aD hb);replace dx:=ae (bB.below tAu hb);clear hb Ja;obtain⟨aeU,akv,alf⟩:=Kd.r9 D5.o;subst alf)|((with_reducible refine cV (f:=40) rfl ?_);refine cW (some 17) rfl rfl Tryz.func40 tA1 rfl #[.pointer (some ⟨g,0,none⟩),.slice aeU VL.length akv] rfl tA9 ?_;(with_reducible refine(vC.calls g ck t116 _ _ VL t120 t121 w0 _ ?side1 ?side2 ?side3 ?side4 ?side5 dn.o).mono ?_);(case side1=>repeat(first|(with_reducible first|exact dx.o|apply bB.alloc|apply bB.drewN|apply bB.drew|apply bB.nj)|exact dx.o));(case side2=>repeat(first|(with_reducible first|exact ak.o|apply ax|apply eG|apply zC|refine vZ ?_ (bB.ge dx.o))|exact ak.o));(case side3=>repeat(first|exact(Kd.jY D5.o).2.2|(with_reducible refine Kd.o5 ?_ _)|(with_reducible refine Kd.ot ?_ _)|(with_reducible refine Kd.oq ?_)));(case side4=>exact(Kd.jY D5.o).2.1);(case side5=>exact alB (bB.UD dx.o D5.o tA3));rintro e gh ⟨rfl,hi,hb,hk⟩;refine⟨_,rfl,?_⟩;replace D5:=ae (Kd.pw (Kd.aiX (bB.apart (show bB w0 _ g ck t116 from by repeat(first|(with_reducible first|exact dx.o|apply bB.alloc|apply bB.drewN|apply bB.drew|apply bB.nj)|exact dx.o)) (by(with_reducible repeat(first|apply Kd.ko|apply Kd.jX|apply Kd.kp));exact D5.o) tA3) hk (fun _ h=>h.2)) (fun _ h=>h.1));replace HK:=ae (bF.trans tAj hk (.inl rfl));replace ak:=ae (hb);replace dx:=ae (hi);(try clear hb);(try clear hk);(try clear hi)))
  go_ret
  exact⟨tAa,tAu,aD,tAj⟩
 ·replace bW:=ju.mpr bW
  subst bW
  replace H:((Ay.f ck t116 a1 a2).bind fun uW=>(some (uW.1,uW.2)))=some (r1,r2):=tAe
  replace H:=eL.mp H
  obtain⟨⟨t122,t123⟩,om,H⟩:=H
  replace H:(some (t122,t123))=some (r1,r2):=H
  have ke:=ae om
  clear om
  simp only[Option.some.injEq,Prod.mk.injEq]at H
  obtain⟨rfl,rfl⟩:=H
  go_enter Tryz.func41,Tryz.ntmps41
  go_wp2_with (first|((with_reducible refine cV (f:=9) rfl ?_);refine cW (some 8) rfl rfl Tryz.func9 tA1 rfl #[.pointer (some ⟨g,0,none⟩),.int .i64 12] rfl tA9 ?_;(with_reducible refine(yQ.calls g ck cT 12 false t116 w0 _ ?side1 ?side2 uh.o).mono ?_);(case side1=>repeat(first|(with_reducible first|exact dx.o|apply bB.alloc|apply bB.drewN|apply bB.drew|apply bB.nj)|exact dx.o));(case side2=>repeat(first|(with_reducible first|exact ak.o|apply ax|apply eG|apply zC|refine vZ ?_ (bB.ge dx.o))|exact ak.o));rintro e asW ⟨rfl,hi,hb,hk⟩;refine⟨_,rfl,?_⟩;replace HK:=ae (bF.trans tAj hk (.inl rfl));replace ak:=ae (hb);replace dx:=ae (hi);(try clear hb);(try clear hk);(try clear hi))|((with_reducible refine cV (f:=45) rfl ?_);refine cW (some 21) rfl rfl Tryz.func45 tA1 rfl #[.pointer (some ⟨g,0,none⟩),.int .i64 a1,.int .i64 a2] rfl tA9 ?_;(with_reducible refine(Ay.calls g ck t116 a1 a2 t122 t123 w0 _ ?side1 ?side2 ke.o).mono ?_);(case side1=>repeat(first|(with_reducible first|exact dx.o|apply bB.alloc|apply bB.drewN|apply bB.drew|apply bB.nj)|exact dx.o));(case side2=>repeat(first|(with_reducible first|exact ak.o|apply ax|apply eG|apply zC|refine vZ ?_ (bB.ge dx.o))|exact ak.o));rintro e rH ⟨rfl,hi,hb,hk⟩;refine⟨_,rfl,?_⟩;replace HK:=ae (bF.trans tAj hk (.inl rfl));replace ak:=ae (hb);replace dx:=ae (hi);(try clear hb);(try clear hk);(try clear hi)))
  go_ret
  exact⟨tAa,tAu,aD,tAj⟩
def Ik.f (a0:Int)(a1:Int):Option (Int×Int):=some (IntKind.u64.wrap ((IntKind.u64.wrap ((IntKind.u64.wrap ((a0 / 4294967296) * (a1 / 4294967296)))+((IntKind.u64.wrap ((IntKind.u64.wrap ((a0 / 4294967296) * (Go.bits .and .u64 a1 4294967295)))+((IntKind.u64.wrap ((Go.bits .and .u64 a0 4294967295) * (Go.bits .and .u64 a1 4294967295))) / 4294967296))) / 4294967296)))+((IntKind.u64.wrap ((Go.bits .and .u64 (IntKind.u64.wrap ((IntKind.u64.wrap ((a0 / 4294967296) * (Go.bits .and .u64 a1 4294967295)))+((IntKind.u64.wrap ((Go.bits .and .u64 a0 4294967295) * (Go.bits .and .u64 a1 4294967295))) / 4294967296))) 4294967295)+(IntKind.u64.wrap ((Go.bits .and .u64 a0 4294967295) * (a1 / 4294967296))))) / 4294967296)),IntKind.u64.wrap (a0 * a1))
theorem Ik.calls (a0:Int)(a1:Int)(r1:Int)(r2:Int)(w:World)(h:Ik.f a0 a1=some (r1,r2)):
  Calls Tryz.prog 152 #[.int .u64 a0,.int .u64 a1] w fun e w'=>e= .returned (.tuple #[.int .u64 r1,.int .u64 r2])/\aR w w':=by
 have H:(some (IntKind.u64.wrap ((IntKind.u64.wrap ((IntKind.u64.wrap ((a0 / 4294967296) * (a1 / 4294967296)))+((IntKind.u64.wrap ((IntKind.u64.wrap ((a0 / 4294967296) * (Go.bits .and .u64 a1 4294967295)))+((IntKind.u64.wrap ((Go.bits .and .u64 a0 4294967295) * (Go.bits .and .u64 a1 4294967295))) / 4294967296))) / 4294967296)))+((IntKind.u64.wrap ((Go.bits .and .u64 (IntKind.u64.wrap ((IntKind.u64.wrap ((a0 / 4294967296) * (Go.bits .and .u64 a1 4294967295)))+((IntKind.u64.wrap ((Go.bits .and .u64 a0 4294967295) * (Go.bits .and .u64 a1 4294967295))) / 4294967296))) 4294967295)+(IntKind.u64.wrap ((Go.bits .and .u64 a0 4294967295) * (a1 / 4294967296))))) / 4294967296)),IntKind.u64.wrap (a0 * a1)))=some (r1,r2):=h
 clear h
 simp only[Option.some.injEq,Prod.mk.injEq]at H
 obtain⟨rfl,rfl⟩:=H
 go_enter Tryz.func152,Tryz.ntmps152
 go_wp2
 go_ret2
 exact⟨tA6,tA8⟩
def EO.f (a0:Int)(a1:Int):Option (Int×Int):=(Ik.f a0 a1).bind fun Ip=>(some (Ip.1,Ip.2))
theorem EO.calls (a0:Int)(a1:Int)(r1:Int)(r2:Int)(w:World)(h:EO.f a0 a1=some (r1,r2)):
  Calls Tryz.prog 105 #[.int .u64 a0,.int .u64 a1] w fun e w'=>e= .returned (.tuple #[.int .u64 r1,.int .u64 r2])/\aR w w':=by
 have H:((Ik.f a0 a1).bind fun Ip=>(some (Ip.1,Ip.2)))=some (r1,r2):=h
 clear h
 replace H:=eL.mp H
 obtain⟨⟨t124,t125⟩,gI,H⟩:=H
 replace H:(some (t124,t125))=some (r1,r2):=H
 have gX:=ae gI
 clear gI
 simp only[Option.some.injEq,Prod.mk.injEq]at H
 obtain⟨rfl,rfl⟩:=H
 go_enter Tryz.func105,Tryz.ntmps105
 go_wp2_with (first|((with_reducible refine cV (f:=152) rfl ?_);refine cW (some 25) rfl rfl Tryz.func152 tA1 rfl #[.int .u64 a0,.int .u64 a1] rfl tA9 ?_;(with_reducible refine(Ik.calls a0 a1 t124 t125 _ gX.o).mono ?_);rintro e w' ⟨rfl,⟨cg,rfl⟩⟩;refine⟨_,rfl,?_⟩))
 go_ret2
 exact⟨tA6,tA8⟩
def pJ.l0:Nat->List ByteArray->ByteArray->Int->Int->Option (Int)
 | 0,_,_,_,_=>none
 | k+1,x0,x1,jx,ug=>if ug<jx then(if 0<=ug then(if ug< (x0.length:Int)then(if x1.toList=(gg ByteArray.empty x0 ug).toList then(some ug)else(pJ.l0 k x0 x1 jx (wrap64 (ug+1))))else(none))else(none))else(some (-1))
def pJ.f (k:Nat)(l0:List ByteArray)(a1:ByteArray):Option (Int):=pJ.l0 k l0 a1 (l0.length:Int) 0
theorem pJ.calls (k:Nat)(cU:Option Addr)(bf:Nat)(l0:List ByteArray)(a1:ByteArray)(r:Int)(w:World)(dS:Kd.C Kd.string w cU l0.length l0)(hc0:l0.length<=bf)(h:pJ.f k l0 a1=some r):
  Calls Tryz.prog 112 #[.slice cU l0.length bf,.string a1] w fun e w'=>e= .returned (.int .i64 r)/\aR w w':=by
 have kj:=ae dS
 have xj:=ae hc0
 clear dS hc0
 have H:(pJ.l0 k l0 a1 (l0.length:Int) 0)=some r:=h
 clear h
 have bk:=ae H
 clear H
 go_enter Tryz.func112,Tryz.ntmps112
 go_wp2
 go_loopg [8] k (fun cy v8 w'=>∃(oh:Int),v8= .int .i64 oh/\af (pJ.l0 cy l0 a1 (l0.length:Int) oh=some r)/\af (cy<=k)/\aR w w')
 case atStart=>exact⟨(0),tA6,bk,⟨bl _⟩,tA8⟩
 case round=>
  clear bk
  obtain⟨oh,rfl,a7,dU,⟨m1,rfl⟩⟩:=hrel
  cases gk with
  | zero=>exact absurd a7.o (by simp[pJ.l0])
  | succ k1=>
   have H:=a7.o
   clear a7
   simp only[pJ.l0]at H
   by_cases aM:oh< (l0.length:Int)
   ·rw[if_pos aM]at H
    have jE:=bn aM
    clear aM
    by_cases aV:0<=oh
    ·rw[if_pos aV]at H
     have fB:=bn aV
     clear aV
     by_cases bW:oh< (l0.length:Int)
     ·rw[if_pos bW]at H
      have nO:=bn bW
      clear bW
      by_cases c6:a1.toList=(gg ByteArray.empty l0 oh).toList
      ·rw[if_pos c6]at H
       have x9:(a1.toList==(gg ByteArray.empty l0 oh).toList)=true:=beq_iff_eq.mpr c6
       have EX:(a1.toList !=(gg ByteArray.empty l0 oh).toList)=false:=bne_eq_false_iff_eq.mpr c6
       clear c6
       obtain rfl:=bo H
       have CV:0<=(oh:Int):=bg tA4
       have Dc:oh< (l0.length:Int):=bg tA4
       obtain⟨ajz,RO,aoL⟩:=Kd.EM kj.o oh CV Dc
       cases RO
       replace CV:=eq_true CV
       replace Dc:=eq_true Dc
       go_wp2
       go_ret
       exact⟨tA6,tA8⟩
      ·rw[if_neg c6]at H
       have x9:(a1.toList==(gg ByteArray.empty l0 oh).toList)=false:=ey.mpr c6
       have EX:(a1.toList !=(gg ByteArray.empty l0 oh).toList)=true:=bne_iff_ne.mpr c6
       have bk:=ae H
       clear H
       have CV:0<=(oh:Int):=bg tA4
       have Dc:oh< (l0.length:Int):=bg tA4
       obtain⟨ajz,RO,aoL⟩:=Kd.EM kj.o oh CV Dc
       cases RO
       replace CV:=eq_true CV
       replace Dc:=eq_true Dc
       go_wp2
       go_roundg k1
       case measure=>have:=dU.o;omega
       case rel=>exact⟨(wrap64 (oh+1)),tA6,bk,⟨tAm⟩,tA8⟩
     ·rw[if_neg bW]at H
      exact absurd H tA2
    ·rw[if_neg aV]at H
     exact absurd H tA2
   ·rw[if_neg aM]at H
    have jE:=cE aM
    clear aM
    obtain rfl:=bo H
    go_wp2
    go_ret
    exact⟨tA6,tA8⟩
def kF.f (k:Nat)(l0:List ByteArray)(a1:ByteArray):Option (Bool):=(pJ.f k l0 a1).bind fun t236=>(some (decide (t236>=0)))
theorem kF.calls (k:Nat)(cU:Option Addr)(bf:Nat)(l0:List ByteArray)(a1:ByteArray)(r:Bool)(w:World)(dS:Kd.C Kd.string w cU l0.length l0)(hc0:l0.length<=bf)(h:kF.f k l0 a1=some r):
  Calls Tryz.prog 48 #[.slice cU l0.length bf,.string a1] w fun e w'=>e= .returned (.bool r)/\aR w w':=by
 have kj:=ae dS
 have xj:=ae hc0
 clear dS hc0
 have H:((pJ.f k l0 a1).bind fun t236=>(some (decide (t236>=0))))=some r:=h
 clear h
 replace H:=eL.mp H
 obtain⟨t236,gI,H⟩:=H
 replace H:(some (decide (t236>=0)))=some r:=H
 have gX:=ae gI
 clear gI
 obtain rfl:=bo H
 go_enter Tryz.func48,Tryz.ntmps48
 go_wp2_with (first|((with_reducible refine cV (f:=112) rfl ?_);refine cW (some 7) rfl rfl Tryz.func112 tA1 rfl #[.slice cU l0.length bf,.string a1] rfl tA9 ?_;(with_reducible refine(pJ.calls k _ _ l0 a1 t236 _ ?side1 ?side2 gX.o).mono ?_);(case side1=>repeat(first|exact kj.o|(with_reducible refine Kd.o5 ?_ _)|(with_reducible refine Kd.ot ?_ _)|(with_reducible refine Kd.oq ?_)));(case side2=>exact xj.o);rintro e w' ⟨rfl,⟨cg,rfl⟩⟩;refine⟨_,rfl,?_⟩))
 go_ret
 exact⟨tA6,tA8⟩
def fE.f (a0:Int)(a1:Int)(a2:Int):Option (Bool):=if a1<=a0 then(some (decide (a0<=a2)))else(some false)
theorem fE.calls (a0:Int)(a1:Int)(a2:Int)(r:Bool)(w:World)(h:fE.f a0 a1 a2=some r):
  Calls Tryz.prog 49 #[.int .i64 a0,.int .i64 a1,.int .i64 a2] w fun e w'=>e= .returned (.bool r)/\aR w w':=by
 have H:(if a1<=a0 then(some (decide (a0<=a2)))else(some false))=some r:=h
 clear h
 by_cases aV:a1<=a0
 ·rw[if_pos aV]at H
  have fB:=bn aV
  clear aV
  obtain rfl:=bo H
  go_enter Tryz.func49,Tryz.ntmps49
  go_wp2
  go_ret
  exact⟨tA6,tA8⟩
 ·rw[if_neg aV]at H
  have fB:=cE aV
  clear aV
  obtain rfl:=bo H
  go_enter Tryz.func49,Tryz.ntmps49
  go_wp2
  go_ret
  exact⟨tA6,tA8⟩
end Go.Proofs.YtjgakaembhmhpaaGreatDoor.PA
