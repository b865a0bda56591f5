/- Part of the proof of SetsChanged: the walk and the plain laws. It holds without further conditions. -/
import Derived.Lib.ItoaLen
import Derived.Shelf.SlLaysZ
import Derived.Shelf.SlLaysM
import Derived.Ground.GgzProg
import Derived.Ground.SlgmProg
import Derived.Shelf.SlIter.Nil
import Derived.Shelf.SortM.Plain
import Derived.Shelf.SortM.SortNone
import Derived.Shelf.SlMaps.Clone
import Derived.Ground.SlmcProg
import Derived.Maps.OwnSet
import Derived.Test.YtjgakaembhmhpaaGreatDoorJAR
set_option linter.unusedVariables false
set_option linter.unusedSimpArgs false
set_option maxHeartbeats 16000000
set_option maxRecDepth 100000
namespace Go.Proofs.YtjgakaembhmhpaaGreatDoor.PA
open Go.RowKit Go.Proofs.YtjgakaembhmhpaaGreatDoorW.PrintWords Go.Proofs.YtjgakaembhmhpaaGreatDoorW.PrintLast Go.Proofs.YtjgakaembhmhpaaGreatDoorW.PrintMore Go.Proofs.YtjgakaembhmhpaaGreatDoorM
abbrev TabW (w:World):Prop:=Lib.TabIs Tryz.prog w "internal/strconv.uint64pow10" .u64 Lib.pow10Tab
theorem TabW.below {w w':World}(h:TabW w)(hb:Below w.heap.size w w'):TabW w':=by
 unfold TabW Lib.TabIs World.var? at *
 obtain⟨g,hg,hv⟩:=eL.1 h
 rw[hg,Option.bind_some]
 have hlt:g<w.heap.size:=by
  rcases Nat.lt_or_ge g w.heap.size with h'|h'
  ·exact h'
  ·rw[Array.getElem?_eq_none h']at hv
   simp at hv
 rw[hb.block g hlt]
 exact hv
def rz (n:Int):ByteArray:=⟨(Lib.itoa n).toArray⟩
def oc (n:Int):ByteArray:=if n<0 then⟨#[32,45,32]⟩else⟨#[32,43,32]⟩
def Il (t:ay):ByteArray:=if max t.f1 (-t.f1)=1 then t.f0 else rz (max t.f1 (-t.f1))++⟨#[42]⟩++t.f0
def ja (t:ay):ByteArray:=oc t.f1++Il t
theorem acG (n:Int)(h0: -9223372036854775808<=n)(h1:n<=9223372036854775807)(w:World)(ht:TabW w):Calls Tryz.prog 180 #[.int .i64 n] w fun e w'=>e= .returned (.string (rz n))/\Below w.heap.size w w':=by
 have HC:=ae (Tryz.strconv_Itoa n h0 h1 w ht)
 clear ht h0 h1
 go_enter Tryz.func180,Tryz.ntmps180
 go_wp2_with (go_at_call 194;refine HC.o.mono ?_;rintro e w1 ⟨rfl,k,os,rfl⟩)
 go_ret
 exact⟨rfl,⟨rfl,rfl,rfl,by simp[Go.Sort.grow,World.drewN],fun i hi=>Go.Sort.heap_grow_old (w.drewN k) os (by simpa[World.drewN]using hi)⟩⟩
theorem adI (n:Int)(w:World):Calls Tryz.prog 181 #[.int .i64 n] w fun e w'=>e= .returned (.string (oc n))/\Below w.heap.size w w':=by
 refine(Oo.calls n (oc n) w ?_).mono fun e w' ⟨he,hd⟩=>⟨he,py (Below.refl _ _) hd⟩
 unfold Oo.f oc
 split<;>rfl
def i7 (o p:ByteArray):Bool:=decide (p.size<=o.size)&&((o.extract 0 p.size).toList==p.toList)
theorem aag (o p:ByteArray):tT.f o p=some (i7 o p):=by
 unfold tT.f i7
 by_cases h:p.size<=o.size
 ·rw[if_pos tA0,if_pos tA0,if_pos tA0,bn h,Bool.true_and]
  rfl
 ·rw[if_neg tA0,cE h,Bool.false_and]
theorem Y3 (o p:ByteArray):Ge.f o p=some (if i7 o p=true then(o.extract p.size o.size,true)else(o,false)):=by
 unfold Ge.f Gg.f
 rw[aag,Option.bind_some]
 by_cases h:i7 o p=true
 ·have hs:p.size<=o.size:=by
   unfold i7 at h
   simp only[Bool.and_eq_true,decide_eq_true_eq]at h
   exact h.1
  rw[if_pos h,if_pos tA0,if_pos tA0,if_pos h]
  rfl
 ·rw[if_neg h,if_neg h]
  rfl
theorem ad9 (o p:ByteArray):Gf.f o p=some (if i7 o p=true then o.extract p.size o.size else o):=by
 unfold Gf.f Gh.f
 rw[aag,Option.bind_some]
 by_cases h:i7 o p=true
 ·have hs:p.size<=o.size:=by
   unfold i7 at h
   simp only[Bool.and_eq_true,decide_eq_true_eq]at h
   exact h.1
  rw[if_pos h,if_pos tA0,if_pos tA0,if_pos h]
  rfl
 ·rw[if_neg h,if_neg h]
  rfl
def rE:ByteArray:=⟨#[32,43,32]⟩
def tP:ByteArray:=⟨#[32,45,32]⟩
def zH (o:ByteArray):ByteArray:=if i7 o rE=true then o.extract 3 o.size else⟨#[45]⟩++(if i7 o tP=true then o.extract 3 o.size else o)
def NK (l:List ay):List ByteArray:=if l=[]then [oc 0++rz 0]else l.map ja
def lM (l:List ay):ByteArray:=⟨(Lib.join ((NK l).map (·.data.toList)) []).toArray⟩
def jl (l:List ay):ByteArray:=zH (lM l)
theorem apO {α β:Type}(h:α->β)(l:List α){k:Nat}(hk:k<l.length):(l.take (k+1)).map h=(l.take k).map h++[h l[k]]:=by
 rw[kr hk,List.map_append]
 rfl
theorem Uc:∀xs:List (List UInt8),Lib.join xs []=xs.flatten
 | []=>rfl
 | x::r=>by
  rw[Lib.join_cons,List.flatten_cons]
  unfold Lib.joinTail
  congr 2
  exact(List.map_congr_left fun y _=>List.nil_append y).trans (List.map_id _)
theorem as2 {t:ay}(hs:t.f0.size<=100)(hb:t.f1.natAbs<=1000000000000000):(ja t).data.toList.length<=126:=by
 have h1:(oc t.f1).size=3:=by unfold oc;split<;>rfl
 have h2:(Il t).size<=123:=by
  unfold Il
  split
  ·omega
  ·have:=Lib.itoa_length_le (max t.f1 (-t.f1)) tA0 tA0
   have h3:(rz (max t.f1 (-t.f1))).size=(Lib.itoa (max t.f1 (-t.f1))).length:=by
    show(Lib.itoa (max t.f1 (-t.f1))).toArray.size=_
    rw[List.size_toArray]
   rw[ByteArray.size_append,ByteArray.size_append,h3]
   have h4:(⟨#[42]⟩:ByteArray).size=1:=rfl
   omega
 have h5:(ja t).data.toList.length=(ja t).size:=tBl
 rw[h5]
 unfold ja
 rw[ByteArray.size_append]
 omega
theorem Ud:∀l:List ay,(∀t∈l,t.f0.size<=100)->fR 1000000000000000 l->(Lib.join ((l.map ja).map (·.data.toList)) []).length<=126 * l.length
 | [],_,_=>Nat.zero_le _
 | t::l,hs,hb=>by
  have h1:=as2 (hs t tA2) (hb t tA2)
  have h2:=Ud l (fun u hu=>hs u (jk _ hu)) (fun u hu=>hb u (jk _ hu))
  rw[Uc]at h2 ⊢
  rw[List.map_cons,List.map_cons,List.flatten_cons,fZ,i6]
  omega
theorem alQ {A:Option Addr}{c:Nat}{l:List ay}{w:World}(h:Kd.C cf w A l.length l)(hl:l.length<=1000)(hs:∀t∈l,t.f0.size<=100)(hb:fR 1000000000000000 l)(ht:TabW w):
  Calls Tryz.prog 144 #[.agg #[.int .i64 0,.slice A l.length c]] w fun e w'=>e= .returned (.string (jl l))/\Below w.heap.size w w':=by
 have bT:=ae h
 have km:=ae hs
 have jK:=ae hb
 have b9:=ae ht
 have bI:=ae (ax (Below.refl w.heap.size w) (.cells #[.int .i64 0,.slice A l.length c] 33))
 have cJ:=ae (a8 w (.cells #[.int .i64 0,.slice A l.length c] 33))
 clear h hs hb ht
 go_enter Tryz.func144,Tryz.ntmps144
 go_wp2
 go_loopg [3,5,6,7,14] l.length (fun bL kD _ _ _ arN wr=>∃(kk:Nat) (O:Nat->Prop) (v:Value),kk<=l.length/\l.length-kk<=bL/\kD=v/\arN= .int .i64 kk/\af (Kd.N Kd.string 9 wr w.heap.size O v ((l.take kk).map ja))/\af (∀k,O k->k≠w.heap.size)/\af (Below w.heap.size w wr)/\af (wr.heap[w.heap.size]?=some (.cells #[.int .i64 0,.slice A l.length c] 33 (0,0))))
 case atStart=>exact⟨0,fun _=>False,.slice none 0 0,Nat.zero_le _,tA0,rfl,rfl,⟨Kd.i1 _ _ _ _ _⟩,⟨fun k hk=>hk.elim⟩,bI,cJ⟩
 case round=>
  obtain⟨kk,O,v,eO,hg,hv,rfl,bm,HO,ak,cv⟩:=hrel
  obtain⟨fu,eo,rfl⟩:=Kd.c3 bm.o
  subst hv
  by_cases hlt:kk<l.length
  ·have cp:(kk:Int)< (l.length:Int):=by omega
   obtain⟨ad,e,x0,x1⟩:=jD bT.o (kk:Int) tA0 tA0
   cases e
   replace x0:=bw ak.o x0
   replace x1:=bw ak.o x1
   simp only[eQ]at x0 x1
   have hy:aJ l (kk:Int)=l[kk]:=tCl
   have zy:=ae (km.o (aJ l (kk:Int)) tB0)
   have aaD:=jK.o (aJ l (kk:Int)) tB0
   have iM:af ((l.take (kk+1)).map ja=(l.take kk).map ja++[ja (aJ l (kk:Int))]):=⟨by rw[hy];exact apO _ l hlt⟩
   have qU:af (((l.take kk).map ja).length=kk):=⟨tAb⟩
   clear hy
   generalize aJ l (kk:Int)=y at *
   generalize (l.take kk).map ja=xs at *
   obtain⟨aK,aC⟩:=y
   simp only at aaD x0 x1
   have WN:af ((xs.length+1) * 16<=140737488355328):=⟨by have:=qU.o;omega⟩
   have bR:=ae (ax ak.o (.cells #[.string aK,.int .i64 aC] 79))
   have xx:=ae (a8 wr (.cells #[.string aK,.int .i64 aC] 79))
   have xy:=ae (acG (max aC (-aC)) tA0 tA0)
   have oz:=ae (adI aC)
   have TA:wrap64 (-aC)= -aC:=eM _ tA0
   have bA:af (Il ⟨aK,aC⟩=if max aC (-aC)=1 then aK else rz (max aC (-aC))++⟨#[42]⟩++aK):=⟨rfl⟩
   have hz:aK.size<=100:=zy.o
   have D7:af (∀k,some k=(Value.slice fu xs.length eo).ownBlock->k≠w.heap.size):=⟨fun k hk=>HO.o k (bm.o.1 k tEb)⟩
   have aoq:(oc aC).size=3:=by unfold oc;split<;>rfl
   have sJ:=az cv.o
   by_cases mL:max aC (-aC)=1
   ·have Qf:af (ja ⟨aK,aC⟩=oc aC++aK):=⟨by unfold ja;rw[bA.o,if_pos mL]⟩
    generalize TJ:oc aC=mv at *
    clear TJ
    go_wp2_with (first|(go_at_call 181;refine(oz.o _).mono ?_;rintro e w3 ⟨rfl,hb⟩;have bS:=ae (au bR.o hb);have eC:=ae (av (aH cv.o _) hb);have mD:=ae (Kd.dz (Kd.BB bm.o (.cells #[.string aK,.int .i64 aC] 79)) hb);clear hb)|(at_builtin;refine Kd.oF Kd.string w.heap.size rfl (.tmp 34) (.tmp 40) 37 9 (.string ⟨#[]⟩) 16 rfl Tryz.underlying37 Jt rfl tA3 tA3 (.slice fu xs.length eo) xs (mv++aK) [.string (mv++aK)] (fun k=>O k\/w3.heap.size<=k) (fun _=>False) rfl rfl (fun _ _=>rfl) (fun _ hk=>hk.elim) (fun _ h=> .inr h) (Kd.et mD.o (fun _ h=> .inl h)) bS.o bS.o.size WN.o ?_;intro v6 aY cd cG dI fh;have hE:=ae (gf eC.o dI (fun e=>D7.o _ e rfl));have dr:=ae cd;have cP:=ae cG;clear cd cG dI fh))
    go_roundg (l.length- (kk+1))
    case measure=>omega
    case rel=>exact⟨kk+1,fun k=>O k\/w3.heap.size<=k,v6,tA0,tA0,rfl,tA7,⟨by rw[iM.o,Qf.o];exact dr.o⟩,⟨fun k hk=>hk.elim (HO.o k) (fun h=>by have:=bS.o.size;have:=az eC.o;omega)⟩,cP,hE⟩
   ·have Qf:af (ja ⟨aK,aC⟩=oc aC++(rz (max aC (-aC))++⟨#[42]⟩++aK)):=⟨by unfold ja;rw[bA.o,if_neg mL]⟩
    have hnz:(rz (max aC (-aC))).size<=22:=by
     have:=Lib.itoa_length_le (max aC (-aC)) tA0 tA0
     show(Lib.itoa (max aC (-aC))).toArray.size<=22
     simp only[List.size_toArray]
     omega
    have ax9:(max aC (-aC) !=1)=true:=bne_iff_ne.2 mL
    have ahS:=ae (aH cv.o (.cells #[.string aK,.int .i64 aC] 79))
    have ki:=ae (Kd.BB bm.o (.cells #[.string aK,.int .i64 aC] 79))
    have La:=ae (b9.o.below bR.o)
    generalize TJ:oc aC=mv at *
    clear TJ
    go_wp2
    generalize wr.alloc (.cells #[.string aK,.int .i64 aC] 79)=cz at *
    have er:af (∀W:World,Below cz.heap.size cz W->(W.cell? ⟨wr.heap.size,0,none⟩=some (.string aK)/\W.cell? ⟨wr.heap.size,1,none⟩=some (.int .i64 aC))):=⟨fun W hb=>⟨ah (av xx.o hb) 0,ah (av xx.o hb) 1⟩⟩
    have ag2:af (∀W:World,Below cz.heap.size cz W->Calls Tryz.prog 180 #[.int .i64 (max aC (-aC))] W fun e w'=>e= .returned (.string (rz (max aC (-aC))))/\Below cz.heap.size cz w'):=⟨fun W hb=>(xy.o W (TabW.below La.o hb)).mono fun e w' ⟨he,hb'⟩=>⟨he,au hb hb'⟩⟩
    clear xy bA
    generalize rz (max aC (-aC))=jT at *
    have hz1:¬ 9223372036854775807<jT.size+1:=tA0
    have hz2:¬ 9223372036854775807<jT.size+1+aK.size:=tA0
    go_region_held3 (fun W=>W.cell? ⟨wr.heap.size,0,none⟩=some (.string aK)/\W.cell? ⟨wr.heap.size,1,none⟩=some (.int .i64 aC)) (first|assumption|exact er.o _ (cB (Below.refl _ _))|exact er.o _ y2.o) (first|(go_simp;go_at_call 180;with_reducible(refine(ag2.o _ tC5).mono ?_);rintro e w3 ⟨rfl,hb⟩;have y2:=ae hb;clear hb))
    all_goals
     have bS:=ae (au bR.o y2.o)
     have eC:=ae (av ahS.o y2.o)
     have mD:=ae (Kd.dz ki.o y2.o)
     have uf:=(er.o _ y2.o).2
     go_wp2_with (first|(go_at_call 181;refine(oz.o _).mono ?_;rintro e w4 ⟨rfl,hb⟩;have cO:=ae (au bS.o hb);have rb:=ae (av eC.o hb);have Hq:=ae (Kd.dz mD.o hb);clear hb)|(at_builtin;refine Kd.oF Kd.string w.heap.size rfl (.tmp 34) (.tmp 40) 37 9 (.string ⟨#[]⟩) 16 rfl Tryz.underlying37 Jt rfl tA3 tA3 (.slice fu xs.length eo) xs (mv++(jT++(⟨#[42]⟩:ByteArray)++aK)) [.string (mv++(jT++(⟨#[42]⟩:ByteArray)++aK))] (fun k=>O k\/w4.heap.size<=k) (fun _=>False) rfl rfl (fun _ _=>rfl) (fun _ hk=>hk.elim) (fun _ h=> .inr h) (Kd.et Hq.o (fun _ h=> .inl h)) cO.o cO.o.size WN.o ?_;intro v6 aY cd cG dI fh;have hE:=ae (gf rb.o dI (fun e=>D7.o _ e rfl));have dr:=ae cd;have cP:=ae cG;clear cd cG dI fh))
     go_roundg (l.length- (kk+1))
     case measure=>omega
     case rel=>exact⟨kk+1,fun k=>O k\/w4.heap.size<=k,v6,tA0,tA0,rfl,tA7,⟨by rw[iM.o,Qf.o];exact dr.o⟩,⟨fun k hk=>hk.elim (HO.o k) (fun h=>by have:=cO.o.size;have:=az rb.o;omega)⟩,cP,hE⟩
  ·have cp:¬ (kk:Int)< (l.length:Int):=by omega
   have di:kk=l.length:=tA0
   have vQ:af ((l.take kk).map ja=l.map ja):=⟨by rw[di,fJ]⟩
   have Hm:af ((l.map ja).length=l.length):=⟨tA2⟩
   have kW:af (jl l=zH (lM l)):=⟨rfl⟩
   have HN:=ae (Ud l km.o jK.o)
   have x2:wr.cell? ⟨w.heap.size,0,none⟩=some (.int .i64 0):=ah cv.o 0
   have D7:af (∀n k,some k=(Value.slice fu n eo).ownBlock->k≠w.heap.size):=⟨fun n k hk=>HO.o k (bm.o.1 k tEb)⟩
   by_cases hl0:l=[]
   ·subst hl0
    have pW:af (Kd.N Kd.string 9 wr w.heap.size O (.slice fu 0 eo) []):=⟨by have:=bm.o;rw[vQ.o]at this;exact this⟩
    have Ec:af (NK []=[oc 0++rz 0]):=⟨rfl⟩
    have s7:af (lM []=⟨(Lib.join ([oc 0++rz 0].map (·.data.toList)) []).toArray⟩):=⟨rfl⟩
    have oz:=ae (adI 0)
    have xy:af (∀W:World,Below wr.heap.size wr W->Calls Tryz.prog 180 #[.int .i64 (max 0 (IntKind.i64.wrap 0))] W fun e w'=>e= .returned (.string (rz 0))/\Below wr.heap.size wr w'):=⟨fun W hb=>by
     rw[show max 0 (IntKind.i64.wrap 0)=(0:Int) by decide]
     exact(acG 0 tA3 tA3 W (TabW.below (b9.o.below ak.o) hb)).mono fun e w' ⟨he,hb'⟩=>⟨he,au hb hb'⟩⟩
    have aoq:(oc 0).size=3:=rfl
    have hnz:(rz 0).size=1:=tA1
    have ahg:=ae (D7.o 0)
    clear D7 bm vQ Hm di
    generalize oc 0=mv at *
    generalize rz 0=jT at *
    have hz1:¬ 9223372036854775807<mv.size+jT.size:=tA0
    have er:af (∀W:World,Below wr.heap.size wr W->W.cell? ⟨w.heap.size,0,none⟩=some (.int .i64 0)):=⟨fun W hb=>bw hb x2⟩
    have ahv:af (∀W:World,Below wr.heap.size wr W->Calls Tryz.prog 181 #[.int .i64 0] W fun e w'=>e= .returned (.string mv)/\Below wr.heap.size wr w'):=⟨fun W hb=>(oz.o W).mono fun e w' ⟨he,hb'⟩=>⟨he,au hb hb'⟩⟩
    clear oz
    go_wp2_with fail
    go_region_held3 (fun W=>W.cell? ⟨w.heap.size,0,none⟩=some (.int .i64 0)) (first|assumption|exact er.o _ (cB (Below.refl _ _))|exact er.o _ y2.o|exact er.o _ s4.o|exact er.o _ (ax s4.o _)) (first|(refine Kd.th Kd.string w.heap.size tA5 (.tmp 51) (.tmp 63) 37 9 (.string ⟨#[]⟩) 16 tA5 Tryz.underlying37 Jt rfl tA3 tA3 (.slice fu 0 eo) [] (mv++jT) [.string (mv++jT)] (fun k=>O k\/wr.heap.size<=k) (fun _=>False) tA5 ?hx (fun _ _=>rfl) (fun _ h=>h.elim) (fun _ h=> .inr (bj s4.o.size h)) (Kd.dz (Kd.et pW.o (fun _ h=> .inl h)) s4.o) (au ak.o s4.o) (au ak.o s4.o).size tA3 ?_;(case hx=>go_simp);intro v6 aY cd cG dI fh;obtain⟨dn,c6,rfl⟩:=Kd.c3 cd;have dr:=ae cd;have cP:=ae cG;have wH:=gf (av cv.o s4.o) dI (fun e=>ahg.o _ e rfl);have ame:=(mj wH 0).trans rfl;clear cd cG dI fh wH)|(go_simp;go_at_call 181;with_reducible(refine(ahv.o _ tC5).mono ?_);rintro e w3 ⟨rfl,hb⟩;have y2:=ae hb;clear hb)|(go_simp;go_at_call 180;with_reducible(refine(xy.o _ y2.o).mono ?_);rintro e w4 ⟨rfl,hb⟩;have s4:=ae hb;clear hb))
    all_goals
     have Bk:af (Kd.N Kd.string 9 aY w.heap.size (fun k=>O k\/wr.heap.size<=k) (.slice dn [mv++jT].length c6) [mv++jT]):=⟨dr.o⟩
     have Bf:af ((⟨(Lib.join ([mv++jT].map (·.data.toList)) []).toArray⟩:ByteArray)=lM []):=⟨s7.o.symm⟩
     have Hf:af ((Lib.join ([mv++jT].map (·.data.toList)) []).length<=140737488355328):=⟨by
      rw[List.map_cons,List.map_nil,Lib.join_one,Array.length_toList]
      show(mv++jT).size<=_
      rw[ByteArray.size_append]
      omega⟩
     have PC:af ((lM []).size<=140737488355328):=⟨tDg⟩
     have s9:af (([mv++jT]).length<=1000):=⟨by show 1<=1000;decide⟩
     have K0:af (0< ([mv++jT]).length):=⟨by show 0<1;decide⟩
     clear s7 Ec HN dr pW
     have yw:0< ([mv++jT]).length:=K0.o
     obtain⟨g,cap,e,hg1,hg2,_⟩:=Kd.QR Bk.o yw
     obtain⟨rfl,rfl⟩:dn=some ⟨g,0,none⟩/\c6=cap:=by
      injection e with e1 e2 e3
      exact⟨e1,e3⟩
     have lv:=ae (Kd.ej Bk.o)
     have e1:(⟨#[]⟩:ByteArray).data.toList=[]:=rfl
     have Bd:=ae (Tryz.strings_Join g 0 c6 ([mv++jT]) ⟨#[]⟩ aY (fun j y hj=>by
      obtain⟨gQ,Tk⟩:=iC.1 hj
      have:=Kd.ZM lv.o.2.2 (j:Int) tA0 tA0
      simp only[eQ,gg,List.getD,hj,Option.getD_some,add_plain]at this
      rw[Nat.zero_add]
      exact this) hg2 (by have:=s9.o;omega) lv.o.2.1 (by
      rw[e1]
      exact Hf.o))
     rw[e1,Bf.o,show([mv++jT]).length=1 from rfl]at Bd
     generalize lM []=o at *
     have pj:af (∀W:World,Calls Tryz.prog 182 #[.string o,.string ⟨#[32,43,32]⟩] W fun e w'=>e= .returned (.tuple #[.string (if i7 o rE=true then o.extract 3 o.size else o),.bool (i7 o rE)])/\Below W.heap.size W w'):=⟨fun W=>(Ge.calls o ⟨#[32,43,32]⟩ _ _ W ((Y3 o rE).trans (by cases i7 o rE<;>rfl))).mono fun e w' ⟨he,hd⟩=>⟨he,py (Below.refl _ _) hd⟩⟩
     have uJ:af (∀W:World,Calls Tryz.prog 183 #[.string o,.string ⟨#[32,45,32]⟩] W fun e w'=>e= .returned (.string (if i7 o tP=true then o.extract 3 o.size else o))/\Below W.heap.size W w'):=⟨fun W=>(Gf.calls o ⟨#[32,45,32]⟩ _ W ((ad9 o tP).trans rfl)).mono fun e w' ⟨he,hd⟩=>⟨he,py (Below.refl _ _) hd⟩⟩
     have pU:af (zH o=if i7 o rE=true then o.extract 3 o.size else⟨#[45]⟩++(if i7 o tP=true then o.extract 3 o.size else o)):=⟨rfl⟩
     rw[<- kW.o]at pU
     have aou:(if i7 o tP=true then o.extract 3 o.size else o).size<=140737488355328:=by
      have:=PC.o
      split
      ·rw[ByteArray.size_extract];omega
      ·exact this
     clear Bf kW
     generalize (if i7 o tP=true then o.extract 3 o.size else o)=sU at *
     have aot:¬ 9223372036854775807<1+sU.size:=tA0
     cases hp:i7 o rE with
     | true=>
      rw[hp]at pj pU
      simp only[if_true]at pj pU
      generalize o.extract 3 o.size=akF at *
      go_wp2_with (first|(go_at_call 157;with_reducible(refine Bd.o.mono ?_);rintro e bt ⟨rfl,hb⟩;have eZ:=ae (au cP.o hb);clear hb)|(go_at_call 182;with_reducible(refine(pj.o _).mono ?_);rintro e fq ⟨rfl,hb⟩;have eh:=ae (au eZ.o hb);clear hb))
      go_ret
      rw[pU.o]
      exact⟨rfl,eh.o⟩
     | false=>
      rw[hp]at pj pU
      simp only[Bool.false_eq_true,if_false]at pj pU
      go_wp2_with (first|(go_at_call 157;with_reducible(refine Bd.o.mono ?_);rintro e bt ⟨rfl,hb⟩;have eZ:=ae (au cP.o hb);clear hb)|(go_at_call 182;with_reducible(refine(pj.o _).mono ?_);rintro e fq ⟨rfl,hb⟩;have eh:=ae (au eZ.o hb);clear hb)|(go_at_call 183;with_reducible(refine(uJ.o _).mono ?_);rintro e dG ⟨rfl,hb⟩;have iU:=ae (au eh.o hb);clear hb))
      go_ret
      rw[pU.o]
      exact⟨rfl,iU.o⟩
   ·have yw:=List.length_pos_iff.2 hl0
    have Bk:af (Kd.N Kd.string 9 wr w.heap.size O (.slice fu (l.map ja).length eo) (l.map ja)):=⟨by rw[<- vQ.o];exact bm.o⟩
    have Bf:af ((⟨(Lib.join ((l.map ja).map (·.data.toList)) []).toArray⟩:ByteArray)=lM l):=⟨by unfold lM NK;rw[if_neg hl0]⟩
    have Hf:af ((Lib.join ((l.map ja).map (·.data.toList)) []).length<=140737488355328):=⟨by have:=HN.o;omega⟩
    have PC:af ((lM l).size<=140737488355328):=⟨tDg⟩
    rw[vQ.o]
    have s9:af ((l.map ja).length<=1000):=⟨by rw[Hm.o];exact hl⟩
    have K0:af (0< (l.map ja).length):=⟨by rw[Hm.o];exact yw⟩
    have Ts:(((l.map ja).length:Int)==0)=false:=ey.2 (by have:=K0.o;omega)
    clear bm vQ Hm D7 di hl0 HN
    generalize l.map ja=xs at *
    have yw:0< (xs).length:=K0.o
    obtain⟨g,cap,e,hg1,hg2,_⟩:=Kd.QR Bk.o yw
    obtain⟨rfl,rfl⟩:fu=some ⟨g,0,none⟩/\eo=cap:=by
     injection e with e1 e2 e3
     exact⟨e1,e3⟩
    have lv:=ae (Kd.ej Bk.o)
    have e1:(⟨#[]⟩:ByteArray).data.toList=[]:=rfl
    have Bd:=ae (Tryz.strings_Join g 0 eo (xs) ⟨#[]⟩ wr (fun j y hj=>by
     obtain⟨gQ,Tk⟩:=iC.1 hj
     have:=Kd.ZM lv.o.2.2 (j:Int) tA0 tA0
     simp only[eQ,gg,List.getD,hj,Option.getD_some,add_plain]at this
     rw[Nat.zero_add]
     exact this) hg2 (by have:=s9.o;omega) lv.o.2.1 (by
     rw[e1]
     exact Hf.o))
    rw[e1,Bf.o]at Bd
    generalize lM l=o at *
    have pj:af (∀W:World,Calls Tryz.prog 182 #[.string o,.string ⟨#[32,43,32]⟩] W fun e w'=>e= .returned (.tuple #[.string (if i7 o rE=true then o.extract 3 o.size else o),.bool (i7 o rE)])/\Below W.heap.size W w'):=⟨fun W=>(Ge.calls o ⟨#[32,43,32]⟩ _ _ W ((Y3 o rE).trans (by cases i7 o rE<;>rfl))).mono fun e w' ⟨he,hd⟩=>⟨he,py (Below.refl _ _) hd⟩⟩
    have uJ:af (∀W:World,Calls Tryz.prog 183 #[.string o,.string ⟨#[32,45,32]⟩] W fun e w'=>e= .returned (.string (if i7 o tP=true then o.extract 3 o.size else o))/\Below W.heap.size W w'):=⟨fun W=>(Gf.calls o ⟨#[32,45,32]⟩ _ W ((ad9 o tP).trans rfl)).mono fun e w' ⟨he,hd⟩=>⟨he,py (Below.refl _ _) hd⟩⟩
    have pU:af (zH o=if i7 o rE=true then o.extract 3 o.size else⟨#[45]⟩++(if i7 o tP=true then o.extract 3 o.size else o)):=⟨rfl⟩
    rw[<- kW.o]at pU
    have aou:(if i7 o tP=true then o.extract 3 o.size else o).size<=140737488355328:=by
     have:=PC.o
     split
     ·rw[ByteArray.size_extract];omega
     ·exact this
    clear Bf kW
    generalize (if i7 o tP=true then o.extract 3 o.size else o)=sU at *
    have aot:¬ 9223372036854775807<1+sU.size:=tA0
    cases hp:i7 o rE with
    | true=>
     rw[hp]at pj pU
     simp only[if_true]at pj pU
     generalize o.extract 3 o.size=akF at *
     go_wp2_with (first|(go_at_call 157;with_reducible(refine Bd.o.mono ?_);rintro e bt ⟨rfl,hb⟩;have eZ:=ae (au ak.o hb);clear hb)|(go_at_call 182;with_reducible(refine(pj.o _).mono ?_);rintro e fq ⟨rfl,hb⟩;have eh:=ae (au eZ.o hb);clear hb))
     go_ret
     rw[pU.o]
     exact⟨rfl,eh.o⟩
    | false=>
     rw[hp]at pj pU
     simp only[Bool.false_eq_true,if_false]at pj pU
     go_wp2_with (first|(go_at_call 157;with_reducible(refine Bd.o.mono ?_);rintro e bt ⟨rfl,hb⟩;have eZ:=ae (au ak.o hb);clear hb)|(go_at_call 182;with_reducible(refine(pj.o _).mono ?_);rintro e fq ⟨rfl,hb⟩;have eh:=ae (au eZ.o hb);clear hb)|(go_at_call 183;with_reducible(refine(uJ.o _).mono ?_);rintro e dG ⟨rfl,hb⟩;have iU:=ae (au eh.o hb);clear hb))
     go_ret
     rw[pU.o]
     exact⟨rfl,iU.o⟩
theorem apY {s:ByteArray}(h:eE s=true):∀b∈s.data.toList,(97<=b.toNat/\b.toNat<=122)\/(48<=b.toNat/\b.toNat<=57)\/b.toNat=95:=by
 intro b hb
 obtain⟨i,hi,rfl⟩:=List.mem_iff_getElem.1 hb
 have hs:i<s.size:=by rw[Array.length_toList]at hi;exact hi
 unfold eE at h
 simp only[Bool.and_eq_true]at h
 have h1:=List.all_eq_true.1 h.2.2.2 i (List.mem_range'.2 ⟨i,hs,tA0⟩)
 have h2:bG s (i:Int)=(s.data.toList[i].toNat:Int):=by
  unfold bG
  rw[dif_pos (by simpa using hs)]
  simp only[eQ]
  rfl
 rw[h2]at h1
 unfold yG at h1
 simp only[Bool.or_eq_true,Bool.and_eq_true,decide_eq_true_eq]at h1
 omega
theorem acx {s:ByteArray}(h:eE s=true):∃b r,s.data.toList=b::r/\97<=b.toNat:=by
 have hs:=CR h
 have hz:s.data.toList.length=s.size:=tBl
 cases e:s.data.toList with
 | nil=>rw[e]at hz;simp at hz;omega
 | cons b r=>
  refine⟨b,r,rfl,?_⟩
  unfold eE at h
  simp only[Bool.and_eq_true,decide_eq_true_eq]at h
  have h1:=h.2.2.1.1
  have h2:bG s 0=(b.toNat:Int):=by
   unfold bG
   rw[dif_pos (show(0:Int).toNat<s.size from hs.1)]
   have:(s[(0:Int).toNat]'(show(0:Int).toNat<s.size from hs.1))=s.data.toList[0]' tA0 :=rfl
   rw[this]
   simp[e]
  omega
theorem Up {s:ByteArray}(h:eE s=true):(32:UInt8)∉s.data.toList/\(42:UInt8)∉s.data.toList:=by
 have hb:=apY h
 constructor<;>intro hm<;>have:=hb _ hm<;>revert this<;>decide
def Ar (n:Int):UInt8:=if n<0 then 45 else 43
def pz (t:ay):List UInt8:=if max t.f1 (-t.f1)=1 then t.f0.data.toList else Lib.itoa (max t.f1 (-t.f1))++42::t.f0.data.toList
theorem Ff (a b:ByteArray):(a++b).data.toList=a.data.toList++b.data.toList:=by
 rw[ByteArray.data_append,Array.toList_append]
theorem as3 (t:ay):(ja t).data.toList=32::Ar t.f1::32::pz t:=by
 unfold ja oc Il Ar pz
 rw[Ff]
 by_cases h:t.f1<0<;>by_cases h1:max t.f1 (-t.f1)=1
 ·rw[if_pos h,if_pos h,if_pos h1,if_pos h1];rfl
 ·rw[if_pos h,if_pos h,if_neg h1,if_neg h1,Ff,Ff,List.append_assoc];rfl
 ·rw[if_neg h,if_neg h,if_pos h1,if_pos h1];rfl
 ·rw[if_neg h,if_neg h,if_neg h1,if_neg h1,Ff,Ff,List.append_assoc];rfl
def vY (t:ay):Prop:=eE t.f0=true/\t.f1≠0/\t.f1.natAbs<=1000000000000000
theorem ab1 {n:Int}(h:0<=n):Lib.itoa n=Lib.decDigits n.toNat:=by
 unfold Lib.itoa
 rw[if_neg tA0]
theorem abZ {n:Int}(h:0<=n):∀b∈Lib.itoa n,48<=b.toNat/\b.toNat<=57:=by
 rw[ab1 h]
 exact RN _
theorem apg {n:Int}(h:0<=n):Lib.itoa n≠[]:=by
 rw[ab1 h]
 exact akK _
theorem Yx {t:ay}(h:vY t):(32:UInt8)∉pz t:=by
 unfold pz
 split
 ·exact(Up h.1).1
 ·intro hm
  rcases List.mem_append.1 hm with hm|hm
  ·exact aph _ hm
  ·rcases List.mem_cons.1 hm with hm|hm
   ·exact absurd hm tA3
   ·exact(Up h.1).1 hm
theorem Yw {t:ay}(h:vY t):∃b r,pz t=b::r/\48<=b.toNat:=by
 unfold pz
 split
 ·obtain⟨b,r,e,hb⟩:=acx h.1
  exact⟨b,r,e,tA0⟩
 ·have hn:0<=max t.f1 (-t.f1):=by omega
  cases e:Lib.itoa (max t.f1 (-t.f1))with
  | nil=>exact absurd e (apg hn)
  | cons b r=>
   have:=abZ hn b (by rw[e];simp)
   exact⟨b,r++42::t.f0.data.toList,rfl,tA0⟩
theorem adN:∀{x y a b:List UInt8},(42:UInt8)∉x->(42:UInt8)∉y->x++42::a=y++42::b->x=y/\a=b
 | [],[],_,_,_,_,h=>⟨rfl,(List.cons.inj h).2⟩
 | [],c::y,_,_,_,hy,h=>by
  have:=(List.cons.inj h).1
  exact absurd (this▸List.mem_cons_self) hy
 | c::x,[],_,_,hx,_,h=>by
  have:=(List.cons.inj h).1
  exact absurd (this▸List.mem_cons_self) hx
 | c::x,d::y,a,b,hx,hy,h=>by
  have ⟨h1,h2⟩:=List.cons.inj h
  have ⟨e1,e2⟩:=adN (fun hh=>hx (jk _ hh)) (fun hh=>hy (jk _ hh)) h2
  exact⟨by rw[h1,e1],e2⟩
theorem ab0 {n:Int}(h:0<=n):(42:UInt8)∉Lib.itoa n:=fun hm=>absurd (abZ h _ hm).1 tA3
theorem YA {a b:ByteArray}(h:a.data.toList=b.data.toList):a=b:=Go.WideShapes.bytes_inj h
theorem ajL {t u:ay}(ht:vY t)(hu:vY u)(h:pz t=pz u):t.f0=u.f0/\max t.f1 (-t.f1)=max u.f1 (-u.f1):=by
 have acf:∀(x y:ay),vY x->max x.f1 (-x.f1)=1->¬ max y.f1 (-y.f1)=1->pz x=pz y->False:=fun x y hx h1 h2 e=>by
  unfold pz at e
  rw[if_pos h1,if_neg h2]at e
  exact(Up hx.1).2 (by rw[e];simp)
 by_cases h1:max t.f1 (-t.f1)=1<;>by_cases h2:max u.f1 (-u.f1)=1
 ·unfold pz at h
  rw[if_pos h1,if_pos h2]at h
  exact⟨YA h,by rw[h1,h2]⟩
 ·exact(acf t u ht h1 h2 h).elim
 ·exact(acf u t hu h2 h1 h.symm).elim
 ·unfold pz at h
  rw[if_neg h1,if_neg h2]at h
  obtain⟨e1,e2⟩:=adN (ab0 tA0) (ab0 tA0) h
  exact⟨YA e2,apf e1⟩
def Blank (l:List UInt8):Prop:=l=[]\/∃r,l=32::r
theorem adO:∀{x y a b:List UInt8},(32:UInt8)∉x->(32:UInt8)∉y->Blank a->Blank b->x++a=y++b->x=y/\a=b
 | [],[],_,_,_,_,_,_,h=>⟨rfl,h⟩
 | [],c::y,a,b,_,hy,ha,_,h=>by
  rcases ha with rfl|⟨r,rfl⟩
  ·simp at h
  ·have:=(List.cons.inj h).1
   exact absurd (this▸List.mem_cons_self) hy
 | c::x,[],a,b,hx,_,_,hb,h=>by
  rcases hb with rfl|⟨r,rfl⟩
  ·simp at h
  ·have:=(List.cons.inj h).1
   exact absurd (this▸List.mem_cons_self) hx
 | c::x,d::y,a,b,hx,hy,ha,hb,h=>by
  have ⟨h1,h2⟩:=List.cons.inj h
  have ⟨e1,e2⟩:=adO (fun hh=>hx (jk _ hh)) (fun hh=>hy (jk _ hh)) ha hb h2
  exact⟨by rw[h1,e1],e2⟩
def yi (l:List ay):List UInt8:=((l.map ja).map (·.data.toList)).flatten
theorem B2 (t:ay)(l:List ay):yi (t::l)=32::Ar t.f1::32::(pz t++yi l):=by
 unfold yi
 rw[List.map_cons,List.map_cons,List.flatten_cons,as3]
 rfl
theorem ZB:∀l:List ay,Blank (yi l)
 | []=> .inl rfl
 | t::l=> .inr ⟨_,B2 t l⟩
theorem asc {m n:Int}(hm:m≠0)(hn:n≠0)(ha:max m (-m)=max n (-n))(hs:Ar m=Ar n):m=n:=by
 unfold Ar at hs
 by_cases h1:m<0<;>by_cases h2:n<0
 ·omega
 ·rw[if_pos h1,if_neg h2]at hs;exact absurd hs tA3
 ·rw[if_neg h1,if_pos h2]at hs;exact absurd hs tA3
 ·omega
theorem ZE:∀{a b:List ay},(∀t∈a,vY t)->(∀t∈b,vY t)->yi a=yi b->a=b
 | [],[],_,_,_=>rfl
 | [],u::b,_,_,h=>by rw[B2]at h;cases h
 | t::a,[],_,_,h=>by rw[B2]at h;cases h
 | t::a,u::b,ha,hb,h=>by
  rw[B2,B2]at h
  simp only[List.cons.injEq,true_and]at h
  obtain⟨hs,h⟩:=h
  have ht:=ha t tA2
  have hu:=hb u tA2
  obtain⟨e1,e2⟩:=adO (Yx ht) (Yx hu) (ZB a) (ZB b) h
  obtain⟨n1,n2⟩:=ajL ht hu e1
  have n3:=asc ht.2.1 hu.2.1 n2 hs
  have e3:=ZE (fun x hx=>ha x (jk _ hx)) (fun x hx=>hb x (jk _ hx)) e2
  rw[e3]
  cases t;cases u
  simp only at n1 n3
  rw[n1,n3]
theorem NH (l:List ay):(lM l).data.toList=if l=[]then [32,43,32,48]else yi l:=by
 unfold lM NK
 show(Lib.join _ []).toArray.toList=_
 rw[Uc]
 by_cases h:l=[]
 ·rw[if_pos h,if_pos h]
  kernel_rfl
 ·rw[if_neg h,if_neg h]
  rfl
theorem UB {l:List ay}(h:∀t∈l,vY t):∃s b r,(lM l).data.toList=32::s::32::b::r/\(s=43\/s=45)/\48<=b.toNat:=by
 rw[NH]
 cases l with
 | nil=>exact⟨43,48,[],rfl,.inl rfl,tA3⟩
 | cons t l=>
  rw[if_neg tA2,B2]
  obtain⟨b,r,e,hb⟩:=Yw (h t tA2)
  refine⟨Ar t.f1,b,r++yi l,by rw[e];rfl,?_,hb⟩
  unfold Ar
  split
  ·exact .inr rfl
  ·exact .inl rfl
theorem aah (o:ByteArray)(s c:UInt8)(r:List UInt8)(h:o.data.toList=32::s::32::r):i7 o ⟨#[32,c,32]⟩=decide (s=c):=by
 have hz:o.size=r.length+3:=by
  have:o.data.toList.length=o.size:=tBl
  rw[<- this,h]
  rfl
 unfold i7
 have h1:(⟨#[32,c,32]⟩:ByteArray).size=3:=rfl
 rw[h1,bn (by omega:3<=o.size),Bool.true_and]
 have h2:(o.extract 0 3).toList=[32,s,32]:=by
  rw[ByteArray.toList_eq,ByteArray.data_extract,Array.toList_extract,h]
  rfl
 have h3:(⟨#[32,c,32]⟩:ByteArray).toList=[32,c,32]:=tCy
 rw[h2,h3]
 by_cases e:s=c
 ·rw[e,bn rfl]
  simp
 ·rw[cE e]
  simp[e]
theorem Si (o:ByteArray)(s:UInt8)(r:List UInt8)(h:o.data.toList=32::s::32::r)(hs:s=43\/s=45):(zH o).data.toList=if s=43 then r else 45::r:=by
 have hz:o.size=r.length+3:=by
  have:o.data.toList.length=o.size:=tBl
  rw[<- this,h]
  rfl
 have hx:(o.extract 3 o.size).data.toList=r:=by
  rw[ByteArray.data_extract,Array.toList_extract,h,hz]
  simp
 unfold zH rE tP
 rw[aah o s 43 r h,aah o s 45 r h]
 rcases hs with rfl|rfl
 ·rw[if_pos tA3,if_pos rfl]
  exact hx
 ·rw[if_neg tA3,if_pos tA3,if_neg tA3,Ff,hx]
  rfl
def r5 (k:List ay):Prop:=k.length<=1000/\∀t∈k,vY t
theorem ab5 {a b:List ay}(ha:r5 a)(hb:r5 b)(h:jl a=jl b):a=b:=by
 obtain⟨s,c,r,e1,hs,hc⟩:=UB ha.2
 obtain⟨s',c',r',Zb,hs',hc'⟩:=UB hb.2
 have f1:=Si (lM a) s (c::r) e1 hs
 have f2:=Si (lM b) s' (c'::r') Zb hs'
 have h1:(zH (lM a)).data.toList=(zH (lM b)).data.toList:=congrArg (fun x=>x.data.toList) h
 rw[f1,f2]at h1
 have ho:(lM a).data.toList=(lM b).data.toList:=by
  rw[e1,Zb]
  rcases hs with rfl|rfl<;>rcases hs' with rfl|rfl
  ·rw[if_pos rfl,if_pos rfl]at h1
   rw[h1]
  ·rw[if_pos rfl,if_neg tA3]at h1
   rw[(List.cons.inj h1).1]at hc
   exact absurd hc tA3
  ·rw[if_neg tA3,if_pos rfl]at h1
   rw[<- (List.cons.inj h1).1]at hc'
   exact absurd hc' tA3
  ·rw[if_neg tA3,if_neg tA3]at h1
   rw[(List.cons.inj h1).2]
 rw[NH,NH]at ho
 have qD:∀(t:ay) (l:List ay),vY t->[32,43,32,48]=yi (t::l)->False:=fun t l ht e=>by
  rw[B2]at e
  simp only[List.cons.injEq,true_and]at e
  obtain⟨e1,e2⟩:=e
  have:=congrArg List.length e2
  have hb2:pz t=[48]:=by
   obtain⟨b,r,j0,hb⟩:=Yw ht
   rw[j0]at e2 ⊢
   simp only[List.cons_append,List.cons.injEq]at e2
   have:r=[]:=by
    cases r with
    | nil=>rfl
    | cons x y=>simp at e2
   rw[<- e2.1,this]
  unfold pz at hb2
  split at hb2
  ·obtain⟨b,r,j0,hb⟩:=acx ht.1
   rw[j0]at hb2
   rw[(List.cons.inj hb2).1]at hb
   exact absurd hb tA3
  ·have:(42:UInt8)∈[(48:UInt8)]:=by rw[<- hb2];simp
   exact absurd this tA3
 cases a with
 | nil=>
  cases b with
  | nil=>rfl
  | cons t b=>
   rw[if_pos rfl,if_neg tA2]at ho
   exact(qD t b (hb.2 t tA2) ho).elim
 | cons t a=>
  cases b with
  | nil=>
   rw[if_pos rfl,if_neg tA2]at ho
   exact(qD t a (ha.2 t tA2) ho.symm).elim
  | cons u b=>
   rw[if_neg tA2,if_neg tA2]at ho
   exact ZE ha.2 hb.2 ho
theorem Jy {k:List ay}(h:r5 k):(jl k).size<=maxLen:=by
 have h1:(lM k).data.toList.length<=126 * k.length+4:=by
  rw[NH]
  split
  ·simp
  ·have:=Ud k (fun t ht=>by have:=CR (h.2 t ht).1;omega) (fun t ht=>(h.2 t ht).2.2)
   rw[Uc]at this
   exact bj this tA0
 obtain⟨s,c,r,e1,hs,hc⟩:=UB h.2
 have f1:=Si (lM k) s (c::r) e1 hs
 have h2:(jl k).data.toList.length<=126 * k.length+4:=by
  unfold jl
  rw[f1]
  rw[e1]at h1
  simp only[i6]at h1
  split<;>simp only[i6]<;>omega
 have h3:(jl k).data.toList.length=(jl k).size:=tBl
 have:=h.1
 unfold maxLen
 omega
end Go.Proofs.YtjgakaembhmhpaaGreatDoor.PA
namespace Go.Proofs
open Go.Shelf
def Tryz.ab8:Go.Shelf.Ren:=⟨fun|7=>127|10=>174|n=>n,fun|23=>100|26=>9|3=>3|28=>156|0=>0|27=>155|33=>84|4=>4|n=>n,fun|n=>n⟩
theorem Tryz.ab7:Go.Proofs.SlLaysZ.n7 Tryz.prog Tryz.ab8:={
 mixed:=by kernel_rfl
 f7:=⟨Tryz.f127.name,by decide,Tryz.func127.trans (congrArg some (by kernel_rfl))⟩
 f10:=⟨Tryz.f174.name,by decide,Tryz.func174.trans (congrArg some (by kernel_rfl))⟩
 t0:=Tryz.underlying0
 a0:=Tryz.isAgg0
 z0:=Tryz.sizeOf0
 v0:=Tryz.zeroValue0
 t4:=Tryz.underlying4
 a4:=Tryz.isAgg4
 z4:=Tryz.sizeOf4
 v4:=Tryz.zeroValue4
 t23:=Tryz.underlying100
 a23:=Tryz.isAgg100
 z23:=Tryz.sizeOf100
 v23:=Tryz.zeroValue100
 t26:=Tryz.underlying9
 a26:=Tryz.isAgg9
 z26:=Tryz.sizeOf9
 v26:=Tryz.zeroValue9
 t27:=Tryz.underlying155
 a27:=Tryz.isAgg155
 z27:=Tryz.sizeOf155
 v27:=Tryz.zeroValue155
 t28:=Tryz.underlying156
 a28:=Tryz.isAgg156
 z28:=Tryz.sizeOf156
 v28:=Tryz.zeroValue156
 t33:=Tryz.underlying84
 a33:=Tryz.isAgg84
 z33:=Tryz.sizeOf84
 v33:=Tryz.zeroValue84}
def Tryz.adM:Go.Shelf.Ren:=⟨fun|6=>126|8=>172|9=>173|11=>204|13=>123|12=>205|23=>169|24=>170|14=>217|15=>218|16=>219|17=>220|18=>221|19=>222|20=>223|21=>224|22=>225|25=>232|26=>200|27=>201|28=>233|29=>234|30=>235|31=>241|n=>n,fun|26=>9|28=>156|24=>37|0=>0|3=>3|37=>137|48=>172|50=>175|4=>4|40=>186|39=>185|45=>129|5=>5|9=>9|51=>214|55=>218|57=>226|58=>227|33=>84|n=>n,fun|n=>n⟩
theorem Tryz.asq:Go.Proofs.SlLaysZ.n6 Tryz.prog Tryz.adM:={
 mixed:=by kernel_rfl
 f6:=⟨Tryz.f126.name,by decide,Tryz.func126.trans (congrArg some (by kernel_rfl))⟩
 f8:=⟨Tryz.f172.name,by decide,Tryz.func172.trans (congrArg some (by kernel_rfl))⟩
 f11:=⟨Tryz.f204.name,by decide,Tryz.func204.trans (congrArg some (by kernel_rfl))⟩
 t0:=Tryz.underlying0
 a0:=Tryz.isAgg0
 z0:=Tryz.sizeOf0
 v0:=Tryz.zeroValue0
 t24:=Tryz.underlying37
 a24:=Tryz.isAgg37
 z24:=Tryz.sizeOf37
 v24:=Tryz.zeroValue37
 t26:=Tryz.underlying9
 a26:=Tryz.isAgg9
 z26:=Tryz.sizeOf9
 v26:=Tryz.zeroValue9
 t28:=Tryz.underlying156
 a28:=Tryz.isAgg156
 z28:=Tryz.sizeOf156
 v28:=Tryz.zeroValue156
 i26:=by kernel_rfl}
def Tryz.asp:Go.Shelf.Ren:=⟨fun|6=>173|8=>123|9=>205|19=>169|20=>170|21=>217|22=>218|23=>219|24=>220|25=>221|26=>222|27=>223|28=>224|29=>225|36=>232|31=>200|32=>201|37=>233|38=>234|39=>235|41=>241|n=>n,fun|27=>37|29=>9|3=>3|32=>137|26=>37|0=>0|44=>172|46=>175|4=>4|36=>186|35=>185|41=>129|5=>5|9=>9|53=>214|57=>218|63=>226|64=>227|n=>n,fun|n=>n⟩
theorem Tryz.adJ:Go.Proofs.SlLaysM.n6 Tryz.prog Tryz.asp:={
 mixed:=by kernel_rfl
 f6:=⟨Tryz.f173.name,by decide,Tryz.func173.trans (congrArg some (by kernel_rfl))⟩
 f8:=Tryz.func123.trans (congrArg some (by kernel_rfl))
 f9:=⟨Tryz.f205.name,by decide,Tryz.func205.trans (congrArg some (by kernel_rfl))⟩
 f19:=Tryz.func169.trans (congrArg some (by kernel_rfl))
 f20:=Tryz.func170.trans (congrArg some (by kernel_rfl))
 f21:=⟨Tryz.f217.name,by decide,Tryz.func217.trans (congrArg some (by kernel_rfl))⟩
 f22:=⟨Tryz.f218.name,by decide,Tryz.func218.trans (congrArg some (by kernel_rfl))⟩
 f23:=⟨Tryz.f219.name,by decide,Tryz.func219.trans (congrArg some (by kernel_rfl))⟩
 f24:=⟨Tryz.f220.name,by decide,Tryz.func220.trans (congrArg some (by kernel_rfl))⟩
 f25:=⟨Tryz.f221.name,by decide,Tryz.func221.trans (congrArg some (by kernel_rfl))⟩
 f26:=⟨Tryz.f222.name,by decide,Tryz.func222.trans (congrArg some (by kernel_rfl))⟩
 f27:=⟨Tryz.f223.name,by decide,Tryz.func223.trans (congrArg some (by kernel_rfl))⟩
 f28:=⟨Tryz.f224.name,by decide,Tryz.func224.trans (congrArg some (by kernel_rfl))⟩
 f29:=⟨Tryz.f225.name,by decide,Tryz.func225.trans (congrArg some (by kernel_rfl))⟩
 f31:=Tryz.func200.trans (congrArg some (by kernel_rfl))
 f32:=Tryz.func201.trans (congrArg some (by kernel_rfl))
 f36:=⟨Tryz.f232.name,by decide,Tryz.func232.trans (congrArg some (by kernel_rfl))⟩
 f37:=⟨Tryz.f233.name,by decide,Tryz.func233.trans (congrArg some (by kernel_rfl))⟩
 f38:=⟨Tryz.f234.name,by decide,Tryz.func234.trans (congrArg some (by kernel_rfl))⟩
 f39:=⟨Tryz.f235.name,by decide,Tryz.func235.trans (congrArg some (by kernel_rfl))⟩
 f41:=⟨Tryz.f241.name,by decide,Tryz.func241.trans (congrArg some (by kernel_rfl))⟩
 t0:=Tryz.underlying0
 a0:=Tryz.isAgg0
 z0:=Tryz.sizeOf0
 v0:=Tryz.zeroValue0
 t3:=Tryz.underlying3
 a3:=Tryz.isAgg3
 z3:=Tryz.sizeOf3
 v3:=Tryz.zeroValue3
 t4:=Tryz.underlying4
 a4:=Tryz.isAgg4
 z4:=Tryz.sizeOf4
 v4:=Tryz.zeroValue4
 t5:=Tryz.underlying5
 a5:=Tryz.isAgg5
 z5:=Tryz.sizeOf5
 v5:=Tryz.zeroValue5
 t9:=Tryz.underlying9
 a9:=Tryz.isAgg9
 z9:=Tryz.sizeOf9
 v9:=Tryz.zeroValue9
 t26:=Tryz.underlying37
 a26:=Tryz.isAgg37
 z26:=Tryz.sizeOf37
 v26:=Tryz.zeroValue37
 t27:=Tryz.underlying37
 a27:=Tryz.isAgg37
 z27:=Tryz.sizeOf37
 v27:=Tryz.zeroValue37
 t29:=Tryz.underlying9
 a29:=Tryz.isAgg9
 z29:=Tryz.sizeOf9
 v29:=Tryz.zeroValue9
 t32:=Tryz.underlying137
 a32:=Tryz.isAgg137
 z32:=Tryz.sizeOf137
 v32:=Tryz.zeroValue137
 t35:=Tryz.underlying185
 a35:=Tryz.isAgg185
 z35:=Tryz.sizeOf185
 v35:=Tryz.zeroValue185
 t36:=Tryz.underlying186
 a36:=Tryz.isAgg186
 z36:=Tryz.sizeOf186
 v36:=Tryz.zeroValue186
 t41:=Tryz.underlying129
 a41:=Tryz.isAgg129
 z41:=Tryz.sizeOf129
 v41:=Tryz.zeroValue129
 t44:=Tryz.underlying172
 a44:=Tryz.isAgg172
 z44:=Tryz.sizeOf172
 v44:=Tryz.zeroValue172
 t46:=Tryz.underlying175
 a46:=Tryz.isAgg175
 z46:=Tryz.sizeOf175
 v46:=Tryz.zeroValue175
 t53:=Tryz.underlying214
 a53:=Tryz.isAgg214
 z53:=Tryz.sizeOf214
 v53:=Tryz.zeroValue214
 t57:=Tryz.underlying218
 a57:=Tryz.isAgg218
 z57:=Tryz.sizeOf218
 v57:=Tryz.zeroValue218
 t63:=Tryz.underlying226
 a63:=Tryz.isAgg226
 z63:=Tryz.sizeOf226
 v63:=Tryz.zeroValue226
 t64:=Tryz.underlying227
 a64:=Tryz.isAgg227
 z64:=Tryz.sizeOf227
 v64:=Tryz.zeroValue227}
open Go.RowKit Go.Maps Go.Sort Go.Shelf
theorem Tryz.ast (m:Nat):AnyZ.SortsIn Tryz.prog Tryz.adM Fence.wide m:=
 ⟨fun blk off cap ss W hH hblk hsz=>callsIn_wide.2 (AnyM.slices_Sort_string Tryz.adJ blk off cap ss W hH hblk hsz),
  fun p cap W=>callsIn_wide.2 (AnyM.slices_Sort_string_none Tryz.adJ p cap W)⟩
theorem Tryz.apQ (Un:Option Nat)(W:World):CallsIn Fence.wide 5 Tryz.prog 127 #[.map Un] W fun e w'=>e= .returned (.func (.func 174) #[] #[.pointer (some ⟨W.heap.size,0,none⟩)])/\w'=W.alloc (.cells #[.map Un] 100):=
 AnyZ.keys_in Tryz.ab7 Fence.wide 5 trivial rfl Un W
theorem Tryz.asi {H:Type}(b nn:Nat)(D0:DataW H)(R:Value->Option (DataW H×List MemPlace))(w:World)(hown:w.ownsMap Tryz.prog 9 R b nn D0)(FH:Maps.size D0<=maxLen)(hbytes:Maps.size D0 * 16<=140737488355328):
  CallsIn Fence.wide 5 Tryz.prog 126 #[.func (.func 174) #[] #[.pointer (some ⟨w.heap.size,0,none⟩)]] (w.alloc (.cells #[.map (some b)] 100)) fun e w'=>∃(v:Value) (ss:List (List UInt8)),e= .returned v/\ss.Perm (strKeys D0)/\
   w'.ownsRow (w.alloc (.cells #[.map (some b)] 100)).heap.size 9 1 v ss.length ((ss.mergeSort (fun x y=>decide (x<=y))).map encStr)/\(v= .slice none 0 0↔ss=[])/\Below (w.alloc (.cells #[.map (some b)] 100)).heap.size (w.alloc (.cells #[.map (some b)] 100)) w':=by
 have hbl:=hown.lt
 have hseq:SeqGives Fence.wide 2 Tryz.prog 174 #[.pointer (some ⟨w.heap.size,0,none⟩)] encStr (fun ss=>ss.Perm (strKeys D0)) (Maps.size D0) (w.alloc (.cells #[.map (some b)] 100)):=
  AnyZ.keys_gives (ρ:=Tryz.ab8) { Tryz.ab7 with} Fence.wide _ trivial rfl (by omega) w.heap.size b nn D0 _ (by simp) (by simp) (by
   obtain⟨es,clock,hb,Ft,hs,hD⟩:=hown
   exact⟨es,clock,(Below.heap_alloc _ _ b hbl).trans hb,Ft,hs,hD⟩)
 exact AnyZ.sorted_in Tryz.asq Fence.wide 5 trivial trivial trivial trivial rfl (by omega) (Tryz.ast _) (enters_of Tryz.func173 (by kernel_rfl) rfl) 174 #[.pointer (some ⟨w.heap.size,0,none⟩)] trivial (enters_of Tryz.func174 (by kernel_rfl) rfl) _ _ FH hbytes _ hseq
end Go.Proofs
namespace Go.Proofs.YtjgakaembhmhpaaGreatDoor.PA
open Go.RowKit Go.Proofs.YtjgakaembhmhpaaGreatDoorW.PrintWords Go.Proofs.YtjgakaembhmhpaaGreatDoorW.PrintLast Go.Proofs.YtjgakaembhmhpaaGreatDoorW.PrintMore Go.Proofs.YtjgakaembhmhpaaGreatDoorM
theorem Qz {W:World}{b n:Nat}{D:DataW Unit}(h:iB W b n D)(s:ByteArray)(hs:s.size<=maxLen):(Instr.lookup 100 (.map (some b)) (.string s) false).run Tryz.prog W= .ok (.int .i64 (eP D s)) W:=by
 obtain⟨c,hrun,hat,hwc⟩:=h.lookup_int jH Tryz.underlying100 Tryz.underlying3 (Aj W) (pI hs)
 rw[hrun]
 unfold eP lW
 rw[hat]
 rfl
theorem Nx {W W':World}{b n:Nat}{D:DataW Unit}(h:iB W b n D)(e:W'.heap[b]?=W.heap[b]?):iB W' b n D:=by
 obtain⟨es,clock,h1,h2⟩:=h
 exact⟨es,clock,e.trans h1,h2⟩
def gS (D:DataW Unit):List ByteArray->List ay
 | []=>[]
 | k::r=>if k=⟨#[]⟩then gS D r else if eP D k=0 then gS D r else⟨k,eP D k⟩::gS D r
theorem ad0 (D:DataW Unit)(k:ByteArray):∀l,gS D (l++[k])=if k=⟨#[]⟩then gS D l else if eP D k=0 then gS D l else gS D l++[⟨k,eP D k⟩]
 | []=>by
  simp only[List.nil_append,gS]
 | x::l=>by
  rw[List.cons_append,gS,ad0 D k l,gS]
  by_cases h1:x=⟨#[]⟩<;>by_cases h2:eP D x=0<;>by_cases h3:k=⟨#[]⟩<;>by_cases h4:eP D k=0<;>simp[h1,h2,h3,h4]
theorem adZ (D:DataW Unit):∀l,(gS D l).length<=l.length
 | []=>bl _
 | k::r=>by
  unfold gS
  have:=adZ D r
  split
  ·rw[i6];omega
  ·split
   ·rw[i6];omega
   ·rw[i6,i6];omega
def aqa (l:List UInt8):ByteArray:=⟨l.toArray⟩
def keysOf (ss:List (List UInt8)):List ByteArray:=(ss.mergeSort fun x y=>decide (x<=y)).map aqa
theorem asB {W:World}{base:Nat}{v:Value}{ss:List (List UInt8)}(h:W.ownsRow base 9 1 v ss.length ((ss.mergeSort (fun x y=>decide (x<=y))).map encStr)):∃(A:Option Addr) (c:Nat),v= .slice A (keysOf ss).length c/\Kd.F Kd.string W (fun k=>base<=k) A (keysOf ss).length (keysOf ss):=by
 have hl:(keysOf ss).length=ss.length:=by simp[keysOf]
 obtain⟨h0,h1⟩:=h
 rcases h1 with⟨rfl,e⟩|⟨g,cap,cur,rfl,h2,h3,h4,h5,h6,h7⟩
 ·have:keysOf ss=[]:=List.length_eq_zero_iff.1 tA0
  exact⟨none,0,by rw[this];rfl,by rw[this];exact Kd.V7 _ _ _⟩
 ·refine⟨some ⟨g,0,none⟩,cap,by rw[hl],fun W' hW=>⟨rfl,by rw[hl];unfold maxLen at h5;omega,fun _=>⟨_,rfl,fun j p hj=>⟨[.string p],rfl,rfl,fun i u hu=>?_⟩⟩⟩⟩
  have al1:=(hW g h2 (az h3)).trans h3
  have gQ:=(iC.1 hj).1
  cases i with
  | zero=>
   simp only[List.getElem?_cons_zero,Option.some.injEq]at hu
   subst hu
   show W'.cell? (Addr.add ⟨g,0,none⟩ (j * 1+0))=_
   rw[Nat.mul_one,Nat.add_zero,add_plain,mj al1 j,<- Array.getElem?_toList,<- jC (show j<ss.length * 1 by omega),h7]
   unfold keysOf at hj
   rw[List.getElem?_map]at hj ⊢
   obtain⟨x,hx,rfl⟩:=Option.map_eq_some_iff.1 hj
   rw[hx]
   rfl
  | succ i=>simp at hu
theorem asz {b n:Nat}{D:DataW Unit}{W:World}(hm:iB W b n D):(strKeys D).length=Maps.size D:=by
 obtain⟨es,rfl,_⟩:=hm.keysOf
 simp[strKeys,Maps.size]
theorem aps (b:Nat)(W1:World):Calls Tryz.prog 127 #[.map (some b)] W1 fun e w'=>e= .returned (.func (.func 174) #[] #[.pointer (some ⟨W1.heap.size,0,none⟩)])/\w'=W1.alloc (.cells #[.map (some b)] 100):=
 callsIn_wide.1 (Tryz.apQ (some b) W1)
theorem asr {b n:Nat}{D:DataW Unit}{W:World}(hm:iB W b n D)(FH:Maps.size D<=100000):
  Calls Tryz.prog 126 #[.func (.func 174) #[] #[.pointer (some ⟨W.heap.size,0,none⟩)]] (W.alloc (.cells #[.map (some b)] 100)) fun e w'=>∃(A:Option Addr) (c:Nat) (ss:List (List UInt8)),e= .returned (.slice A (keysOf ss).length c)/\af (ss.Perm (strKeys D))/\af (Kd.F Kd.string w' (fun k=>W.heap.size+1<=k) A (keysOf ss).length (keysOf ss))/\af (Below (W.alloc (.cells #[.map (some b)] 100)).heap.size (W.alloc (.cells #[.map (some b)] 100)) w'):=by
 have h:Calls Tryz.prog 126 _ _ _:=callsIn_wide.1 (Tryz.asi (H:=Unit) b n D (plainElem Tryz.prog 3) W hm tAw tA0)
 refine h.mono fun e w' ⟨v,ss,he,hp,hrow,hnil,hb⟩=>?_
 rw[show(W.alloc (.cells #[.map (some b)] 100)).heap.size=W.heap.size+1 by simp]at hrow
 obtain⟨A,c,rfl,hC⟩:=asB hrow
 exact⟨A,c,ss,he,⟨hp⟩,⟨hC⟩,⟨hb⟩⟩
theorem aqH {b n:Nat}{D:DataW Unit}{W:World}(hm:iB W b n D)(FH:Maps.size D<=100000)(hk:∀k∈strKeys D,k.length<=maxLen):
  Calls Tryz.prog 70 #[.map (some b)] W fun e w'=>∃(v:Value) (ss:List (List UInt8)) (R:Nat->Prop),e= .returned (.agg #[.int .i64 (eP D ⟨#[]⟩),v])/\ss.Perm (strKeys D)/\af (Kd.N cf 79 w' W.heap.size R v (gS D (keysOf ss)))/\af (∀k,R k->W.heap.size<=k)/\af (Below W.heap.size W w'):=by
 have dC:=ae hm
 have HK:=ae hk
 have agW:af ((strKeys D).length<=100000):=⟨by rw[asz hm];exact FH⟩
 have hl0:=Qz (show iB (W.alloc (.cells #[.int .i64 0,.slice none 0 0] 33)) b n D from sN hm (ax (Below.refl _ _) _)) ⟨#[]⟩ tA3
 have hbl:=hm.lt
 obtain⟨bf,xj⟩:∃c,af (eP D ⟨#[]⟩=c):=⟨_,⟨rfl⟩⟩
 rw[xj.o]at hl0
 rw[xj.o]
 have bI:=ae (ax (ax (Below.refl W.heap.size W) (.cells #[.int .i64 0,.slice none 0 0] 33)) (.cells #[.int .i64 bf,.slice none 0 0] 33))
 have TK:=asr (sN hm bI.o) FH
 rw[show((W.alloc (.cells #[.int .i64 0,.slice none 0 0] 33)).alloc (.cells #[.int .i64 bf,.slice none 0 0] 33)).heap.size=W.heap.size+1+1 by simp]at TK
 have Eg:=ae TK
 have cq:=ae (aH (a8 W (.cells #[.int .i64 0,.slice none 0 0] 33)) (.cells #[.int .i64 bf,.slice none 0 0] 33))
 have eC:af (((W.alloc (.cells #[.int .i64 0,.slice none 0 0] 33)).alloc (.cells #[.int .i64 bf,.slice none 0 0] 33)).heap[W.heap.size+1]?=some (.cells #[.int .i64 bf,.slice none 0 0] 33 (0,0))):=⟨by have:=a8 (W.alloc (.cells #[.int .i64 0,.slice none 0 0] 33)) (.cells #[.int .i64 bf,.slice none 0 0] 33);simpa using this⟩
 have Wi:=ae (ax (Below.refl _ ((W.alloc (.cells #[.int .i64 0,.slice none 0 0] 33)).alloc (.cells #[.int .i64 bf,.slice none 0 0] 33))) (.cells #[.map (some b)] 100))
 clear hm hk TK
 go_enter Tryz.func70,Tryz.ntmps70
 go_wp2_with (first|(go_at_call 127;refine(aps b _).mono ?_;rintro e w2 ⟨rfl,rfl⟩)|(go_at_call 126;refine Eg.o.mono ?_;rintro e w3 ⟨atn,at5,ss,rfl,ig,G4,hb3⟩;have xf:=ae (au Wi.o hb3.o);clear Eg hb3))
 have Ei:=ae (av cq.o xf.o)
 have Ek:=ae (av eC.o xf.o)
 have bS:=ae (au bI.o xf.o)
 have Hn:=ae (sN dC.o bS.o)
 have zU:=Kd.OH (Kd.gY G4.o)
 have KN:af (∀k∈keysOf ss,k.size<=maxLen):=⟨fun k hk=>by
  unfold keysOf at hk
  obtain⟨x,hx,rfl⟩:=List.mem_map.1 hk
  have h1:=HK.o x (ig.o.mem_iff.1 ((List.mergeSort_perm ss _).mem_iff.1 hx))
  show x.toArray.size<=maxLen
  simpa using h1⟩
 have anE:af ((keysOf ss).length<=100000):=⟨by
  have h1:(keysOf ss).length=ss.length:=by simp[keysOf]
  rw[h1,ig.o.length_eq]
  exact agW.o⟩
 clear cq eC bI Wi xf
 generalize aa2:keysOf ss=ks at *
 have er:=ae aa2
 clear aa2
 go_loopg [5,13,24] ks.length (fun bL _ yL _ wr=>∃(jj:Nat) (R:Nat->Prop) (u:Value),jj<=ks.length/\ks.length-jj<=bL/\yL= .int .i64 jj/\af (Kd.N cf 79 wr W.heap.size R u (gS D (ks.take jj)))/\af (∀k,R k->w3.heap.size<=k)/\af (wr.heap[W.heap.size+1]?=some (.cells #[.int .i64 bf,u] 33 (0,0)))/\af (Kept w3 wr (fun k=>k=W.heap.size+1))/\af (Below W.heap.size W wr))
 case atStart=>exact⟨0,fun _=>False,.slice none 0 0,Nat.zero_le _,tA0,rfl,⟨Kd.i1 _ _ _ _ _⟩,⟨fun k hk=>hk.elim⟩,Ek,⟨Kept.refl _ _⟩,bS⟩
 case round=>
  obtain⟨jj,R,u,yt,hg,rfl,bm,bT,cv,iz,bA⟩:=hrel
  obtain⟨DT,E3,rfl⟩:=Kd.c3 bm.o
  by_cases hlt:jj<ks.length
  ·have cp:(jj:Int)< (ks.length:Int):=by omega
   obtain⟨ad,e,hx0⟩:=Kd.EM (Kd.gY (Kd.l4 G4.o iz.o (fun k hk e=>tA0))) (jj:Int) tA0 tA0
   cases e
   simp only[eQ]at hx0
   have hy:gg ByteArray.empty ks (jj:Int)=ks[jj]:=by simp[gg,List.getD,b8 hlt]
   have dQ:=ae (KN.o (gg ByteArray.empty ks (jj:Int)) tB0)
   have vR:af (gS D (ks.take (jj+1))=if gg ByteArray.empty ks (jj:Int)=⟨#[]⟩then gS D (ks.take jj)else if eP D (gg ByteArray.empty ks (jj:Int))=0 then gS D (ks.take jj)else gS D (ks.take jj)++[⟨gg ByteArray.empty ks (jj:Int),eP D (gg ByteArray.empty ks (jj:Int))⟩]):=⟨by rw[hy,kr hlt,ad0]⟩
   have zb:af ((gS D (ks.take jj)).length<=jj):=⟨bj (adZ D _) tAg⟩
   clear hy
   generalize gg ByteArray.empty ks (jj:Int)=y at *
   have hlk:=Qz (Nx Hn.o (iz.o.2 b (by have:=bS.o.size;omega) tA0)) y dQ.o
   obtain⟨q,dK⟩:∃q,af (eP D y=q):=⟨_,⟨rfl⟩⟩
   rw[dK.o]at hlk vR
   generalize gS D (ks.take jj)=ys at *
   have x3:wr.cell? ⟨W.heap.size+1,0,none⟩=some (.int .i64 bf):=ah cv.o 0
   have uf:wr.cell? ⟨W.heap.size+1,1,none⟩=some (.slice DT ys.length E3):=ah cv.o 1
   have f4:=ar cv.o 1
   have sJ:=az cv.o
   by_cases he:y=⟨#[]⟩
   ·have e9:af (gS D (ks.take (jj+1))=ys):=⟨by rw[vR.o,if_pos he]⟩
    subst he
    go_wp2
    go_roundg (ks.length- (jj+1))
    case measure=>omega
    case rel=>exact⟨jj+1,R,_,tA0,tA0,tA7,⟨by rw[e9.o];exact bm.o⟩,bT,cv,iz,bA⟩
   ·have aw6:y.toList.isEmpty=false:=by
     rw[List.isEmpty_eq_false_iff]
     exact fun e=>he (by
      rw[ByteArray.toList_eq]at e
      cases y
      simp only at e
      rw[Array.toList_eq_nil_iff.1 e])
    rw[if_neg he]at vR
    by_cases hq:q=0
    ·have e9:af (gS D (ks.take (jj+1))=ys):=⟨by rw[vR.o,if_pos hq]⟩
     clear vR
     subst hq
     go_wp2
     go_roundg (ks.length- (jj+1))
     case measure=>omega
     case rel=>exact⟨jj+1,R,_,tA0,tA0,tA7,⟨by rw[e9.o];exact bm.o⟩,bT,cv,iz,bA⟩
    ·have e9:af (gS D (ks.take (jj+1))=ys++[⟨y,q⟩]):=⟨by rw[vR.o,if_neg hq]⟩
     have aof:(q !=0)=true:=bne_iff_ne.2 hq
     clear vR
     have Bi:af ((ys.length+1) * 24<=140737488355328):=⟨by have:=zb.o;have:=anE.o;omega⟩
     go_wp2_with (at_builtin;refine Kd.oF cf W.heap.size rfl (.tmp 26) (.tmp 32) 31 79 (.agg #[.string ⟨#[]⟩,.int .i64 0]) 24 rfl Tryz.underlying31 Ac rfl tA3 tA3 (.slice DT ys.length E3) ys ⟨y,q⟩ [.string y,.int .i64 q] (fun k=>R k\/wr.heap.size<=k) (fun _=>False) rfl rfl (yh _ _ _) (fun _ h=>h.elim) (fun _ h=> .inr h) (Kd.et bm.o (fun _ h=> .inl h)) bA.o bA.o.size Bi.o ?_;intro v6 aY cd cG dI fh;obtain⟨dn,c6,rfl⟩:=Kd.c3 cd;have dr:=ae cd;have cP:=ae cG;have xn:=ae dI;have eR:=gf cv.o dI (fun e=>by have h1:=bT.o _ (bm.o.1 _ e.symm);have h2:=bS.o.size;have h3:=iz.o.1;have h4:=az Ek.o;omega);have hE:=ae eR;have AJ:aY.cell? ⟨W.heap.size+1,1,none⟩=some (.slice DT ys.length E3):=(mj eR 1).trans rfl;have f6:=ar eR 1;have vu:=az eR;clear cd cG dI fh eR)
     have abj:=Kd.cw (p:=⟨W.heap.size+1,1,none⟩) dr.o (fun k hk=>hk.elim (fun h=>by have h1:=bT.o _ h;have h4:=az Ek.o;show k≠W.heap.size+1;omega) (fun h=>by have h4:=az cv.o;show k≠W.heap.size+1;omega)) (.slice dn (ys.length+1) c6)
     rw[show(ys++[(⟨y,q⟩:ay)]).length=ys.length+1 by simp]at abj
     go_roundg (ks.length- (jj+1))
     case measure=>omega
     case rel=>exact⟨jj+1,fun k=>R k\/wr.heap.size<=k,.slice dn (ys.length+1) c6,tA0,tA0,tA7,⟨by rw[e9.o];exact abj⟩,⟨fun k hk=>hk.elim (bT.o k) (fun h=>bj iz.o.1 h)⟩,⟨a6 hE.o 1 _ rfl⟩,⟨fN (p:=⟨W.heap.size+1,1,none⟩) (Kept.Al xn.o iz.o (fun k hk=> .inr (bT.o _ (bm.o.1 _ hk)))) (.inl rfl) _⟩,⟨cP.o.setCell (p:=⟨W.heap.size+1,1,none⟩) (Nat.le_succ _) _⟩⟩
  ·have cp:¬ (jj:Int)< (ks.length:Int):=by omega
   have mG:jj=ks.length:=tA0
   subst mG
   have x3:wr.cell? ⟨W.heap.size+1,0,none⟩=some (.int .i64 bf):=ah cv.o 0
   have uf:wr.cell? ⟨W.heap.size+1,1,none⟩=some (.slice DT (gS D (ks.take ks.length)).length E3):=ah cv.o 1
   have vQ:af (ks.take ks.length=ks):=⟨fJ⟩
   rw[vQ.o]at uf
   have b2:=iD Ei.o iz.o (fun e=>tA0)
   have f2:=ar b2 0
   have f3:=ar b2 1
   have x1:wr.cell? ⟨W.heap.size,0,none⟩=some (.int .i64 0):=ah b2 0
   have x2:wr.cell? ⟨W.heap.size,1,none⟩=some (.slice none 0 0):=ah b2 1
   have l2:=az b2
   have hne:¬ W.heap.size+1=W.heap.size:=tA0
   go_wp2
   have q1:=a6 (a6 b2 0 (.int .i64 bf) rfl) 1 (.slice DT (gS D ks).length E3) rfl
   refine bodyPost_ret (results_cell_row rfl _ _ W.heap.size 33 #[.int .i64 bf,.slice DT (gS D ks).length E3] (0,0) _ rfl q1 Tryz.underlying33 rfl tA1) rfl ?_
   have hn:=bm.o
   rw[vQ.o]at hn
   have hR:∀k,R k->k≠W.heap.size:=fun k hk=>by
    have h1:=bT.o k hk
    have h4:=az Ek.o
    omega
   refine⟨_,rfl,ss,ig.o,R,⟨?_⟩,⟨fun k hk=>bj bS.o.size (bT.o k hk)⟩,⟨(bA.o.setCell (p:=⟨W.heap.size,0,none⟩) (bl _) _).setCell (p:=⟨W.heap.size,1,none⟩) (bl _) _⟩⟩
   rw[er.o]
   exact Kd.cw (p:=⟨W.heap.size,1,none⟩) (Kd.cw (p:=⟨W.heap.size,0,none⟩) hn hR _) hR _
def pf (f:aj)(s:ByteArray):Int:=if s=⟨#[]⟩then f.f0 else bu f.f1 s
def eX (W:World)(b N:Nat)(g:ByteArray->Int):Prop:=∃n D,n<=N/\iB W b n D/\∀s,s.size<=maxLen->eP D s=g s
section
variable {W W':World}{b N N':Nat}{g g':ByteArray->Int}
theorem eX.lt (h:eX W b N g):b<W.heap.size:=by
 obtain⟨n,D,_,hm,_⟩:=h
 exact hm.lt
theorem eX.same (h:eX W b N g)(e:W'.heap[b]?=W.heap[b]?):eX W' b N g:=by
 obtain⟨n,D,h1,h2,h3⟩:=h
 exact⟨n,D,h1,Nx h2 e,h3⟩
theorem eX.below (h:eX W b N g)(hb:Below W.heap.size W W'):eX W' b N g:=by
 obtain⟨n,D,h1,h2,h3⟩:=h
 exact⟨n,D,h1,sN h2 hb,h3⟩
theorem eX.congr (h:eX W b N g)(e:∀s,s.size<=maxLen->g s=g' s):eX W b N g':=by
 obtain⟨n,D,h1,h2,h3⟩:=h
 exact⟨n,D,h1,h2,fun s hs=>(h3 s hs).trans (e s hs)⟩
theorem eX.mono (h:eX W b N g)(hn:N<=N'):eX W b N' g:=by
 obtain⟨n,D,h1,h2,h3⟩:=h
 exact⟨n,D,tA0,h2,h3⟩
theorem eX.look (h:eX W b N g)(s:ByteArray)(hs:s.size<=maxLen):(Instr.lookup 100 (.map (some b)) (.string s) false).run Tryz.prog W= .ok (.int .i64 (g s)) W:=by
 obtain⟨n,D,h1,h2,h3⟩:=h
 rw[<- h3 s hs]
 exact Qz h2 s hs
end
theorem iB.wf {W:World}{b n:Nat}{D:DataW Unit}(h:iB W b n D)(s:ByteArray)(hs:s.size<=maxLen):(Lit.int .i64 (eP D s)).wf=true:=by
 obtain⟨c,hrun,hat,hwc⟩:=h.lookup_int jH Tryz.underlying100 Tryz.underlying3 (Aj W) (pI hs)
 unfold eP lW
 rw[hat]
 exact hwc
theorem DI {n:Int}(h: -9223372036854775808<=n/\n<=9223372036854775807):(Lit.int .i64 n).wf=true:=by
 simpa[Lit.wf,IntKind.min,IntKind.max,IntKind.signed,IntKind.bits]using h
def zT (s:ByteArray)(k:Lit):Int:=if k.sameKey (cY s)then 1 else 0
theorem Tf (s t:ByteArray):zT s (cY t)=if t=s then 1 else 0:=by
 unfold zT
 by_cases e:t=s
 ·subst e
  rw[if_pos (WideAt.sameKey_self (isKey t)),if_pos rfl]
 ·rw[if_neg e,if_neg]
  exact fun h=>e (Ad (WideAt.sameKey_eq h))
theorem apM {D:DataW Unit}(h:tr D)(s:ByteArray):tO D (zT s)=eP D s:=by
 rw[Um h (zT s) (cY s),Tf,if_pos rfl,Ub (fun p _=>by
  unfold zT
  cases p.1.sameKey (cY s)<;>simp)]
 show eP D s * 1+0=_
 omega
theorem aeb (s:ByteArray):∀l:List ay,qJ (zT s) l=gu l s
 | []=>rfl
 | t::l=>by
  rw[qJ,gu,Tf,aeb s l]
  by_cases e:t.f0=s
  ·rw[if_pos e,if_pos e,Int.mul_one]
  ·rw[if_neg e,if_neg e,Int.mul_zero]
structure Canon (f:aj):Prop where
 up:fI f.f1
 qD:∀t∈f.f1,t.f1≠0
 nm:∀t∈f.f1,t.f0≠⟨#[]⟩/\t.f0.size<=100
theorem aqE {f:aj}(hc:Canon f)(s:ByteArray):f.f0 * zT s (cY ⟨#[]⟩)+gu f.f1 s=pf f s:=by
 unfold pf
 rw[Tf]
 by_cases e:s=⟨#[]⟩
 ·subst e
  rw[if_pos rfl,if_pos rfl,N4 _ _ (fun t ht=>(hc.nm t ht).1)]
  omega
 ·rw[if_neg (Ne.symm e),if_neg e,wS s hc.up]
  omega
theorem aqI {D:DataW Unit}(hD:tr D){f:aj}(hc:Canon f)(h:vW D f.f0 f.f1)(s:ByteArray):wrap64 (eP D s)=wrap64 (pf f s):=by
 have:=h (zT s)
 rwa[apM hD,aeb,aqE hc]at this
theorem acW {f:aj}{B:Nat}(h0:f.f0.natAbs<=B)(h1:fR B f.f1)(s:ByteArray):(pf f s).natAbs<=B:=by
 unfold pf
 split
 ·exact h0
 ·have:∀l:List ay,fR B l->(bu l s).natAbs<=B:=by
   intro l
   induction l with
   | nil=>intro _;simp[bu]
   | cons t r ih=>
    intro hb
    rw[bu]
    split
    ·exact hb t tA2
    ·exact ih (fun u hu=>hb u (jk _ hu))
  exact this _ h1
theorem as6 {a b:Int}(h:wrap64 a=wrap64 b)(ha: -9223372036854775808<=a/\a<=9223372036854775807)(hb: -9223372036854775808<=b/\b<=9223372036854775807):a=b:=by
 unfold wrap64 at h
 omega
theorem JM {A:Option Addr}{c:Nat}{f:aj}{W:World}(h:gl A c f W)(hc:Canon f)(h0:f.f0.natAbs<=1000000000000000)(h1:fR 1000000000000000 f.f1)(hl:f.f1.length<1000):
  Calls Tryz.prog 66 #[.agg #[.int .i64 f.f0,.slice A f.f1.length c]] W fun e w'=>∃b,e= .returned (.map (some b))/\W.heap.size<=b/\af (eX w' b (f.f1.length+1) (pf f))/\af (Below W.heap.size W w'):=by
 refine(acZ f.f0 f.f1 A c W h.tm (DI tA0) hl (fun t ht=>by have:=h.n2 t ht;unfold maxLen;omega)).mono fun e w' ⟨b,D,he,hb,hm,hp,hB⟩=>⟨b,he,hb,⟨_,D,bl _,hm,fun s hs=>?_⟩,⟨hB⟩⟩
 refine as6 (aqI (sO hm) hc hp.o s) (wf_i64 (hm.wf s hs)) ?_
 have:=acW h0 h1 s
 omega
theorem Gr (D:DataW Unit):∀(l:List ByteArray) (t:ay),t∈gS D l->t.f0∈l/\t.f0≠⟨#[]⟩/\t.f1=eP D t.f0/\t.f1≠0
 | [],t,h=>by simp[gS]at h
 | k::r,t,h=>by
  unfold gS at h
  split at h
  ·obtain⟨h1,h2⟩:=Gr D r t h
   exact⟨jk _ h1,h2⟩
  ·rename_i hk
   split at h
   ·obtain⟨h1,h2⟩:=Gr D r t h
    exact⟨jk _ h1,h2⟩
   ·rename_i h0
    rcases List.mem_cons.1 h with rfl|h
    ·exact⟨List.mem_cons_self,hk,rfl,h0⟩
    ·obtain⟨h1,h2⟩:=Gr D r t h
     exact⟨jk _ h1,h2⟩
theorem Oc (D:DataW Unit):∀{l:List ByteArray},l.Pairwise (fun a b=>a.data.toList<b.data.toList)->fI (gS D l)
 | [],_=>List.Pairwise.nil
 | k::r,h=>by
  obtain⟨h1,h2⟩:=List.pairwise_cons.1 h
  unfold gS
  split
  ·exact Oc D h2
  ·split
   ·exact Oc D h2
   ·exact List.pairwise_cons.2 ⟨fun t ht=>h1 _ (Gr D r t ht).1,Oc D h2⟩
theorem Ob (D:DataW Unit)(s:ByteArray):∀{l:List ByteArray},(s∉l\/s=⟨#[]⟩)->bu (gS D l) s=0:=by
 intro l h
 refine BZ _ _ fun t ht e=>?_
 have h1:=Gr D l t ht
 rcases h with h|h
 ·exact h (e▸h1.1)
 ·exact h1.2.1 (e.trans h)
theorem adY (D:DataW Unit)(s:ByteArray)(hs:s≠⟨#[]⟩):∀{l:List ByteArray},l.Pairwise (fun a b=>a.data.toList<b.data.toList)->s∈l->bu (gS D l) s=eP D s
 | [],_,h=>tAk
 | k::r,h,hm=>by
  obtain⟨h1,h2⟩:=List.pairwise_cons.1 h
  have anC:k∉r:=fun hk=>List.lt_irrefl _ (h1 k hk)
  unfold gS
  by_cases zU:k=s
  ·subst zU
   rw[if_neg hs]
   by_cases h0:eP D k=0
   ·rw[if_pos h0,h0]
    exact Ob D k (.inl anC)
   ·rw[if_neg h0,bu,if_pos rfl]
  ·have ih:=adY D s hs h2 ((List.mem_cons.1 hm).resolve_left (fun e=>zU e.symm))
   split
   ·exact ih
   ·split
    ·exact ih
    ·rw[bu,if_neg zU]
     exact ih
theorem apq {ss:List (List UInt8)}(hn:ss.Nodup):(keysOf ss).Pairwise fun a b=>a.data.toList<b.data.toList:=by
 unfold keysOf
 rw[List.pairwise_map]
 have sU:∀a b c:List UInt8,decide (a<=b)=true->decide (b<=c)=true->decide (a<=c)=true:=fun a b c h1 h2=>by simp only[decide_eq_true_eq]at *;exact List.le_trans h1 h2
 have asN:∀a b:List UInt8,(decide (a<=b)||decide (b<=a))=true:=fun a b=>by simp only[Bool.or_eq_true,decide_eq_true_eq];exact List.le_total a b
 have h1:=List.pairwise_mergeSort sU asN ss
 have h2:(ss.mergeSort fun x y=>decide (x<=y)).Nodup:=(List.mergeSort_perm ss _).nodup_iff.2 hn
 refine(h1.and h2).imp fun {a b} h=>?_
 show a<b
 rcases Decidable.em (a<b)with h3|h3
 ·exact h3
 ·exact absurd (List.le_antisymm (bg h.1) (List.not_lt.1 h3)) h.2
theorem asy {W:World}{b n:Nat}{D:DataW Unit}(hm:iB W b n D):(strKeys D).Nodup/\(∀x∈strKeys D,x.length<=maxLen)/\∀s:ByteArray,eP D s≠0->s.data.toList∈strKeys D:=by
 have h2:=strKeys_le hm Tryz.underlying9
 obtain⟨es,hD,hp,_⟩:=hm.entries jH
 obtain⟨es',ZZ,anB⟩:=hm.keysOf
 obtain rfl:es=es':=by rw[hD]at ZZ;simpa using ZZ
 subst hD
 have hk:∀p∈es,∃x,p.1= .string x:=fun p hp=>by
  obtain⟨v,hv⟩:=anB p hp
  obtain⟨x,_,hx,_⟩:=Maps.keyOf_str Tryz.underlying9 hv
  exact⟨x,hx⟩
 refine⟨?_,h2,fun s hs=>?_⟩
 ·show(es.map fun p=>strOf p.1).Nodup
  refine List.pairwise_map.2 (hp.imp_of_mem fun {p q} oV hq' hne e=>hne ?_)
  obtain⟨a,ha⟩:=hk p oV
  obtain⟨b,hb⟩:=hk q hq'
  rw[ha,hb]at e ⊢
  exact congrArg _ e
 ·unfold eP at hs
  rw[Uk]at hs
  cases hf:es.find? (fun p=>p.1.sameKey (cY s))with
  | none=>rw[hf]at hs;exact absurd rfl hs
  | some p=>
   have e1:=WideAt.sameKey_eq (show p.1.sameKey (cY s)=true from by simpa using List.find?_some hf)
   exact List.mem_map.2 ⟨p,List.mem_of_find?_eq_some hf,by rw[e1];rfl⟩
theorem JL {W:World}{b N:Nat}{F:aj}(hp:eX W b N (pf F))(hc:Canon F)(hN:N<=100000):
  Calls Tryz.prog 70 #[.map (some b)] W (oB W F):=by
 obtain⟨n,D,hn,hm,hg⟩:=hp
 obtain⟨f1,f2,f3⟩:=asy hm
 refine(aqH hm (by have:=hm.size_le;omega) f2).mono fun e w' ⟨v,ss,R,he,aby,SG,hR,hB⟩=>?_
 have aop:ss.Nodup:=aby.nodup_iff.2 f1
 have I1:=apq aop
 have hz:eP D ⟨#[]⟩=F.f0:=by
  rw[hg _ (Nat.zero_le _)]
  unfold pf
  rw[if_pos rfl]
 have yu:∀x:ByteArray,x∈keysOf ss↔x.data.toList∈strKeys D:=fun x=>by
  unfold keysOf
  rw[List.mem_map,<- aby.mem_iff]
  constructor
  ·rintro⟨y,hy,rfl⟩
   exact(List.mergeSort_perm ss _).mem_iff.1 hy
  ·intro hx
   exact⟨_,(List.mergeSort_perm ss _).mem_iff.2 hx,rfl⟩
 have ht:gS D (keysOf ss)=F.f1:=by
  refine RF (Oc D I1) (fun t ht=>(Gr D _ t ht).2.2.2) hc.up hc.qD fun s=>?_
  have hnil:bu F.f1 ⟨#[]⟩=0:=BZ _ _ fun t ht=>(hc.nm t ht).1
  by_cases MG:s=⟨#[]⟩
  ·rw[Ob D s (.inr MG),MG,hnil]
  ·by_cases hs:s.size<=maxLen
   ·have u9:=hg s hs
    unfold pf at u9
    rw[if_neg MG]at u9
    by_cases hk:s∈keysOf ss
    ·rw[adY D s MG I1 hk,u9]
    ·rw[Ob D s (.inl hk),<- u9]
     rcases Decidable.em (eP D s=0)with h0|h0
     ·exact h0.symm
     ·exact absurd ((yu s).2 (f3 s h0)) hk
   ·rw[Ob D s (.inl fun hk=>hs (by
     have:=f2 _ ((yu s).1 hk)
     rw[Array.length_toList]at this
     exact this))]
    refine(BZ _ _ fun t ht e=>hs ?_).symm
    have:=(hc.nm t ht).2
    rw[<- e]
    unfold maxLen
    omega
 rw[hz]at he
 rw[ht]at SG
 obtain⟨X,cap,rfl⟩:=Kd.c3 SG.o
 exact⟨X,cap,he,tk B4 SG.o,hB.o⟩
end Go.Proofs.YtjgakaembhmhpaaGreatDoor.PA
namespace Go.Proofs
open Go.Shelf
def Tryz.akq:Go.Shelf.Ren:=⟨fun|5=>148|7=>184|n=>n,fun|23=>100|25=>9|3=>3|4=>4|20=>20|n=>n,fun|n=>n⟩
theorem Tryz.YQ:Go.Proofs.SlLaysW.n5 Tryz.prog Tryz.akq:={
 mixed:=by kernel_rfl
 f5:=⟨Tryz.f148.name,by decide,Tryz.func148.trans (congrArg some (by kernel_rfl))⟩
 f7:=Tryz.func184.trans (congrArg some (by kernel_rfl))
 t4:=Tryz.underlying4
 a4:=Tryz.isAgg4
 z4:=Tryz.sizeOf4
 v4:=Tryz.zeroValue4
 t20:=Tryz.underlying20
 a20:=Tryz.isAgg20
 z20:=Tryz.sizeOf20
 v20:=Tryz.zeroValue20
 t23:=Tryz.underlying100
 a23:=Tryz.isAgg100
 z23:=Tryz.sizeOf100
 v23:=Tryz.zeroValue100}
end Go.Proofs
namespace Go.Proofs.YtjgakaembhmhpaaGreatDoor.PA
open Go.RowKit Go.Proofs.YtjgakaembhmhpaaGreatDoorW.PrintWords Go.Proofs.YtjgakaembhmhpaaGreatDoorW.PrintLast Go.Proofs.YtjgakaembhmhpaaGreatDoorW.PrintMore Go.Proofs.YtjgakaembhmhpaaGreatDoorM
open Go.WideMaps
def XS (w:World)(N:Nat)(g:ByteArray->Int)(e:Ending)(w':World):Prop:=∃b,e= .returned (.map (some b))/\w.heap.size<=b/\af (eX w' b N g)/\af (Below w.heap.size w w')
theorem apL {D:DataW Unit}(h:tr D){s:ByteArray}(hn:Maps.has D (cY s)=false):eP D s=0:=by
 obtain⟨es,rfl,hp⟩:=h
 unfold eP
 rw[Uk]
 cases hf:es.find? (fun p=>p.1.sameKey (cY s))with
 | none=>rfl
 | some p=>
  have h1:p.1.sameKey (cY s)=true:=by simpa using List.find?_some hf
  have h2:Maps.has (DataW.map es) (cY s)=true:=List.any_eq_true.2 ⟨p,List.mem_of_find?_eq_some hf,h1⟩
  rw[h2]at hn
  cases hn
theorem apo {x:ByteArray}{kl:Lit}(h:keyOf Tryz.prog 9 (.string x)=some kl):x.size<=maxLen:=by
 obtain⟨y,h1,_,h2⟩:=Maps.keyOf_str Tryz.underlying9 h
 have h3:x=⟨y.toArray⟩:=by simpa[encStr]using h1
 rw[h3]
 show y.toArray.size<=maxLen
 simpa using h2
theorem api {s t:ByteArray}(h:s≠t):(cY s).sameKey (cY t)=false:=by
 cases e:(cY s).sameKey (cY t)with
 | false=>rfl
 | true=>exact absurd (Ad (WideAt.sameKey_eq e)) h
def Half (p q:ByteArray->Int)(n:Int)(left:Lit->Bool)(D:DataW Unit):Prop:=∀s,s.size<=maxLen->eP D s=if left (cY s)=true then p s else p s+n * q s
theorem UO {b b2 N N2:Nat}{p q:ByteArray->Int}{n:Int}{W:World}(h:eX W b N p)(h2:eX W b2 N2 q)(hN:N+N2<=100000)(hb:∀s,s.size<=maxLen->(p s+n * q s).natAbs<=1000000000000000000):
  Calls Tryz.prog 101 #[.map (some b),.int .i64 n,.map (some b2)] W (XS W (N+N2) fun s=>p s+n * q s):=by
 obtain⟨n1,AU,mL,vh,yv⟩:=h
 obtain⟨n2,GN,vk,hm2,M5⟩:=h2
 have eJ:=ae (AnyW.maps_Clone_owns Tryz.YQ 9 (plainElem Tryz.prog 3) b n1 AU W vh)
 have gJ:=ae (sO hm2)
 have fU:=ae yv
 have l8:=ae M5
 have uw:=ae hb
 have fV:=ae hm2.size_le
 have vL:=ae hm2
 have aus:=hm2.lt
 clear vh hm2 yv M5 hb
 go_enter Tryz.func101,Tryz.ntmps101
 go_wp2_with (first|(go_at_call 148;refine eJ.o.mono ?_;rintro e w3 ⟨rfl,MU,_,tC⟩;have Hp:=ae MU;have bS:=ae tC;have abe:=sN vL.o tC;clear MU tC)|(at_range;refine wpList_range_own _ rfl _ 100 rfl 9 3 jH Tryz.underlying100 _ b2 n2 GN rfl abe ?_;intro w4 aoj hg4 aol))
 have anL:=Hp.o.kept hg4 tA2
 have cO:af (Below W.heap.size W w4):=⟨bS.o.grown hg4 bS.o.size (fun j hj=>by cases hj)⟩
 have axg:=Hp.o.lt
 have HH:af (Half p q n (Maps.has GN) AU):=⟨fun s hs=>by
  rw[fU.o s hs]
  cases e:Maps.has GN (cY s)with
  | true=>rfl
  | false=>
   have:=apL gJ.o e
   rw[l8.o s hs]at this
   rw[if_neg tA2,this]
   omega⟩
 have km:=ae (bj fV.o vk)
 clear hg4 aol abe fV
 go_frame
 go_loopw [8,9] (fun _ _ wr=>∃(left:Lit->Bool) (cnt n3:Nat) (w9:DataW Unit),wr.ranges Tryz.prog 9 (plainElem Tryz.prog 3) b2 w3.heap.size n2 GN left cnt/\n3+cnt<=N+N2/\iB wr W.heap.size n3 w9/\af (Half p q n left w9)/\af (Below W.heap.size W wr)) (fun _ _ wr=>wr.rangeLeft b2 w3.heap.size)
 case atStart=>exact⟨_,_,n1,AU,aoj,tCm,anL,HH,cO⟩
 case round=>
  obtain⟨left,cnt,n3,w9,hrg,Ca,FE,fX,bs⟩:=hrel
  go_wp2_with (at_next;refine wpList_next_ranges _ rfl _ rfl 9 jH (plainElem Tryz.prog 3) Value.string (Value.int .i64) (fun key kl hk=>tDp) (fun v y hv=>tEi) b2 w3.heap.size n2 GN left cnt rfl hrg ?_ ?_)
  ·intro hc0 hl0
   go_wp2
   go_ret
   refine⟨_,rfl,bl _,⟨⟨n3,w9,tA0,FE,fun s hs=>?_⟩⟩,bs⟩
   rw[fX.o s hs,hl0]
   rfl
  ·intro x c kl aC bM aZ cnt1 hkey hlk hv hat hrg1 kA hg1 hs1 hen
   obtain⟨x',e1,rfl⟩:=Ns hkey
   cases e1
   obtain⟨c',e1,e2,hwc⟩:=Mn hv
   cases e1
   cases e2
   have vt:=apo hkey
   have I6:=FE.kept hg1 tCu
   have bq:af (Below W.heap.size W aZ):=⟨bs.o.grown hg1 bs.o.size (fun j hj=>by have:=bo hj;have:=bS.o.size;omega)⟩
   have dC:af (aZ.rangeLeft b2 w3.heap.size<wr.rangeLeft b2 w3.heap.size):=⟨tD5⟩
   have dK:af (q x=c):=⟨by
    rw[<- l8.o x vt]
    unfold eP
    rw[hat]
    rfl⟩
   have Ec:af (eP w9 x=p x):=⟨by rw[fX.o x vt,if_pos hlk]⟩
   have dh:=ae (uw.o x vt)
   have mD:=ae (sO FE)
   clear hrg hg1 hs1 hat hv FE hlk
   go_wp2_with (first|(at_lookup;refine wpList_lookup_own_int _ rfl _ _ 100 rfl 9 3 .i64 jH Tryz.underlying100 Tryz.underlying3 (Aj _) W.heap.size n3 w9 rfl I6 _ _ rfl hkey ?_;intro q1 ym aoA)|(at_mapUpdate;refine wpList_mapUpdate_own _ rfl _ _ _ 100 rfl 9 3 jH Tryz.underlying100 _ W.heap.size n3 w9 rfl I6 tAw _ _ _ rfl rfl hkey _ [] (plainElem_int Tryz.underlying3 (wrap64_wf _)) ?_;intro aY aoe dI))
   have abz:=hrg1.kept dI tCu tCu
   have agT:af (aY.rangeLeft b2 w3.heap.size<wr.rangeLeft b2 w3.heap.size):=⟨by rw[abz.left_eq,<- hrg1.left_eq];exact dC.o⟩
   have agB:af (Half p q n (fun z=>left z&& !z.sameKey (cY x)) (w9.put (cY x) (.lit (.int .i64 (wrap64 (q1+wrap64 (n * c))))))):=⟨fun s hs=>by
    rw[Ag mD.o]
    have h3:eP w9 x=q1:=by
     unfold eP lW
     rw[ym]
     rfl
    have hval:wrap64 (q1+wrap64 (n * c))=p x+n * q x:=by
     rw[<- h3,Ec.o,dK.o]
     have:=dh.o
     rw[dK.o]at this
     generalize n * c=u at *
     unfold wrap64
     omega
    by_cases e:s=x
    ·subst e
     rw[if_pos rfl,hval]
     simp[WideAt.sameKey_self (isKey s)]
    ·rw[if_neg e,fX.o s hs]
     simp[api e]⟩
   go_roundw
   case measure=>exact agT.o
   case rel=>exact⟨_,_,_,_,_,_,_,_,_,_,_,_,_,_,⟨_,_,n3+1,_,abz,tA0,aoe,agB,⟨bq.o.grown dI bq.o.size (fun j hj=>tAr)⟩⟩,rfl⟩
theorem apK {D:DataW Unit}(s t:ByteArray):eP (D.del (cY s)) t=if t=s then 0 else eP D t:=by
 unfold eP
 by_cases e:t=s
 ·subst e
  rw[if_pos rfl,Maps.atKey_del_same]
  rfl
 ·rw[if_neg e,Maps.atKey_del_other (fun e'=>e (Ad e'))]
theorem aqJ {b b2 N N2:Nat}{p q:ByteArray->Int}{name:ByteArray}{W:World}(hs:name.size<=maxLen)(h:eX W b N p)(h2:eX W b2 N2 q)(hN:N+N2<=100000)(hb:∀s,s.size<=maxLen->((if s=name then 0 else p s)+p name * q s).natAbs<=1000000000000000000):
  Calls Tryz.prog 102 #[.map (some b),.string name,.map (some b2)] W (XS W (N+N2) fun s=>(if s=name then 0 else p s)+p name * q s):=by
 have qU:=ae (h.look name hs)
 obtain⟨n1,AU,mL,vh,yv⟩:=h
 have eJ:=ae (AnyW.maps_Clone_owns Tryz.YQ 9 (plainElem Tryz.prog 3) b n1 AU W vh)
 have fU:=ae yv
 have uw:=ae hb
 have GX:=ae h2
 have hkey:=pI hs
 have iW:=ae h2.lt
 obtain⟨aqF,xA⟩:∃m,af (p name=m):=⟨_,⟨rfl⟩⟩
 rw[xA.o]at qU uw ⊢
 have hlk:=qU.o
 clear vh yv hb h2 qU
 go_enter Tryz.func102,Tryz.ntmps102
 go_wp2_with (first|(go_at_call 148;refine eJ.o.mono ?_;rintro e w3 ⟨rfl,MU,_,tC⟩;have bS:=ae tC;clear tC)|(at_delete;refine wpList_delete_own _ rfl _ _ 100 9 rfl 3 jH Tryz.underlying100 _ W.heap.size n1 AU rfl MU _ _ rfl hkey ?_;intro w4 anK Na;have cO:=ae (bS.o.grown Na.grown bS.o.size (fun j hj=>tAr));have s9:=ae (UO (n:=aqF) (p:=fun s=>if s=name then 0 else p s) (q:=q) (N:=N) (N2:=N2) ⟨n1,AU.del (cY name),mL,anK,fun s hs=>by rw[apK,fU.o s hs]⟩ (GX.o.below cO.o) hN uw.o))|(go_at_call 101;refine s9.o.mono ?_;rintro e aZ ⟨aX,rfl,ky,Ho,bq⟩))
 go_ret
 exact⟨aX,rfl,by have:=cO.o.size;omega,Ho,⟨au cO.o bq.o⟩⟩
theorem Nr {A:Option Addr}{c:Nat}{f:aj}{w:World}(h:gl A c f w)(hb:fR 1000000000000000 f.f1)(ht:TabW w):
  Calls Tryz.prog 98 #[.agg #[.int .i64 f.f0,.slice A f.f1.length c]] w fun e w'=>e= .returned (.string (jl f.f1))/\Below w.heap.size w w':=by
 have ak:=ae (ax (Below.refl w.heap.size w) (.cells #[.int .i64 0,.slice A f.f1.length c] 33))
 have HC:=ae (alQ (c:=c) (Kd.bN h.tm ak.o) h.n1 h.n2 hb (ht.below ak.o))
 clear h hb ht
 go_enter Tryz.func98,Tryz.ntmps98
 go_wp2_with (go_at_call 144;refine HC.o.mono ?_;rintro e w2 ⟨rfl,hb⟩;have aI:=ae (au ak.o hb);clear hb)
 go_ret
 exact⟨rfl,aI.o⟩
theorem ak8 {P:Program}{e:TypeId}(he:P.underlying e=some .bool){v:Value}{z:DataW Unit×List MemPlace}(h:plainElem P e v=some z):∃q,v= .bool q/\z=(.lit (.bool q),[]):=by
 unfold plainElem at h
 rw[he]at h
 cases v<;>simp at h
 exact⟨_,rfl,h.symm⟩
def jt (W:World)(b N:Nat)(L:List aj):Prop:=∃n D,n<=N/\iB W b n D/\∀k,r5 k->Maps.has D (cY (jl k))=(iI L k).isSome/\eP D (jl k)=(iI L k).getD 0
section
variable {W W':World}{b N:Nat}{L:List aj}{k:List ay}{f:aj}
theorem jt.lt (h:jt W b N L):b<W.heap.size:=by
 obtain⟨n,D,_,hm,_⟩:=h
 exact hm.lt
theorem jt.same (h:jt W b N L)(e:W'.heap[b]?=W.heap[b]?):jt W' b N L:=by
 obtain⟨n,D,h1,hm,h2⟩:=h
 exact⟨n,D,h1,Nx hm e,h2⟩
theorem jt.below (h:jt W b N L)(hb:Below W.heap.size W W'):jt W' b N L:=h.same (hb.block b h.lt)
theorem jt.new (W:World):jt (W.alloc (.map #[] 0)) W.heap.size 0 []:=
 ⟨0,.map [],bl _,World.ownsMap_made (H:=Unit) W Tryz.prog 9 (plainElem Tryz.prog 3),fun k _=>⟨rfl,rfl⟩⟩
theorem XY {n:Nat}{D:DataW Unit}(h:iB W b n D)(s:ByteArray)(hs:s.size<=maxLen):(Instr.lookup 99 (.map (some b)) (.string s) true).run Tryz.prog W= .ok (.tuple #[.int .i64 (eP D s),.bool (Maps.has D (cY s))]) W/\(Instr.lookup 99 (.map (some b)) (.string s) false).run Tryz.prog W= .ok (.int .i64 (eP D s)) W:=by
 constructor
 ·obtain⟨v,ps,hrun,hv⟩:=World.ownsMap.look_ok h jH Tryz.underlying99 (Aj W) (zd:= .lit (.int .i64 0)) (zp:=[]) (plainElem_int Tryz.underlying3 tA3) (pI hs)
  obtain⟨c,rfl,hc,hwc⟩:=plainElem_int_inv Tryz.underlying3 hv
  rw[hrun]
  have h1:D.atKey (cY s) (.lit (.int .i64 0))= .lit (.int .i64 c):=congrArg Prod.fst hc
  unfold eP lW
  rw[h1]
  rfl
 ·obtain⟨c,hrun,hat,hwc⟩:=h.lookup_int jH Tryz.underlying99 Tryz.underlying3 (Aj W) (pI hs)
  rw[hrun]
  unfold eP lW
  rw[hat]
  rfl
theorem jt.look (h:jt W b N L)(hk:r5 k):(Instr.lookup 99 (.map (some b)) (.string (jl k)) true).run Tryz.prog W= .ok (.tuple #[.int .i64 ((iI L k).getD 0),.bool (iI L k).isSome]) W:=by
 obtain⟨n,D,h1,hm,h2⟩:=h
 rw[(XY hm _ (Jy hk)).1,(h2 k hk).1,(h2 k hk).2]
theorem jt.apI (h:jt W b N L)(hk:r5 k):(Instr.lookup 99 (.map (some b)) (.string (jl k)) false).run Tryz.prog W= .ok (.int .i64 ((iI L k).getD 0)) W:=by
 obtain⟨n,D,h1,hm,h2⟩:=h
 rw[(XY hm _ (Jy hk)).2,(h2 k hk).2]
theorem ab6 {j k:List ay}(hj:r5 j)(hk:r5 k)(h:j≠k):cY (jl j)≠cY (jl k):=fun e=>h (ab5 hj hk (Ad e))
theorem jt.put (h:jt W b N L)(hk:r5 f.f1)(hw:(Lit.int .i64 f.f0).wf=true)(hN:N<1000000)(hlt:(iI L f.f1).isSome=false\/f.f0< (iI L f.f1).getD 0):
  ∃W',(Instr.mapUpdate 99 (.map (some b)) (.string (jl f.f1)) (.int .i64 f.f0)).run Tryz.prog W= .ok () W'/\jt W' b (N+1) (L++[f])/\W.grownBy W' (some b):=by
 obtain⟨n,D,h1,hm,h2⟩:=h
 obtain⟨W',r1,r2,r3⟩:=World.ownsMap.update hm jH Tryz.underlying99 tAw (pI (Jy hk)) (plainElem_int Tryz.underlying3 hw)
 refine⟨W',r1,⟨n+1,_,tA0,r2,fun j hj=>?_⟩,r3⟩
 rw[FW]
 by_cases e:f.f1=j
 ·subst e
  rw[if_pos rfl,Maps.has_put_same (acz (sO hm)) (isKey _),Ag (sO hm),if_pos rfl]
  cases hl:iI L f.f1 with
  | none=>exact⟨rfl,rfl⟩
  | some n0=>
   rw[hl]at hlt
   refine⟨rfl,?_⟩
   have h3:f.f0<n0:=by simpa using hlt
   show f.f0=min n0 f.f0
   omega
 ·rw[if_neg e,Maps.has_put_other (ab6 hj hk (Ne.symm e)),Ag (sO hm),if_neg (fun h=>e (ab5 hj hk h).symm)]
  exact h2 j hj
theorem jt.skip (h:jt W b N L)(hs:(iI L f.f1).isSome=true)(hle:¬ f.f0< (iI L f.f1).getD 0):jt W b N (L++[f]):=by
 obtain⟨n,D,h1,hm,h2⟩:=h
 refine⟨n,D,h1,hm,fun j hj=>?_⟩
 have h3:=h2 j hj
 rw[FW]
 by_cases e:f.f1=j
 ·subst e
  rw[if_pos rfl,h3.1,h3.2]
  cases hl:iI L f.f1 with
  | none=>rw[hl]at hs;cases hs
  | some n0=>
   rw[hl]at hle
   refine⟨rfl,?_⟩
   have h3:¬ f.f0<n0:=by simpa using hle
   show n0=min n0 f.f0
   omega
 ·rw[if_neg e]
  exact h3
abbrev aiq (w:World)(b n:Nat)(D:DataW Unit):Prop:=w.ownsMap Tryz.prog 9 (plainElem Tryz.prog 4) b n D
def lZ (W:World)(b N:Nat)(K:List (List ay)):Prop:=∃n D,n<=N/\aiq W b n D/\∀k,r5 k->D.atKey (cY (jl k)) (.lit (.bool false))= .lit (.bool (decide (k∈K)))
variable {K:List (List ay)}
theorem lZ.lt (h:lZ W b N K):b<W.heap.size:=by
 obtain⟨n,D,_,hm,_⟩:=h
 exact hm.lt
theorem lZ.same (h:lZ W b N K)(e:W'.heap[b]?=W.heap[b]?):lZ W' b N K:=by
 obtain⟨n,D,h1,⟨es,clock,h3,h4⟩,h2⟩:=h
 exact⟨n,D,h1,⟨es,clock,e.trans h3,h4⟩,h2⟩
theorem lZ.below (h:lZ W b N K)(hb:Below W.heap.size W W'):lZ W' b N K:=h.same (hb.block b h.lt)
theorem lZ.new (W:World):lZ (W.alloc (.map #[] 0)) W.heap.size 0 []:=
 ⟨0,.map [],bl _,World.ownsMap_made (H:=Unit) W Tryz.prog 9 (plainElem Tryz.prog 4),fun k _=>by simp[DataW.atKey]⟩
theorem lZ.look (h:lZ W b N K)(hk:r5 k):(Instr.lookup 90 (.map (some b)) (.string (jl k)) false).run Tryz.prog W= .ok (.bool (decide (k∈K))) W:=by
 obtain⟨n,D,h1,hm,h2⟩:=h
 obtain⟨v,ps,hrun,hv⟩:=World.ownsMap.lookup hm jH Tryz.underlying90 (Tryz.zeroValue4 W) (plainElem_bool Tryz.underlying4 false) (pI (Jy hk))
 obtain⟨q,rfl,hq⟩:=ak8 Tryz.underlying4 hv
 have h3:=(h2 k hk).symm.trans (congrArg Prod.fst hq)
 simp only[DataW.lit.injEq,Lit.bool.injEq]at h3
 rw[hrun,h3]
theorem lZ.put (h:lZ W b N K)(hk:r5 k)(hN:N<1000000):
  ∃W',(Instr.mapUpdate 90 (.map (some b)) (.string (jl k)) (.bool true)).run Tryz.prog W= .ok () W'/\lZ W' b (N+1) (K++[k])/\W.grownBy W' (some b):=by
 obtain⟨n,D,h1,hm,h2⟩:=h
 obtain⟨W',r1,r2,r3⟩:=World.ownsMap.update (t:=90) (e:=4) hm jH Tryz.underlying90 tAw (pI (Jy hk)) (plainElem_bool Tryz.underlying4 true)
 refine⟨W',r1,⟨n+1,_,tA0,r2,fun j hj=>?_⟩,r3⟩
 by_cases e:j=k
 ·subst e
  rw[Maps.atKey_put_same hm.isMap (isKey _)]
  simp
 ·rw[Maps.atKey_put_other (ab6 hj hk e),h2 j hj]
  simp[e]
end
end Go.Proofs.YtjgakaembhmhpaaGreatDoor.PA
