/- Part of the proof of SetsChanged: the walk and the plain laws. It holds without further conditions. -/
import Derived.StillTail
import Derived.Deep.RegionHeld
import Derived.Lib.ItoaNum
import Derived.Lib.Join
import Derived.Test.YtjgakaembhmhpaaGreatDoorJAQ
set_option linter.unusedVariables false
set_option linter.unusedSimpArgs false
set_option maxHeartbeats 16000000
set_option maxRecDepth 100000
namespace Go.Proofs.YtjgakaembhmhpaaGreatDoor.PA
open Go.RowKit Go.Proofs.YtjgakaembhmhpaaGreatDoorW.PrintWords Go.Proofs.YtjgakaembhmhpaaGreatDoorW.PrintLast Go.Proofs.YtjgakaembhmhpaaGreatDoorW.PrintMore Go.Proofs.YtjgakaembhmhpaaGreatDoorM
def sV (s:ByteArray):aj:=⟨0,[⟨s,1⟩]⟩
def fT (s:ByteArray)(l:List aj):List aj:=l.filter fun f=>decide (bu f.f1 s=0)
def rB (s:ByteArray)(l:List aj):List aj:=l.filter fun f=>decide (0<bu f.f1 s)
def pE (s:ByteArray)(l:List aj):List aj:=l.filter fun f=>decide (bu f.f1 s<0)
def jI (s:ByteArray)(a b:aj):aj:=dY a (-bu b.f1 s) b (bu a.f1 s)
def qE (s:ByteArray)(low high:List aj):List aj:=low.flatMap fun a=>high.map (jI s a)
def J0 (l0:List aq)(l1:List aj)(s:ByteArray):List aq×List aj×Int:=
 if(mq l0 l1 s).2.2=0 then lO (mq l0 l1 s).2.1 (dT (fT s (ku (mq l0 l1 s).1 (sV s)++l1)++qE s (rB s (ku (mq l0 l1 s).1 (sV s)++l1)) (pE s (ku (mq l0 l1 s).1 (sV s)++l1))))else([],[],(mq l0 l1 s).2.2)
theorem Sh {α:Type}(p:α->Bool)(l:List α)(x:α):(l++[x]).filter p=if p x=true then l.filter p++[x]else l.filter p:=by
 rw[List.filter_append]
 by_cases h:p x=true
 ·rw[if_pos h,List.filter_cons_of_pos h];simp
 ·rw[if_neg h,List.filter_cons_of_neg h];simp
structure vU (f:aj):Prop where
 up:fI f.f1
 b:fR 1000 f.f1
 c:f.f0.natAbs<=1000000
 few:jy 8 f
theorem Good.apJ {ns:List ByteArray}{f:aj}(h:Good ns f)(hn:ns.length<=8):vU f:=⟨h.up,h.b,tCc,h.few.mono hn⟩
theorem alb {x:aq}{s:ByteArray}(h1:x.f1.natAbs<=1000000)(h2:x.f2.natAbs<=1000000)(hs:s.size<=100):∀f∈ku x (sV s),vU f:=by
 have IV:jy 1 (sV s):=⟨bl _,fun t ht=>by rw[il.1 ht];exact hs⟩
 have key:∀(f:aj) (a:Int) (g:aj) (b:Int),a.natAbs<=1->b.natAbs<=1->fR 1 f.f1->fR 1 g.f1->f.f1.length+g.f1.length<=1->fR 1000 (dY f a g b).f1:=fun f a g b ha hb hf hg hl t ht=>by
  have h3:fR 1 (fD a f.f1++fD b g.f1):=OQ (fun t ht=>bj (Gd ha hf t ht) tA0) (fun t ht=>bj (Gd hb hg t ht) tA0)
  have h4:=acC h3 t ht
  rw[fZ,tR,tR]at h4
  omega
 have hv:fR 1 (sV s).f1:=fun t ht=>by rw[il.1 ht];show(1:Int).natAbs<=1;decide
 intro f hf
 have Cb:=(IV.ends x f hf).mono (show 1<=8 by omega)
 unfold ku at hf
 rcases List.mem_cons.1 hf with rfl|hf
 ·exact⟨CS _,key _ _ _ _ tA3 tA3 hv (fun t ht=>tBc) (by show 1+0<=1;omega),by show(1 * (0:Int)+1 * -x.f1).natAbs<=_;omega,Cb⟩
 ·rw[il.1 hf]at Cb ⊢
  exact⟨CS _,key _ _ _ _ tA3 tA3 (fun t ht=>tBc) hv (by show 0+1<=1;omega),by show(1 * x.f2+ -1 * (0:Int)).natAbs<=_;omega,Cb⟩
theorem UM (s:ByteArray):∀l:List aj,(fT s l).length+(rB s l).length+(pE s l).length=l.length
 | []=>rfl
 | f::l=>by
  have ih:=UM s l
  unfold fT rB pE at ih ⊢
  rw[i6,<- ih]
  rcases Int.lt_trichotomy (bu f.f1 s) 0 with h|h|h
  ·rw[List.filter_cons_of_neg tAb,List.filter_cons_of_neg tAb,List.filter_cons_of_pos tAi,i6];omega
  ·rw[List.filter_cons_of_pos tAi,List.filter_cons_of_neg tAb,List.filter_cons_of_neg tAb,i6];omega
  ·rw[List.filter_cons_of_neg tAb,List.filter_cons_of_pos tAi,List.filter_cons_of_neg tAb,i6];omega
theorem aqz (s:ByteArray)(lo hi:List aj):(qE s lo hi).length=lo.length * hi.length:=by
 unfold qE
 induction lo with
 | nil=>simp
 | cons a l ih=>rw[List.flatMap_cons,fZ,ih,fc,i6,Nat.add_mul];omega
theorem vU.alM {f:aj}(h:vU f):GU f:=⟨bj h.c tA0,fun t ht=>bj (h.b t ht) tA0,bj h.few.1 tA0,h.few.2⟩
theorem aqw {a b:aj}(s:ByteArray)(ha:vU a)(hb:vU b):GU (jI s a b)/\jy 16 (jI s a b):=by
 have h1:=sg ha.b s
 have h2:=sg hb.b s
 have IV:jy 16 (jI s a b):=ha.few.sum hb.few _ _
 refine⟨⟨?_,fun t ht=>?_,bj IV.1 tA0,IV.2⟩,IV⟩
 ·have e1:(-bu b.f1 s * a.f0).natAbs<=1000 * 1000000:=FY tA0 ha.c
  have e2:(bu a.f1 s * b.f0).natAbs<=1000 * 1000000:=FY h1 hb.c
  show(-bu b.f1 s * a.f0+bu a.f1 s * b.f0).natAbs<=_
  omega
 ·have h3:fR 1000000 (fD (-bu b.f1 s) a.f1++fD (bu a.f1 s) b.f1):=OQ (fun t ht=>bj (Gd (A:=1000) tA0 ha.b t ht) tA0) (fun t ht=>bj (Gd h1 hb.b t ht) tA0)
  have h4:=acC h3 t ht
  rw[fZ,tR,tR]at h4
  have h5:=ha.few.1
  have h6:=hb.few.1
  have h7:(a.f1.length+b.f1.length) * 1000000<=16 * 1000000:=Ro _ tA0
  omega
theorem aqA {s:ByteArray}{lo hi:List aj}{f:aj}(h:f∈qE s lo hi):∃a∈lo,∃b∈hi,f=jI s a b:=by
 unfold qE at h
 obtain⟨a,ha,hb⟩:=List.mem_flatMap.1 h
 obtain⟨b,hb',e⟩:=List.mem_map.1 hb
 exact⟨a,ha,b,hb',e.symm⟩
section
variable {A A':Option Addr}{c c':Nat}{l0:List aq}{l1:List aj}{w:World}
theorem ajc (h:cD A c l0 A' c' l1 w)(s:ByteArray)(hs:s.size<=100){r0:List aq}{r1:List aj}{r:Int}(e:J0 l0 l1 s=(r0,r1,r)):
  Calls Tryz.prog 29 #[.agg #[.slice A l0.length c,.slice A' l1.length c'],.string s] w (zA w r0 r1 r):=by
 have bI:=ae (ax (ax (Below.refl w.heap.size w) (.cells #[.slice A l0.length c,.slice A' l1.length c'] 29)) (.cells #[.slice none 0 0,.slice none 0 0] 29))
 have cJ:=ae (aH (a8 w (.cells #[.slice A l0.length c,.slice A' l1.length c'] 29)) (.cells #[.slice none 0 0,.slice none 0 0] 29))
 have eC:=ae (by simpa using a8 (w.alloc (.cells #[.slice A l0.length c,.slice A' l1.length c'] 29)) (.cells #[.slice none 0 0,.slice none 0 0] 29):((w.alloc (.cells #[.slice A l0.length c,.slice A' l1.length c'] 29)).alloc (.cells #[.slice none 0 0,.slice none 0 0] 29)).heap[w.heap.size+1]?=some (.cells #[.slice none 0 0,.slice none 0 0] 29 (0,0)))
 have xK:af (((w.alloc (.cells #[.slice A l0.length c,.slice A' l1.length c'] 29)).alloc (.cells #[.slice none 0 0,.slice none 0 0] 29)).heap.size=w.heap.size+2):=⟨tA2⟩
 have a7:=ae h
 have vP:=ae hs
 obtain⟨x,rest,ro,yq⟩:∃x rest ro,mq l0 l1 s=(x,rest,ro):=⟨_,_,_,rfl⟩
 have qY:=ae (acO (h.below bI.o) s hs yq)
 unfold J0 at e
 rw[yq]at e
 simp only at e
 have Pc:=ae yq
 clear h hs yq
 go_enter Tryz.func29,Tryz.ntmps29
 go_wp2_with (fail)
 generalize (w.alloc (.cells #[.slice A l0.length c,.slice A' l1.length c'] 29)).alloc (.cells #[.slice none 0 0,.slice none 0 0] 29)=w1 at *
 have e0:w1.cell? ⟨w.heap.size,0,none⟩=some (.slice A l0.length c):=ah cJ.o 0
 have e1:w1.cell? ⟨w.heap.size,1,none⟩=some (.slice A' l1.length c'):=ah cJ.o 1
 by_cases fW:ro=0
 ·rw[if_pos fW]at e
  subst fW
  obtain⟨hv0,nU,hv2,hv3⟩:=acQ Pc.o
  have jL:=ae hv0
  have Lj:af (x∈l0):=⟨by rw[hv2];exact(Vf nU).1⟩
  have K3:af (∀y∈rest,y.f0.size<=100):=⟨fun y hy=>a7.o.n1 y (NS l0 s y (hv3▸hy))⟩
  have vT:af (x.f1.natAbs<=1000000/\x.f2.natAbs<=1000000):=⟨by have:=(iT hv0).sd x Lj.o;omega⟩
  clear hv0 nU hv2 hv3
  obtain⟨all,hall⟩:∃all,ku x (sV s)++l1=all:=⟨_,rfl⟩
  rw[hall]at e
  have l6:=ae hall
  have bT:=ae e
  clear hall e
  have xb:af (∀f∈all,vU f):=⟨fun f hf=>by
   rw[<- l6.o]at hf
   rcases List.mem_append.1 hf with hf|hf
   ·exact alb vT.o.1 vT.o.2 vP.o f hf
   ·exact(J5 jL.o f hf).apJ (by rw[fc];exact(iT jL.o).len)⟩
  have pR:af (all.length<=62):=⟨by rw[<- l6.o,fZ];have:=(iT jL.o).cl;show 2+_<=_;omega⟩
  go_wp2_with (go_at_call 85;with_reducible(refine qY.o.mono ?_);rintro e w2 ⟨X,cx,rfl,hN,hb⟩;have aI:=ae (au bI.o hb);have jW:=ae (aH (av cJ.o hb) (.cells #[.string x.f0,.int .i64 x.f1,.int .i64 x.f2] 77));have nI:=ae (aH (av eC.o hb) (.cells #[.string x.f0,.int .i64 x.f1,.int .i64 x.f2] 77));have xH:=ae (a8 w2 (.cells #[.string x.f0,.int .i64 x.f1,.int .i64 x.f2] 77));have e5:=ae (bj (Nat.le_of_eq xK.o.symm) hb.size);have bS:=ae (ax aI.o (.cells #[.string x.f0,.int .i64 x.f1,.int .i64 x.f2] 77));have mD:=ae (Kd.dz (Kd.gp hN (Nat.le_of_eq xK.o.symm)) (ax (Below.refl _ _) (.cells #[.string x.f0,.int .i64 x.f1,.int .i64 x.f2] 77)));clear hb hN)
  have kn:af (w.heap.size+2<=(w2.alloc (.cells #[.string x.f0,.int .i64 x.f1,.int .i64 x.f2] 77)).heap.size):=⟨by have:=e5.o;simp;omega⟩
  have Qe:af (w.heap.size<=(w2.alloc (.cells #[.string x.f0,.int .i64 x.f1,.int .i64 x.f2] 77)).heap.size):=⟨by have:=kn.o;omega⟩
  generalize hw3:w2.alloc (.cells #[.string x.f0,.int .i64 x.f1,.int .i64 x.f2] 77)=w3 at *
  clear hw3
  obtain⟨j0,aaC⟩:∃j0,j0=w2.heap.size:=⟨_,rfl⟩
  rw[<- aaC]at xH ⊢
  clear aaC
  have v0:w3.cell? ⟨w.heap.size,1,none⟩=some (.slice A' l1.length c'):=ah jW.o 1
  have v1:w3.cell? ⟨j0,0,none⟩=some (.string x.f0):=ah xH.o 0
  have v2:w3.cell? ⟨j0,1,none⟩=some (.int .i64 x.f1):=ah xH.o 1
  have v3:w3.cell? ⟨j0,2,none⟩=some (.int .i64 x.f2):=ah xH.o 2
  have fY:af (∀W:World,Below w3.heap.size w3 W->(W.cell? ⟨w.heap.size,1,none⟩=some (.slice A' l1.length c')/\W.cell? ⟨j0,0,none⟩=some (.string x.f0)/\W.cell? ⟨j0,1,none⟩=some (.int .i64 x.f1)/\W.cell? ⟨j0,2,none⟩=some (.int .i64 x.f2)/\af (Below w3.heap.size w3 W))):=⟨fun W hb=>⟨bw hb v0,bw hb v1,bw hb v2,bw hb v3,⟨hb⟩⟩⟩
  have kW:af (∀W:World,(W.cell? ⟨w.heap.size,1,none⟩=some (.slice A' l1.length c')/\W.cell? ⟨j0,0,none⟩=some (.string x.f0)/\W.cell? ⟨j0,1,none⟩=some (.int .i64 x.f1)/\W.cell? ⟨j0,2,none⟩=some (.int .i64 x.f2)/\af (Below w3.heap.size w3 W))->Below w3.heap.size w3 W):=⟨fun W h=>h.2.2.2.2.o⟩
  have Xz:af (∀W:World,Calls Tryz.prog 87 #[.string s,.int .i64 1] W fun e w'=>∃X cap,e= .returned (.agg #[.int .i64 0,.slice X 1 cap])/\Kd.N cf 79 w' W.heap.size (fun k=>some k=(Value.slice X 1 cap).ownBlock) (.slice X 1 cap) [⟨s,1⟩]/\Below W.heap.size W w'):=⟨fun W=>ajq s 1 tA3 tA3 W⟩
  have A8:af (∀(W:World) (Ig:Option Addr) (Iz base:Nat) (ok:Nat->Prop),Kd.N cf 79 W base ok (.slice Ig 1 Iz) [⟨s,1⟩]->Below w3.heap.size w3 W->Calls Tryz.prog 86 #[.agg #[.string x.f0,.int .i64 x.f1,.int .i64 x.f2],.agg #[.int .i64 0,.slice Ig 1 Iz]] W fun e w'=>∃E,e= .returned (.slice E 2 2)/\Kd.N bc 33 w' w3.heap.size (fun k=>k<w.heap.size\/w3.heap.size<=k) (.slice E 2 2) (ku x (sV s))/\Below W.heap.size W w'):=⟨fun W Ig Iz base ok hN hb=>by
   have wx:gl Ig Iz (sV s) W:=⟨(Kd.ej hN).2.2,(Kd.ej hN).2.1,by show 1<=1000;omega,fun t ht=>by rw[il.1 ht];exact vP.o⟩
   exact(Zj (x:=x) wx vT.o.1 vT.o.2 (by show(0:Int).natAbs<=_;decide) (fun t ht=>by rw[il.1 ht];show(1:Int).natAbs<=_;omega) (by show 1<20;omega)).mono fun e w' ⟨E,he,SE,hb'⟩=>⟨E,he,Kd.gp (Kd.et SE (fun k hk=>Or.inr (bj hb.size hk))) hb.size,hb'⟩⟩
  have agL:af (((ku x (sV s)).length+l1.length) * 32<=140737488355328):=⟨by have:=(iT jL.o).cl;show(2+l1.length) * 32<=_;omega⟩
  have jd:=ae (Kd.fH (Kd.vF zP a7.o.ks) bS.o)
  go_region_held3 (fun W=>(W.cell? ⟨w.heap.size,1,none⟩=some (.slice A' l1.length c')/\W.cell? ⟨j0,0,none⟩=some (.string x.f0)/\W.cell? ⟨j0,1,none⟩=some (.int .i64 x.f1)/\W.cell? ⟨j0,2,none⟩=some (.int .i64 x.f2)/\af (Below w3.heap.size w3 W))) (first|exact fY.o _ (cB (Below.refl _ _))|assumption) (first|(go_at_call 87;with_reducible(refine(Xz.o _).mono ?_);intro e w4 hI;obtain⟨Ig,Iz,rfl,hN,hb⟩:=hI;have cO:=ae (cm (kW.o _ tAc) (kW.o _ tAc).size hb);have auk:=fY.o _ cO.o;have zh:=ae hN;clear hN hb)|(go_at_call 86;with_reducible(refine(A8.o _ _ _ _ _ zh.o cO.o).mono ?_);intro e aZ hI;obtain⟨E,rfl,hN,hb⟩:=hI;have bq:=ae (cm cO.o cO.o.size hb);have Z9:=fY.o _ bq.o;have pW:=ae hN;clear hN hb)|(refine Kd.Ew bc w3.heap.size tA5 (.tmp 33) (.tmp 35) 27 33 (.agg #[.int .i64 0,.slice none 0 0]) 32 tA5 Tryz.underlying27 jR rfl tA3 tA3 (.slice E 2 2) (ku x (sV s)) l1 A' l1.length c' (fun k=>k<w.heap.size\/w3.heap.size<=k) (fun k=>k<w.heap.size) tA5 tA5 pW.o (Kd.fH jd.o bq.o) (fun k hk=>⟨Or.inl hk,fun e=>by have h1:=Kd.eK pW.o k e.symm;have h2:=Qe.o;omega⟩) (fun k hk=>Or.inr (bj bq.o.size hk)) bq.o bq.o.size agL.o ?_;intro v6 aY cd cG dI fh;rw[l6.o]at cd;obtain⟨aeO,at6,rfl⟩:=Kd.c3 cd;have dr:=ae cd;have ame:=fY.o _ cG;have cP:=ae cG;clear cd cG dI fh))
  rename_i hh
  clear hh v0 v1 v2 v3
  have lu:af (Kd.F bc aY (fun k=>k<aY.heap.size) aeO all.length all):=⟨Kd.ur (Kd.Kn (Kd.mb dr.o)) (fun k hk=>hk.2)⟩
  have kU:=ae (Below.refl aY.heap.size aY)
  have oM:=pR.o
  clear pW zh cO bq qY jd Xz A8 fY kW
  go_wp2
  go_loopg [9,10,11,13,14,38,49,56] all.length (fun bL lj Dx yK _ _ arT _ _ wr=>∃kk:Nat,kk<=all.length/\all.length-kk<=bL/\arT= .int .i64 kk/\af (iO wr aY.heap.size lj (fT s (all.take kk)))/\af (iO wr aY.heap.size Dx (rB s (all.take kk)))/\af (iO wr aY.heap.size yK (pE s (all.take kk)))/\af (mA lj Dx/\mA lj yK/\mA Dx yK)/\af (Below aY.heap.size aY wr))
  case atStart=>exact⟨0,Nat.zero_le _,tA0,rfl,⟨iO.nil _ _⟩,⟨iO.nil _ _⟩,⟨iO.nil _ _⟩,⟨mA.nil _,mA.nil _,mA.nil _⟩,kU⟩
  case round=>
   clear kU
   obtain⟨kk,eO,hg,rfl,Ed,pk,pn,iV,kU⟩:=hrel
   generalize mM:wr=aA at *
   clear mM
   obtain⟨DR,c9,rfl⟩:=Kd.c3 Ed.o.N
   obtain⟨mz,c10,rfl⟩:=Kd.c3 pk.o.N
   obtain⟨ic,c11,rfl⟩:=Kd.c3 pn.o.N
   have Ps:af ((fT s (all.take kk)).length<=62):=⟨bj (List.length_filter_le _ _) tAg⟩
   have Pq:af ((rB s (all.take kk)).length<=62):=⟨bj (List.length_filter_le _ _) tAg⟩
   have Pr:af ((pE s (all.take kk)).length<=62):=⟨bj (List.length_filter_le _ _) tAg⟩
   by_cases hlt:kk<all.length
   ·have cp:(kk:Int)< (all.length:Int):=by omega
    obtain⟨ad,aN,c1,e,x0,x1,fF,jq⟩:=xV (Kd.fH lu.o kU.o) kk hlt
    cases e
    have vI:=ae (xb.o _ (sL all kk hlt))
    have Nc:=sT hlt
    have Bq:af (fT s (all.take (kk+1))=if bu (bH all (kk:Int)).f1 s=0 then fT s (all.take kk)++[bH all (kk:Int)]else fT s (all.take kk)):=⟨by rw[Nc,fT,Sh];simp only[decide_eq_true_eq];rfl⟩
    have PW:af (rB s (all.take (kk+1))=if 0<bu (bH all (kk:Int)).f1 s then rB s (all.take kk)++[bH all (kk:Int)]else rB s (all.take kk)):=⟨by rw[Nc,rB,Sh];simp only[decide_eq_true_eq];rfl⟩
    have PY:af (pE s (all.take (kk+1))=if bu (bH all (kk:Int)).f1 s<0 then pE s (all.take kk)++[bH all (kk:Int)]else pE s (all.take kk)):=⟨by rw[Nc,pE,Sh];simp only[decide_eq_true_eq];rfl⟩
    have iA:=ae fF
    have ma:=ae jq
    clear fF jq Nc
    generalize bH all (kk:Int)=f at *
    generalize fT s (all.take kk)=aeB at *
    generalize rB s (all.take kk)=aez at *
    generalize pE s (all.take kk)=aeA at *
    have bR:=ae (ax (Below.refl aA.heap.size aA) (.cells #[.int .i64 f.f0,.slice aN f.f1.length c1] 33))
    have dh:=ae (a8 aA (.cells #[.int .i64 f.f0,.slice aN f.f1.length c1] 33))
    have uz:=bR
    obtain⟨dR,yo⟩:∃dR,bu f.f1 s=dR:=⟨_,rfl⟩
    have SU:=RJ (A:=aN) (c:=c1) (f:=f) (w:=aA.alloc (.cells #[.int .i64 f.f0,.slice aN f.f1.length c1] 33)) ⟨Kd.bN (Kd.gY ma.o) bR.o,iA.o,bj vI.o.few.1 tA0,vI.o.few.2⟩ (JS vI.o.up) s
    rw[yo]at SU
    have O7:=ae SU
    have jd:=ae yo
    clear yo SU
    by_cases SV:0<dR
    ·have hc1:dR>0:=SV
     go_wp2_with (first|(go_at_call 88;with_reducible(refine O7.o.mono ?_);rintro e bt ⟨rfl,hb⟩;have eZ:=ae (cm uz.o uz.o.size hb);have Wn:=ae hb;have aeG:bt.cell? ⟨aA.heap.size,0,none⟩=some (.int .i64 f.f0):=(mj (av dh.o hb) 0).trans rfl;have aeH:bt.cell? ⟨aA.heap.size,1,none⟩=some (.slice aN f.f1.length c1):=(mj (av dh.o hb) 1).trans rfl;have e8:=ae (zI (a:=f.f0) iA.o (Kd.fH ma.o eZ.o));have uu:=ae (cm kU.o kU.o.size eZ.o);have xD:=ae ((Ed.o.below bR.o).below hb);have xB:=ae ((pk.o.below bR.o).below hb);have xC:=ae ((pn.o.below bR.o).below hb);clear hb)|(at_builtin;(refine QV aY.heap.size rfl (.tmp 52) (.tmp 54) rfl (.slice mz aez.length c10) aez f [.int .i64 f.f0,.slice aN f.f1.length c1] rfl rfl e8.o xB.o uu.o uu.o.size (by have:=Pq.o;omega) ?_;intro v8 fq ry gD eY iq;obtain⟨jJ,c8,rfl⟩:=Kd.c3 ry.N;rw[j2]at ry iq ⊢;have Hy:=ae ry;have eh:=ae gD;have kJ:=ae eY;have zn:=ae iq;clear ry gD eY iq)))
     go_roundg (all.length- (kk+1))
     case measure=>omega
     case rel=>exact⟨kk+1,tA0,tA0,tA7,⟨by rw[Bq.o,if_neg tB1];exact xD.o.grown xB.o iV.o.1 kJ.o⟩,⟨by rw[PW.o,if_pos tB1];exact Hy.o⟩,⟨by rw[PY.o,if_neg tB1];exact xC.o.grown xB.o iV.o.2.2.symm kJ.o⟩,⟨⟨iV.o.1.grown xD.o zn.o,iV.o.2.1,(iV.o.2.2.symm.grown xC.o zn.o).symm⟩⟩,eh⟩
    ·by_cases Ca:dR<0
     ·have hc1:¬ dR>0:=SV
      have hc2:dR<0:=Ca
      go_wp2_with (first|(go_at_call 88;with_reducible(refine O7.o.mono ?_);rintro e bt ⟨rfl,hb⟩;have eZ:=ae (cm uz.o uz.o.size hb);have Wn:=ae hb;have aeG:bt.cell? ⟨aA.heap.size,0,none⟩=some (.int .i64 f.f0):=(mj (av dh.o hb) 0).trans rfl;have aeH:bt.cell? ⟨aA.heap.size,1,none⟩=some (.slice aN f.f1.length c1):=(mj (av dh.o hb) 1).trans rfl;have e8:=ae (zI (a:=f.f0) iA.o (Kd.fH ma.o eZ.o));have uu:=ae (cm kU.o kU.o.size eZ.o);have xD:=ae ((Ed.o.below bR.o).below hb);have xB:=ae ((pk.o.below bR.o).below hb);have xC:=ae ((pn.o.below bR.o).below hb);clear hb)|(at_builtin;(refine QV aY.heap.size rfl (.tmp 59) (.tmp 61) rfl (.slice ic aeA.length c11) aeA f [.int .i64 f.f0,.slice aN f.f1.length c1] rfl rfl e8.o xC.o uu.o uu.o.size (by have:=Pr.o;omega) ?_;intro v8 fq ry gD eY iq;obtain⟨jJ,c8,rfl⟩:=Kd.c3 ry.N;rw[j2]at ry iq ⊢;have Hy:=ae ry;have eh:=ae gD;have kJ:=ae eY;have zn:=ae iq;clear ry gD eY iq)))
      go_roundg (all.length- (kk+1))
      case measure=>omega
      case rel=>exact⟨kk+1,tA0,tA0,tA7,⟨by rw[Bq.o,if_neg tB1];exact xD.o.grown xC.o iV.o.2.1 kJ.o⟩,⟨by rw[PW.o,if_neg tB1];exact xB.o.grown xC.o iV.o.2.2 kJ.o⟩,⟨by rw[PY.o,if_pos tB1];exact Hy.o⟩,⟨⟨iV.o.1,iV.o.2.1.grown xD.o zn.o,iV.o.2.2.grown xB.o zn.o⟩⟩,eh⟩
     ·have hc1:¬ dR>0:=SV
      have hc2:¬ dR<0:=Ca
      go_wp2_with (first|(go_at_call 88;with_reducible(refine O7.o.mono ?_);rintro e bt ⟨rfl,hb⟩;have eZ:=ae (cm uz.o uz.o.size hb);have Wn:=ae hb;have aeG:bt.cell? ⟨aA.heap.size,0,none⟩=some (.int .i64 f.f0):=(mj (av dh.o hb) 0).trans rfl;have aeH:bt.cell? ⟨aA.heap.size,1,none⟩=some (.slice aN f.f1.length c1):=(mj (av dh.o hb) 1).trans rfl;have e8:=ae (zI (a:=f.f0) iA.o (Kd.fH ma.o eZ.o));have uu:=ae (cm kU.o kU.o.size eZ.o);have xD:=ae ((Ed.o.below bR.o).below hb);have xB:=ae ((pk.o.below bR.o).below hb);have xC:=ae ((pn.o.below bR.o).below hb);clear hb)|(at_builtin;(refine QV aY.heap.size rfl (.tmp 45) (.tmp 47) rfl (.slice DR aeB.length c9) aeB f [.int .i64 f.f0,.slice aN f.f1.length c1] rfl rfl e8.o xD.o uu.o uu.o.size (by have:=Ps.o;omega) ?_;intro v8 fq ry gD eY iq;obtain⟨jJ,c8,rfl⟩:=Kd.c3 ry.N;rw[j2]at ry iq ⊢;have Hy:=ae ry;have eh:=ae gD;have kJ:=ae eY;have zn:=ae iq;clear ry gD eY iq)))
      go_roundg (all.length- (kk+1))
      case measure=>omega
      case rel=>exact⟨kk+1,tA0,tA0,tA7,⟨by rw[Bq.o,if_pos tB1];exact Hy.o⟩,⟨by rw[PW.o,if_neg tB1];exact xB.o.grown xD.o iV.o.1.symm kJ.o⟩,⟨by rw[PY.o,if_neg tB1];exact xC.o.grown xD.o iV.o.2.1.symm kJ.o⟩,⟨⟨(iV.o.1.symm.grown xB.o zn.o).symm,(iV.o.2.1.symm.grown xC.o zn.o).symm,iV.o.2.2⟩⟩,eh⟩
   ·have cp:¬ (kk:Int)< (all.length:Int):=by omega
    have di:kk=all.length:=tA0
    have M8:=Ed.o
    have M6:=pk.o
    have M7:=pn.o
    have Fs:=iV.o
    rw[di,fJ]at M8 M6 M7 Fs
    have Tp:=Pq.o
    have aa3:=Pr.o
    have aa5:=Ps.o
    rw[di,fJ]at aa5 Tp aa3
    rw[di,fJ]
    clear Ed pk pn Ps Pq Pr hlt cp
    have cp:¬ (all.length:Int)< (all.length:Int):=tA0
    clear hg eO
    subst di
    obtain⟨st,hst⟩:∃st,fT s all=st:=⟨_,rfl⟩
    obtain⟨lo,mK⟩:∃lo,rB s all=lo:=⟨_,rfl⟩
    obtain⟨hi,Fy⟩:∃hi,pE s all=hi:=⟨_,rfl⟩
    rw[hst]at M8 aa5 Fs ⊢
    rw[mK]at M6 Tp Fs ⊢
    rw[Fy]at M7 aa3 Fs ⊢
    clear iV
    have iV:=ae Fs
    clear Fs
    have HST:=ae hst
    have za:=ae mK
    have WE:=ae Fy
    have mE:=ae (Kd.et M8.N (ok':=fun _=>True) (fun _ _=>trivial))
    have pk:=ae M6
    have pn:=ae M7
    have WQ:af (∀f∈lo,vU f):=⟨fun f hf=>xb.o f (by rw[<- mK]at hf;exact(List.mem_filter.1 hf).1)⟩
    have WG:af (∀f∈hi,vU f):=⟨fun f hf=>xb.o f (by rw[<- Fy]at hf;exact(List.mem_filter.1 hf).1)⟩
    clear hst mK Fy M8 M6 M7
    go_wp2
    go_loopg [9,16,18,66,72] lo.length (fun bL lj _ _ arY _ wr=>∃(kk:Nat) (xs:List aj),kk<=lo.length/\lo.length-kk<=bL/\arY= .int .i64 kk/\af (st++qE s (lo.take kk) hi=xs)/\af (xs.length=st.length+kk * hi.length)/\af (Kd.N bc 33 wr aY.heap.size (fun _=>True) lj xs)/\af (iO wr aY.heap.size (.slice mz lo.length c10) lo)/\af (iO wr aY.heap.size (.slice ic hi.length c11) hi)/\af (mA (.slice mz lo.length c10) lj/\mA (.slice ic hi.length c11) lj)/\af (Below aY.heap.size aY wr))
    case atStart=>exact⟨0,st,Nat.zero_le _,tA0,rfl,⟨by simp[qE]⟩,⟨tA2⟩,mE,pk,pn,⟨iV.o.1.symm,iV.o.2.1.symm⟩,kU⟩
    case round=>
     clear mE pk pn iV kU
     obtain⟨kk,xs,eO,hg,rfl,ly,Qq,mE,pk,pn,iV,kU⟩:=hrel
     generalize TU:wr=wp at *
     clear TU
     obtain⟨aeM,YH,rfl⟩:=Kd.c3 mE.o
     by_cases hlt:kk<lo.length
     ·have cp:(kk:Int)< (lo.length:Int):=by omega
      obtain⟨ga,qL,ca,u6,x0,x1,fF,jq⟩:=pk.o.at kk hlt
      subst u6
      have xc:=ae (WQ.o _ (sL lo kk hlt))
      have iM:af (qE s (lo.take (kk+1)) hi=qE s (lo.take kk) hi++hi.map (jI s (bH lo (kk:Int)))):=⟨by rw[sT hlt,qE,List.flatMap_append];simp[qE]⟩
      have Wf:=ae fF
      have pQ:=ae jq
      clear fF jq
      generalize bH lo (kk:Int)=a at *
      have dh:=ae (a8 wp (.cells #[.int .i64 a.f0,.slice qL a.f1.length ca] 33))
      have bR:=ae (ax (Below.refl wp.heap.size wp) (.cells #[.int .i64 a.f0,.slice qL a.f1.length ca] 33))
      have jU:=ae (Kd.dz mE.o bR.o)
      have iW:=ae (pk.o.below bR.o)
      have Hk:=ae (pn.o.below bR.o)
      have Hl:=ae (cm kU.o kU.o.size bR.o)
      have xt:af (∀k,(Value.slice aeM xs.length YH).ownBlock=some k->k≠wp.heap.size):=⟨fun k hk=>by
       obtain⟨cells,hc⟩:=Kd.tq mE.o k hk
       have:=az hc
       omega⟩
      have af9:=ae kU.o.size
      go_wp2
      obtain⟨ba,sG⟩:∃ba,ba=wp.heap.size:=⟨_,rfl⟩
      rw[<- sG]at dh xt ⊢
      have atA:af (aY.heap.size<=ba):=⟨by rw[sG];exact af9.o⟩
      clear sG
      generalize qB:wp.alloc (.cells #[.int .i64 a.f0,.slice qL a.f1.length ca] 33)=cz at *
      clear qB
      have Wd:=ae (Kd.fH pQ.o bR.o)
      go_loopg [9,18,72] hi.length (fun bL lj _ arZ wr=>∃(jj:Nat) (ys:List aj),jj<=hi.length/\hi.length-jj<=bL/\arZ= .int .i64 jj/\af (xs++(hi.take jj).map (jI s a)=ys)/\af (ys.length=xs.length+jj)/\af (Kd.N bc 33 wr aY.heap.size (fun _=>True) lj ys)/\af (iO wr aY.heap.size (.slice (some ⟨ga,0,none⟩) lo.length c10) lo)/\af (iO wr aY.heap.size (.slice ic hi.length c11) hi)/\af (mA (.slice (some ⟨ga,0,none⟩) lo.length c10) lj/\mA (.slice ic hi.length c11) lj)/\af (∀k,lj.ownBlock=some k->k≠ba)/\af (wr.heap[ba]?=some (.cells #[.int .i64 a.f0,.slice qL a.f1.length ca] 33 (0,0)))/\af (Kd.F cf wr (fun k=>k<aY.heap.size) qL a.f1.length a.f1)/\af (Below aY.heap.size aY wr))
      case atStart=>exact⟨0,xs,Nat.zero_le _,tA0,rfl,⟨tA2⟩,⟨tA2⟩,jU,iW,Hk,iV,xt,dh,Wd,Hl⟩
      case round=>
       clear jU iW Hk Hl xt dh Wd iV mE pk pn kU pQ
       obtain⟨jj,ys,yt,hg4,rfl,zy,p5,mE,pk,pn,iV,D6,dh,pQ,kU⟩:=hrel
       generalize TS:wr=wi at *
       clear TS
       obtain⟨Kh,L6,rfl⟩:=Kd.c3 mE.o
       by_cases nR:jj<hi.length
       ·have vg:(jj:Int)< (hi.length:Int):=by omega
        obtain⟨aui,lq,cb,ak5,x0,x1,fF,jq⟩:=pn.o.at jj nR
        subst ak5
        have nz:=ae (WG.o _ (sL hi jj nR))
        have ahB:af (xs++(hi.take (jj+1)).map (jI s a)=ys++[jI s a (bH hi (jj:Int))]):=⟨by rw[sT nR,List.map_append,<- List.append_assoc,zy.o];rfl⟩
        have Ws:=ae fF
        have ux:=ae jq
        clear fF jq
        generalize bH hi (jj:Int)=b at *
        have Ky:=ae (a8 wi (.cells #[.int .i64 b.f0,.slice lq b.f1.length cb] 33))
        have bR:=ae (ax (Below.refl wi.heap.size wi) (.cells #[.int .i64 b.f0,.slice lq b.f1.length cb] 33))
        have iL:af (∀k,(Value.slice Kh ys.length L6).ownBlock=some k->k≠wi.heap.size):=⟨fun k hk=>by
         obtain⟨cells,hc⟩:=Kd.tq mE.o k hk
         have:=az hc
         omega⟩
        have nJ:af ((ys.length+1) * 32<=140737488355328):=⟨by
         rw[p5.o,Qq.o]
         have h1:kk * hi.length<=62 * 62:=Nat.mul_le_mul tA0 tA0
         omega⟩
        have zN:=sg xc.o.b s
        have hcb:=sg nz.o.b s
        have ahK:af (IntKind.i64.wrap (-bu b.f1 s)= -bu b.f1 s):=⟨by rw[IntKind.wrap_i64];omega⟩
        have pT:af (-bu b.f1 s= -bu b.f1 s/\(-bu b.f1 s).natAbs<=1000/\(bu a.f1 s).natAbs<=1000):=⟨rfl,tA0,tA0⟩
        have G3:af (∀W:World,Below aY.heap.size aY W->Kd.F cf W (fun k=>k<aY.heap.size) lq b.f1.length b.f1->Calls Tryz.prog 88 #[.agg #[.int .i64 b.f0,.slice lq b.f1.length cb],.string s] W fun e w'=>e= .returned (.int .i64 (bu b.f1 s))/\Below W.heap.size W w'):=⟨fun W hb hF=>RJ ⟨Kd.gY hF,Ws.o,bj nz.o.few.1 tA0,nz.o.few.2⟩ (JS nz.o.up) s⟩
        have agl:af (∀W:World,Kd.F cf W (fun k=>k<aY.heap.size) qL a.f1.length a.f1->Calls Tryz.prog 88 #[.agg #[.int .i64 a.f0,.slice qL a.f1.length ca],.string s] W fun e w'=>e= .returned (.int .i64 (bu a.f1 s))/\Below W.heap.size W w'):=⟨fun W hF=>RJ ⟨Kd.gY hF,Wf.o,bj xc.o.few.1 tA0,xc.o.few.2⟩ (JS xc.o.up) s⟩
        have ahx:af (∀W:World,Kd.F cf W (fun k=>k<aY.heap.size) qL a.f1.length a.f1->Kd.F cf W (fun k=>k<aY.heap.size) lq b.f1.length b.f1->Calls Tryz.prog 89 #[.agg #[.int .i64 a.f0,.slice qL a.f1.length ca],.int .i64 (-bu b.f1 s),.agg #[.int .i64 b.f0,.slice lq b.f1.length cb],.int .i64 (bu a.f1 s)] W (oB W (jI s a b))):=⟨fun W hF hG=>EA ⟨Kd.gY hF,Wf.o,bj xc.o.few.1 tA0,xc.o.few.2⟩ ⟨Kd.gY hG,Ws.o,bj nz.o.few.1 tA0,nz.o.few.2⟩ (bj pT.o.2.1 tA0) (bj pT.o.2.2 tA0) (fun t ht=>bj (xc.o.b t ht) tA0) (fun t ht=>bj (nz.o.b t ht) tA0) (bj xc.o.c tA0) (bj nz.o.c tA0) (by have h1:=xc.o.few.1;have h2:=nz.o.few.1;omega)⟩
        clear zN hcb
        have Kz:=ae (av dh.o bR.o)
        have OT:=ae (Kd.fH pQ.o bR.o)
        have Wp:=ae (Kd.fH ux.o bR.o)
        have WR:=ae (Kd.dz mE.o bR.o)
        have ahp:=ae (pk.o.below bR.o)
        have ahq:=ae (pn.o.below bR.o)
        have GY:=ae (cm kU.o kU.o.size bR.o)
        go_wp2
        obtain⟨hP,yn⟩:∃hP,hP=wi.heap.size:=⟨_,rfl⟩
        rw[<- yn]at Ky iL ⊢
        clear yn
        generalize Cj:wi.alloc (.cells #[.int .i64 b.f0,.slice lq b.f1.length cb] 33)=cr at *
        clear Cj
        have p0:cr.cell? ⟨ba,0,none⟩=some (.int .i64 a.f0):=ah Kz.o 0
        have p1:cr.cell? ⟨ba,1,none⟩=some (.slice qL a.f1.length ca):=ah Kz.o 1
        have oa:cr.cell? ⟨hP,0,none⟩=some (.int .i64 b.f0):=ah Ky.o 0
        have lN:cr.cell? ⟨hP,1,none⟩=some (.slice lq b.f1.length cb):=ah Ky.o 1
        have y8:af (∀W:World,W.heap[ba]?=some (.cells #[.int .i64 a.f0,.slice qL a.f1.length ca] 33 (0,0))->W.heap[hP]?=some (.cells #[.int .i64 b.f0,.slice lq b.f1.length cb] 33 (0,0))->(W.cell? ⟨ba,0,none⟩=some (.int .i64 a.f0)/\W.cell? ⟨ba,1,none⟩=some (.slice qL a.f1.length ca)/\W.cell? ⟨hP,0,none⟩=some (.int .i64 b.f0)/\W.cell? ⟨hP,1,none⟩=some (.slice lq b.f1.length cb))):=⟨fun W h1 h2=>⟨ah h1 0,ah h1 1,ah h2 0,ah h2 1⟩⟩
        have HOW:af (∀k,(Value.slice Kh ys.length L6).ownBlock=some k->k<cr.heap.size):=⟨fun k hk=>by
         obtain⟨cells,hc⟩:=Kd.tq WR.o k hk
         exact az hc⟩
        have fY:af (∀W:World,Below cr.heap.size cr W->(W.cell? ⟨ba,0,none⟩=some (.int .i64 a.f0)/\W.cell? ⟨ba,1,none⟩=some (.slice qL a.f1.length ca)/\W.cell? ⟨hP,0,none⟩=some (.int .i64 b.f0)/\W.cell? ⟨hP,1,none⟩=some (.slice lq b.f1.length cb))):=⟨fun W hb=>⟨bw hb p0,bw hb p1,bw hb oa,bw hb lN⟩⟩
        go_region_held3 (fun W=>(W.cell? ⟨ba,0,none⟩=some (.int .i64 a.f0)/\W.cell? ⟨ba,1,none⟩=some (.slice qL a.f1.length ca)/\W.cell? ⟨hP,0,none⟩=some (.int .i64 b.f0)/\W.cell? ⟨hP,1,none⟩=some (.slice lq b.f1.length cb))) (first|exact fY.o _ (cB (Below.refl _ _))|assumption|exact fY.o _ (ax iU.o _)) (first|(go_at_call 88;with_reducible(refine(G3.o _ (cB GY.o) (Kd.afm Wp.o)).mono ?_);intro e bt hI;obtain⟨rfl,hb⟩:=hI;have eZ:=ae (cm (cB (Below.refl cr.heap.size cr)) (bl _) hb);have amf:=fY.o _ eZ.o;clear hb)|(go_at_call 88;with_reducible(refine(agl.o _ (Kd.fH OT.o eZ.o)).mono ?_);intro e fq hI;obtain⟨rfl,hb⟩:=hI;have eh:=ae (cm eZ.o eZ.o.size hb);have wo:=fY.o _ eh.o;clear hb)|(go_at_call 89;rw[ahK.o];with_reducible(refine(ahx.o _ (Kd.fH OT.o eh.o) (Kd.fH Wp.o eh.o)).mono ?_);intro e dG hI;unfold oB at hI;obtain⟨p9,qi,rfl,hN,hb⟩:=hI;have iU:=ae (cm eh.o eh.o.size hb);have e8:=ae (Kd.nx (tz (a:=(jI s a b).f0) hN) (fun k hk=>bj eh.o.size hk));have aul:=fY.o _ iU.o;clear hb hN)|(refine Kd.th bc aY.heap.size tA5 (.tmp 76) (.tmp 87) 27 33 (.agg #[.int .i64 0,.slice none 0 0]) 32 tA5 Tryz.underlying27 jR rfl tA3 tA3 (.slice Kh ys.length L6) ys (jI s a b) [.int .i64 (jI s a b).f0,.slice p9 (jI s a b).f1.length qi] (fun _=>True) (fun k=>cr.heap.size<=k) tA5 ?hx e8.o (fun k hk=>⟨trivial,fun e=>by have h1:=HOW.o k e.symm;omega⟩) (fun _ _=>trivial) (Kd.dz WR.o iU.o) (cm GY.o GY.o.size iU.o) (cm GY.o GY.o.size iU.o).size nJ.o ?_;(case hx=>go_simp);intro v10 DD B6 IJ zR IM;obtain⟨atm,ajM,rfl⟩:=Kd.c3 B6;rw[j2]at B6 IM ⊢;have hx1:=gf (av Kz.o iU.o) zR (fun e=>D6.o _ e.symm rfl);have hx2:=gf (av Ky.o iU.o) zR (fun e=>iL.o _ e.symm rfl);have auj:=y8.o _ hx1 hx2;have ahL:=ae hx1;have agZ:=ae B6;have af4:=ae IJ;have Pg:=ae zR;have PX:=ae IM;clear hx1 hx2 B6 IJ zR IM))
        rename_i hh
        clear hh p0 p1 oa lN
        have Xg:=ae (ahp.o.below iU.o)
        have Xh:=ae (ahq.o.below iU.o)
        have Py:af (∀k,(Value.slice Kh ys.length L6).ownBlock=some k->aY.heap.size<=k):=⟨fun k hk=>Kd.eK mE.o k hk⟩
        go_wp2
        go_roundg (hi.length- (jj+1))
        case measure=>omega
        case rel=>exact⟨jj+1,ys++[jI s a b],tA0,tA0,tA7,ahB,⟨by rw[j2,p5.o];omega⟩,agZ,⟨Xg.o.step (fun k hk hlt=>Pg.o.block k hlt (fun e=>by
          rcases hk with hk|hk
          ·have:=Py.o k e.symm;omega
          ·exact iV.o.1 k hk e.symm))⟩,⟨Xh.o.step (fun k hk hlt=>Pg.o.block k hlt (fun e=>by
          rcases hk with hk|hk
          ·have:=Py.o k e.symm;omega
          ·exact iV.o.2 k hk e.symm))⟩,⟨iV.o.1.grown Xg.o PX.o,iV.o.2.grown Xh.o PX.o⟩,⟨fun k hk e=>by
          rcases PX.o with h1|⟨b',h1,h2⟩
          ·exact D6.o k (h1▸hk) e
          ·rw[h1]at hk
           simp only[Option.some.injEq]at hk
           have:=az (av Kz.o iU.o)
           omega⟩,ahL,⟨Kd.afn (Kd.fH OT.o iU.o) Pg.o (fun k hk e=>by have:=Py.o k e.symm;omega)⟩,af4⟩
       ·have vg:¬ (jj:Int)< (hi.length:Int):=by omega
        have mG:jj=hi.length:=tA0
        have CI:=zy.o
        have T1:=p5.o
        rw[mG,fJ]at CI
        rw[mG]at T1
        have ox:af (st++qE s (lo.take (kk+1)) hi=ys):=⟨by rw[iM.o,<- List.append_assoc,ly.o];exact CI⟩
        have kV:af (ys.length=st.length+(kk+1) * hi.length):=⟨by rw[T1,Qq.o,Nat.add_mul];omega⟩
        clear CI T1 mG
        go_wp2
        go_roundg (lo.length- (kk+1))
        case measure=>omega
        case rel=>exact⟨kk+1,ys,tA0,tA0,tA7,ox,kV,mE,pk,pn,iV,kU⟩
     ·have cp:¬ (kk:Int)< (lo.length:Int):=by omega
      have di:kk=lo.length:=tA0
      have vt:=ly.o
      have Jk:=Qq.o
      rw[di,fJ]at vt
      have HLEN:af (xs.length<=1000):=⟨by
       have h1:=UM s all
       rw[HST.o,za.o,WE.o]at h1
       have h2:=aqB (a:=st.length) (l:=lo.length) (h:=hi.length) (n:=0) tA0
       rw[Jk,di]
       omega⟩
      have TL:∀f∈st,vU f:=fun f hf=>xb.o f (by rw[<- HST.o]at hf;exact(List.mem_filter.1 hf).1)
      have hall:∀f∈xs,GU f/\jy 16 f:=fun f hf=>by
       rw[<- vt]at hf
       rcases List.mem_append.1 hf with hf|hf
       ·exact⟨(TL f hf).alM,(TL f hf).few.mono tA0⟩
       ·obtain⟨a,ha,b,hb,rfl⟩:=aqA hf
        exact aqw s (WQ.o a ha) (WG.o b hb)
      have P0:=ae (ad4 (c:=YH) (Kd.ej mE.o).2.2 HLEN.o (fun f hf=>(hall f hf).1))
      have qX:af (Names rest (dT xs)):=⟨J3 ⟨K3.o,HLEN.o,fun f hf=>⟨bj (hall f hf).2.1 tA0,(hall f hf).2.2⟩⟩⟩
      have vN:af (lO rest (dT xs)=(r0,r1,r)):=⟨by
       have:=bT.o
       rw[HST.o,za.o,WE.o,vt]at this
       exact this⟩
      have Kv:=ae (cm cP.o cP.o.size kU.o)
      have ag1:=ae (Kd.et (Kd.dz mD.o Kv.o) (ok':=fun k=>w.heap.size+2<=k) (fun k hk=>Kd.eK mD.o k hk.symm))
      have DX:=ae (cm bS.o bS.o.size Kv.o)
      have XQ:af (w.heap.size+2<=wp.heap.size):=⟨bj kn.o Kv.o.size⟩
      have ahQ:=ae (av nI.o Kv.o)
      clear di vt Jk TL hall eO hg
      go_wp2_with (first|(go_at_call 84;with_reducible(refine P0.o.mono ?_);intro e bt hI;obtain⟨atH,yb,rfl,hN,hb⟩:=hI;have eZ:=ae hb;have Hz:=ae (NV (Kd.dz ag1.o hb) (Kd.gp (Kd.et hN (ok':=fun k=>w.heap.size+2<=k) (fun k hk=>bj XQ.o hk)) XQ.o) qX.o vN.o);have ahP:=ae (av ahQ.o hb);have uu:=ae (cm DX.o DX.o.size hb);clear hb hN)|(go_at_call 80;with_reducible(refine Hz.o.mono ?_);intro e dG hI;obtain⟨Y,c0,ek,ep,rfl,h0,h1,hb⟩:=hI;have iU:=ae (cm uu.o uu.o.size hb.o);have aX:=av ahP.o hb.o;have z0:dG.cell? ⟨w.heap.size+1,0,none⟩=some (.slice none 0 0):=(mj aX 0).trans rfl;have c2:dG.cell? ⟨w.heap.size+1,1,none⟩=some (.slice none 0 0):=(mj aX 1).trans rfl;have g0:=ar aX 0;have g1:=ar aX 1;have eD:=az aX;have dL:=ae aX;clear aX;clear hb))
      have q1:=a6 (a6 dL.o 0 (.slice Y r0.length c0) rfl) 1 (.slice ek r1.length ep) rfl
      refine bodyPost_ret (sQ rfl _ _ (w.heap.size+1) 29 #[.slice Y r0.length c0,.slice ek r1.length ep] (0,0) _ rfl q1 Tryz.underlying29 rfl tA1) rfl ?_
      have hb:=(iU.o.setCell (p:=⟨w.heap.size+1,0,none⟩) (Nat.le_succ _) (.slice Y r0.length c0)).setCell (p:=⟨w.heap.size+1,1,none⟩) (Nat.le_succ _) (.slice ek r1.length ep)
      have hne:∀k,w.heap.size+2<=k->k≠w.heap.size+1:=fun k hk=>tA0
      exact⟨Y,c0,ek,ep,rfl,yN (Kd.cw (p:=⟨w.heap.size+1,1,none⟩) (Kd.cw (p:=⟨w.heap.size+1,0,none⟩) h0.o hne _) hne _) (Kd.cw (p:=⟨w.heap.size+1,1,none⟩) (Kd.cw (p:=⟨w.heap.size+1,0,none⟩) h1.o hne _) hne _) (NW qX.o vN.o),hb⟩
 ·rw[if_neg fW]at e
  simp only[Prod.mk.injEq]at e
  obtain⟨rfl,rfl,rfl⟩:=e
  have zZ:(ro !=0)=true:=bne_iff_ne.2 fW
  go_wp2_with (go_at_call 85;with_reducible(refine qY.o.mono ?_);rintro e w2 ⟨X,cx,rfl,hN,hb⟩;have bq:=ae (au bI.o hb);have aX:=av eC.o hb;have z0:w2.cell? ⟨w.heap.size+1,0,none⟩=some (.slice none 0 0):=(mj aX 0).trans rfl;have c2:w2.cell? ⟨w.heap.size+1,1,none⟩=some (.slice none 0 0):=(mj aX 1).trans rfl;have g0:=ar aX 0;have g1:=ar aX 1;have eD:=az aX;have dL:=ae aX;clear aX;clear hb hN)
  have q1:=aH (a6 (a6 dL.o 0 (.slice none 0 0) rfl) 1 (.slice none 0 0) rfl) (.cells #[.string x.f0,.int .i64 x.f1,.int .i64 x.f2] 77)
  refine bodyPost_ret (sQ rfl _ _ (w.heap.size+1) 29 #[.slice none 0 0,.slice none 0 0] (0,0) _ rfl q1 Tryz.underlying29 rfl tA1) rfl ?_
  exact⟨none,0,none,0,rfl,cD.none _,ax ((bq.o.setCell (p:=⟨w.heap.size+1,0,none⟩) (Nat.le_succ _) _).setCell (p:=⟨w.heap.size+1,1,none⟩) (Nat.le_succ _) _) _⟩
end
theorem atl (W:World):Kd.eI bc W (fun _=>False) z33 (Value.agg #[.int .i64 0,.slice none 0 0]).cells.toList:=fun W' _=>ab2 W' z33 (bl 0) (Kd.yY _ _)
theorem af2 (n:Nat)(hn:n<=1000000)(W:World):Calls Tryz.prog 131 #[.slice none 0 0,.int .i64 (n:Int)] W fun e w'=>∃X cap,e= .returned (.slice X 0 cap)/\Kd.N bc 33 w' W.heap.size (fun k=>W.heap.size<=k) (.slice X 0 cap) []/\Below W.heap.size W w':=by
 have h0:¬ (n:Int)<0:=tA0
 by_cases hp:0<n
 ·have TF:(0:Int)< (n:Int):=by omega
  have ayc:(n:Int)>0:=TF
  have tL:wrap64 (n:Int)=(n:Int):=eM _ tA0
  go_enter Tryz.func131,Tryz.ntmps131
  go_wp2_with (at_builtin;(refine Kd.aiB bc W.heap.size rfl (.tmp 20) (.tmp 21) 27 3 33 (.agg #[.int .i64 0,.slice none 0 0]) 32 rfl Tryz.underlying27 Tryz.underlying3 jR rfl tA3 tA3 (.slice none 0 0) [] z33 (n:Int) (fun k=>W.heap.size<=k) rfl rfl (atl W) (fun k hk=>hk) (Kd.i1 _ _ _ _ _) tA0 (Below.refl _ _) (bl _) tAb ?_;intro v6 aY cd cG dI fh;obtain⟨dn,c6,rfl⟩:=Kd.c3 cd;have dr:=ae (Kd.aiF cd (Nat.zero_le _));have cP:=ae cG;clear cd cG dI fh))
  go_ret
  exact⟨dn,c6,rfl,dr.o,cP.o⟩
 ·have h1:n=0:=by omega
  subst h1
  go_enter Tryz.func131,Tryz.ntmps131
  go_wp2
  go_ret
  exact⟨none,0,rfl,Kd.i1 _ _ _ _ _,Below.refl _ _⟩
theorem ae6 {A A':Option Addr}{c c' B b0:Nat}{l l':List aj}{W:World}(hB:W.heap[B]?=some (.cells #[.slice A l.length c,.slice A' l'.length c'] 27 (0,0)))(h:Kd.F bc W (fun k=>k<b0) A l.length l)(h':Kd.F bc W (fun k=>k<b0) A' l'.length l')(hb0:b0<=W.heap.size)(hl:l.length<=1000)(hl':l'.length<=1000):
  Calls Tryz.prog 78 #[.slice (some ⟨B,0,none⟩) 2 2] W fun e w'=>∃X cap,e= .returned (.slice X (l++l').length cap)/\Kd.F bc w' (fun k=>k<b0\/W.heap.size<=k) X (l++l').length (l++l')/\Below W.heap.size W w':=by
 have jz:=ae hB
 have fX:=ae h
 have agr:=ae h'
 have aK:W.cell? ⟨B,0,none⟩=some (.slice A l.length c):=ah hB 0
 have aC:W.cell? ⟨B,1,none⟩=some (.slice A' l'.length c'):=ah hB 1
 clear hB h h'
 go_enter Tryz.func78,Tryz.ntmps78
 go_wp2
 go_loopg [3,5,11] 2 (fun bL kD _ yK wr=>∃kk:Nat,kk<=2/\2-kk<=bL/\yK= .int .i64 kk/\((kk=0/\kD= .int .i64 0)\/(kk=1/\kD= .int .i64 (l.length:Int))\/(kk=2/\kD= .int .i64 ((l.length+l'.length:Nat):Int)))/\W=wr)
 case atStart=>exact⟨0,tA0,tA0,rfl,.inl ⟨rfl,rfl⟩,rfl⟩
 case round=>
  obtain⟨kk,eO,hg,rfl,hd,hw⟩:=hrel
  subst hw
  obtain⟨rfl,rfl⟩|⟨rfl,rfl⟩|⟨rfl,rfl⟩:=hd
  ·go_wp2
   go_roundg 1
   case measure=>omega
   case rel=>exact⟨1,tA0,tA0,rfl,.inr (.inl ⟨rfl,tA7⟩),rfl⟩
  ·go_wp2
   go_roundg 0
   case measure=>omega
   case rel=>exact⟨2,tA0,tA0,rfl,.inr (.inr ⟨rfl,tA7⟩),rfl⟩
  ·have hgr:=af2 (l.length+l'.length) tA0 W
   rw[Int.natCast_add]at hgr
   have WD:=ae hgr
   clear hgr
   go_wp2_with (go_at_call 131;with_reducible(refine WD.o.mono ?_);rintro e w2 ⟨X,cap,rfl,hN,hb⟩;have gJ:=ae hN;have aI:=ae hb;clear hb hN)
   have dB:=ae (az jz.o)
   clear aK aC WD
   go_loopg [6,8,27] 2 (fun bL qG _ U9 Kb=>∃(kk:Nat) (xs:List aj),kk<=2/\2-kk<=bL/\U9= .int .i64 kk/\af (xs=(if kk=0 then []else if kk=1 then []++l else l++l'))/\af (Kd.N bc 33 Kb W.heap.size (fun k=>k<b0\/W.heap.size<=k) qG xs)/\af (Below W.heap.size W Kb))
   case atStart=>exact⟨0,[],tA0,tA0,rfl,⟨rfl⟩,⟨Kd.et gJ.o (fun _ h=> .inr h)⟩,aI⟩
   case round=>
    clear gJ aI
    obtain⟨kk,xs,eO,hg2,rfl,ly,bm,rV⟩:=hrel
    generalize aoG:wr=Kb at *
    clear aoG
    have xJ:=ae (av jz.o rV.o)
    have agx:=ae (Kd.fH fX.o rV.o)
    have agy:=ae (Kd.fH agr.o rV.o)
    obtain rfl|rfl|rfl:kk=0\/kk=1\/kk=2:=tA0
    all_goals (have vt:=ly.o;simp only[if_true,if_false,Nat.one_ne_zero,List.nil_append,if_neg (show ¬ (2:Nat)=0 by decide),if_neg (show ¬ (2:Nat)=1 by decide),if_neg (show ¬ (1:Nat)=0 by decide)]at vt;subst vt;clear ly)
    all_goals (obtain⟨dn,c6,rfl⟩:=Kd.c3 bm.o)
    ·have v0:Kb.cell? ⟨B,0,none⟩=some (.slice A l.length c):=ah xJ.o 0
     go_wp2_with (at_builtin;(refine Kd.Ev bc W.heap.size rfl (.tmp 31) (.tmp 32) 27 33 (.agg #[.int .i64 0,.slice none 0 0]) 32 rfl Tryz.underlying27 jR rfl tA3 tA3 (.slice dn 0 c6) ([]:List aj) l A l.length c (fun k=>k<b0\/W.heap.size<=k) (fun k=>k<b0) rfl rfl bm.o agx.o (fun k hk=>⟨.inl hk,fun e=>by have:=Kd.eK bm.o k e.symm;omega⟩) (fun k hk=> .inr (bj rV.o.size hk)) rV.o rV.o.size (by show(0+l.length) * 32<=140737488355328;omega) ?_;intro v7 bt iG oL qy u7;have nG:=ae iG;have eZ:=ae oL;clear iG oL qy u7))
     go_roundg 1
     case measure=>omega
     case rel=>exact⟨1,[]++l,tA0,tA0,rfl,⟨rfl⟩,nG,eZ⟩
    ·have v0:Kb.cell? ⟨B,1,none⟩=some (.slice A' l'.length c'):=ah xJ.o 1
     go_wp2_with (at_builtin;(refine Kd.Ev bc W.heap.size rfl (.tmp 31) (.tmp 32) 27 33 (.agg #[.int .i64 0,.slice none 0 0]) 32 rfl Tryz.underlying27 jR rfl tA3 tA3 (.slice dn xs.length c6) xs l' A' l'.length c' (fun k=>k<b0\/W.heap.size<=k) (fun k=>k<b0) rfl rfl bm.o agy.o (fun k hk=>⟨.inl hk,fun e=>by have:=Kd.eK bm.o k e.symm;omega⟩) (fun k hk=> .inr (bj rV.o.size hk)) rV.o rV.o.size (by show(xs.length+l'.length) * 32<=140737488355328;omega) ?_;intro v7 bt iG oL qy u7;have nG:=ae iG;have eZ:=ae oL;clear iG oL qy u7))
     go_roundg 0
     case measure=>omega
     case rel=>exact⟨2,xs++l',tA0,tA0,rfl,⟨rfl⟩,nG,eZ⟩
    ·go_wp2
     go_ret
     exact⟨dn,c6,rfl,Kd.mb bm.o,rV.o⟩
def FX (x y:aq):aq:=⟨x.f0,max x.f1 y.f1,min x.f2 y.f2⟩
def mX (l r:List aq):List aq:=List.zipWith FX l r
theorem Zv (W:World)(x:aq):Kd.eI cu W (fun _=>False) x [.string x.f0,.int .i64 x.f1,.int .i64 x.f2]:=fun W' _=>⟨[.string x.f0],[.int .i64 x.f1,.int .i64 x.f2],rfl,rfl,[.int .i64 x.f1],[.int .i64 x.f2],rfl,rfl,rfl⟩
theorem acn {l r:List aq}{k:Nat}(h:k<l.length)(h':k<r.length):mX (l.take (k+1)) (r.take (k+1))=mX (l.take k) (r.take k)++[FX (aw l (k:Int)) (aw r (k:Int))]:=by
 rw[kr h,kr h']
 unfold mX
 rw[List.zipWith_append (by rw[bQ,bQ];omega)]
 simp[aw,List.getD,b8 h,b8 h']
theorem ack {l r:List aq}{k:Nat}(h:k<=l.length)(h':k<=r.length):(mX (l.take k) (r.take k)).length=k:=by
 unfold mX
 rw[List.length_zipWith,bQ,bQ]
 omega
theorem acm {l r:List aq}(h:∀s∈l,s.f0.size<=100):∀s∈mX l r,s.f0.size<=100:=by
 induction l generalizing r with
 | nil=>simp[mX]
 | cons x l ih=>
  cases r with
  | nil=>simp[mX]
  | cons y r=>
   intro s hs
   unfold mX at hs
   rw[List.zipWith_cons_cons]at hs
   rcases List.mem_cons.1 hs with rfl|hs
   ·exact h x tA2
   ·exact ih (fun t ht=>h t (jk _ ht)) s hs
def JD (l0:List aq)(l1:List aj)(r0:List aq)(r1:List aj):List aq×List aj×Int:=if np l0 l1 r0 r1=0 then lO (mX l0 r0) (l1++r1)else([],[],np l0 l1 r0 r1)
theorem Gt {l0:List aq}{l1:List aj}{r0:List aq}{r1:List aj}(h:np l0 l1 r0 r1=0):cQ l0 l1=0/\cQ r0 r1=0/\l0.map (·.f0)=r0.map (·.f0):=by
 unfold np at h
 by_cases h1:cQ l0 l1=0
 ·rw[if_pos h1]at h
  by_cases h2:cQ r0 r1=0
  ·rw[if_pos h2]at h
   by_cases h3:l0.map (·.f0)=r0.map (·.f0)
   ·exact⟨h1,h2,h3⟩
   ·rw[if_neg h3]at h;exact absurd h tA3
  ·rw[if_neg h2]at h;exact absurd h h2
 ·rw[if_neg h1]at h;exact absurd h h1
section
variable {A A' X X':Option Addr}{c c' cx cx':Nat}{l0 r0:List aq}{l1 r1:List aj}{w:World}
theorem aiv (h:cD A c l0 A' c' l1 w)(g:cD X cx r0 X' cx' r1 w){q0:List aq}{q1:List aj}{r:Int}(e:JD l0 l1 r0 r1=(q0,q1,r)):
  Calls Tryz.prog 26 #[.agg #[.slice A l0.length c,.slice A' l1.length c'],.agg #[.slice X r0.length cx,.slice X' r1.length cx']] w (zA w q0 q1 r):=by
 have bI:=ae (ax (ax (ax (Below.refl w.heap.size w) (.cells #[.slice A l0.length c,.slice A' l1.length c'] 29)) (.cells #[.slice X r0.length cx,.slice X' r1.length cx'] 29)) (.cells #[.slice none 0 0,.slice none 0 0] 29))
 have cJ:=ae (aH (aH (a8 w (.cells #[.slice A l0.length c,.slice A' l1.length c'] 29)) (.cells #[.slice X r0.length cx,.slice X' r1.length cx'] 29)) (.cells #[.slice none 0 0,.slice none 0 0] 29))
 have cq:=ae (aH (by simpa using a8 (w.alloc (.cells #[.slice A l0.length c,.slice A' l1.length c'] 29)) (.cells #[.slice X r0.length cx,.slice X' r1.length cx'] 29):((w.alloc (.cells #[.slice A l0.length c,.slice A' l1.length c'] 29)).alloc (.cells #[.slice X r0.length cx,.slice X' r1.length cx'] 29)).heap[w.heap.size+1]?=some (.cells #[.slice X r0.length cx,.slice X' r1.length cx'] 29 (0,0))) (.cells #[.slice none 0 0,.slice none 0 0] 29))
 have eC:=ae (by simpa using a8 ((w.alloc (.cells #[.slice A l0.length c,.slice A' l1.length c'] 29)).alloc (.cells #[.slice X r0.length cx,.slice X' r1.length cx'] 29)) (.cells #[.slice none 0 0,.slice none 0 0] 29):(((w.alloc (.cells #[.slice A l0.length c,.slice A' l1.length c'] 29)).alloc (.cells #[.slice X r0.length cx,.slice X' r1.length cx'] 29)).alloc (.cells #[.slice none 0 0,.slice none 0 0] 29)).heap[w.heap.size+1+1]?=some (.cells #[.slice none 0 0,.slice none 0 0] 29 (0,0)))
 have xK:af ((((w.alloc (.cells #[.slice A l0.length c,.slice A' l1.length c'] 29)).alloc (.cells #[.slice X r0.length cx,.slice X' r1.length cx'] 29)).alloc (.cells #[.slice none 0 0,.slice none 0 0] 29)).heap.size=w.heap.size+3):=⟨tA2⟩
 have a7:=ae h
 have HG:=ae g
 obtain⟨Oe,Nd⟩:∃Oe,np l0 l1 r0 r1=Oe:=⟨_,rfl⟩
 have G5:=ae (YP (h.below bI.o) (g.below bI.o) Nd)
 unfold JD at e
 rw[Nd]at e
 have P2:=ae Nd
 clear h g Nd
 go_enter Tryz.func26,Tryz.ntmps26
 go_wp2_with (fail)
 generalize ((w.alloc (.cells #[.slice A l0.length c,.slice A' l1.length c'] 29)).alloc (.cells #[.slice X r0.length cx,.slice X' r1.length cx'] 29)).alloc (.cells #[.slice none 0 0,.slice none 0 0] 29)=w1 at *
 have e0:w1.cell? ⟨w.heap.size,0,none⟩=some (.slice A l0.length c):=ah cJ.o 0
 have e1:w1.cell? ⟨w.heap.size,1,none⟩=some (.slice A' l1.length c'):=ah cJ.o 1
 have e2:w1.cell? ⟨w.heap.size+1,0,none⟩=some (.slice X r0.length cx):=ah cq.o 0
 have e3:w1.cell? ⟨w.heap.size+1,1,none⟩=some (.slice X' r1.length cx'):=ah cq.o 1
 by_cases fW:Oe=0
 ·rw[if_pos fW]at e
  subst fW
  have bT:=ae e
  obtain⟨hv0,nU,hv2⟩:=Gt P2.o
  have hlen:l0.length=r0.length:=tD4
  have pg:=ae hlen
  have jL:=ae (iT hv0)
  have nH:=ae (iT nU)
  clear hv0 nU hv2 hlen e
  go_wp2_with (go_at_call 77;with_reducible(refine G5.o.mono ?_);rintro e w2 ⟨rfl,hb⟩;have aI:=ae (au bI.o hb);have jW:=ae (av cJ.o hb);have l9:=ae (av cq.o hb);have nI:=ae (av eC.o hb);have e5:=ae (bj (Nat.le_of_eq xK.o.symm) hb.size);have aK:(w2.alloc (.cells #[.slice none 0 0,.slice none 0 0] 29)).cell? ⟨w.heap.size,0,none⟩=some (.slice A l0.length c):=(mj (aH jW.o _) 0).trans rfl;clear hb)
  have jU:=ae (a8 w2 (.cells #[.slice none 0 0,.slice none 0 0] 29))
  have iW:=ae (ax (Below.refl w2.heap.size w2) (.cells #[.slice none 0 0,.slice none 0 0] 29))
  have Fz:=jL.o.len
  have aoi:r0.length<=8:=nH.o.len
  clear aK e0 e1 e2 e3
  go_loopg [8,9,10,23] l0.length (fun bL _ _ _ JW wr=>∃(kk:Nat) (v:Value) (xs:List aq),kk<=l0.length/\l0.length-kk<=bL/\JW= .int .i64 kk/\af (mX (l0.take kk) (r0.take kk)=xs)/\af (Kd.N cu 77 wr (w2.heap.size+1) (fun k=>some k=v.ownBlock) v xs)/\af (wr.heap[w2.heap.size]?=some (.cells #[v,.slice none 0 0] 29 (0,0)))/\af (Below w2.heap.size w2 wr))
  case atStart=>exact⟨0,.slice none 0 0,[],Nat.zero_le _,tA0,rfl,⟨rfl⟩,⟨Kd.i1 _ _ _ _ _⟩,jU,iW⟩
  case round=>
   clear jU iW
   obtain⟨kk,v,xs,eO,wy,rfl,ly,bm,gA,bA⟩:=hrel
   generalize mM:wr=aA at *
   clear mM
   obtain⟨b5,b6,rfl⟩:=Kd.c3 bm.o
   have l7:=ae (cm aI.o aI.o.size bA.o)
   have Qp:=ae (av jW.o bA.o)
   have HV:=ae (av l9.o bA.o)
   have JB:=az gA.o
   by_cases hlt:kk<l0.length
   ·have Tt:kk<r0.length:=by have:=pg.o;omega
    have cp:(kk:Int)< (l0.length:Int):=tA0
    have anJ:(kk:Int)< (r0.length:Int):=tA0
    have iA:af (xs.length=kk):=⟨tDj⟩
    obtain⟨ad,u6,x0,x1,x2⟩:=fe (Kd.bN a7.o.hs l7.o) (kk:Int) tA0 tA0
    cases u6
    obtain⟨bd,j0,z0,c2,z2⟩:=fe (Kd.bN HG.o.hs l7.o) (kk:Int) tA0 tA0
    cases j0
    simp only[eQ]at x0 x1 x2 z0 c2 z2
    have b9:=ae (acn hlt Tt)
    rw[ly.o]at b9
    generalize aw l0 (kk:Int)=a at *
    generalize aw r0 (kk:Int)=b at *
    have bM:aA.cell? ⟨w.heap.size+1,0,none⟩=some (.slice (some bd) r0.length cx):=ah HV.o 0
    have eH:aA.cell? ⟨w2.heap.size,0,none⟩=some (.slice b5 xs.length b6):=ah gA.o 0
    have f3:=ar gA.o 0
    have Nv:=az HV.o
    have azr:=bw (ax (Below.refl aA.heap.size aA) (.cells #[.string a.f0,.int .i64 a.f1,.int .i64 a.f2] 77)) z0
    have azs:=bw (ax (Below.refl aA.heap.size aA) (.cells #[.string a.f0,.int .i64 a.f1,.int .i64 a.f2] 77)) c2
    have azt:=bw (ax (Below.refl aA.heap.size aA) (.cells #[.string a.f0,.int .i64 a.f1,.int .i64 a.f2] 77)) z2
    have OZ:=ae (ax (ax (Below.refl aA.heap.size aA) (.cells #[.string a.f0,.int .i64 a.f1,.int .i64 a.f2] 77)) (.cells #[.string b.f0,.int .i64 b.f1,.int .i64 b.f2] 77))
    go_wp2_with (at_builtin;(refine Kd.oF cu (w2.heap.size+1) rfl (.tmp 34) (.tmp 48) 26 77 (.agg #[.string ⟨#[]⟩,.int .i64 0,.int .i64 0]) 32 rfl Tryz.underlying26 FU rfl tA3 tA3 (.slice b5 xs.length b6) xs (FX a b) [.string a.f0,.int .i64 (max a.f1 b.f1),.int .i64 (min a.f2 b.f2)] (fun k=>some k=(Value.slice b5 xs.length b6).ownBlock\/w2.heap.size+1<=k) (fun _=>False) rfl (Eq.trans (b:=Value.slice (some ⟨aA.heap.size+1+1,0,none⟩) 1 1) rfl tA2) (Zv _ _) (fun _ h=>h.elim) (fun _ h=> .inr tBh) (Kd.et (Kd.dz bm.o OZ.o) (fun _ h=> .inl h)) (Below.refl _ _) tAb tBi ?_;intro v6 aY cd cG dI fh;obtain⟨dn,c6,rfl⟩:=Kd.c3 cd;have eR:aY.heap[w2.heap.size]?=some (.cells #[.slice b5 xs.length b6,.slice none 0 0] 29 (0,0)):=(cG.block _ (Nat.lt_succ_self _)).trans ((OZ.o.block _ JB).trans gA.o);have hE:=ae eR;have AJ:aY.cell? ⟨w2.heap.size,0,none⟩=some (.slice b5 xs.length b6):=(mj eR 0).trans rfl;have f6:=ar eR 0;have vu:=az eR;have dr:=ae (tk B3 cd);have cP:=ae ((cm bA.o bA.o.size OZ.o).trans (dM cG (Nat.le_succ _)));rw[j2]at dr ⊢;clear cd cG dI fh eR))
    go_roundg (l0.length- (kk+1))
    case measure=>omega
    case rel=>exact⟨kk+1,.slice dn (xs.length+1) c6,xs++[FX a b],tA0,tA0,tA7,b9,⟨Kd.cw (p:=⟨w2.heap.size,0,none⟩) dr.o (fun k hk=>by have:=Kd.eK dr.o k hk.symm;show k≠w2.heap.size;omega) _⟩,⟨a6 hE.o 0 _ rfl⟩,⟨cP.o.setCell (p:=⟨w2.heap.size,0,none⟩) (bl _) _⟩⟩
   ·have cp:¬ (kk:Int)< (l0.length:Int):=by omega
    have di:kk=l0.length:=tA0
    have xE:af (mX l0 r0=xs):=⟨by
     have:=ly.o
     rw[di,fJ,pg.o,fJ]at this
     exact this⟩
    have gi:aA.cell? ⟨w.heap.size,1,none⟩=some (.slice A' l1.length c'):=ah Qp.o 1
    have ate:aA.cell? ⟨w.heap.size+1,1,none⟩=some (.slice X' r1.length cx'):=ah HV.o 1
    have xh:=ae (ax l7.o (.cells #[.slice A' l1.length c',.slice X' r1.length cx'] 27))
    obtain⟨all,oM⟩:∃all,l1++r1=all:=⟨_,rfl⟩
    have Ca:=ae6 (c:=c') (c':=cx') (b0:=w.heap.size) (a8 aA (.cells #[.slice A' l1.length c',.slice X' r1.length cx'] 27)) (Kd.fH (Kd.vF zP a7.o.ks) xh.o) (Kd.fH (Kd.vF zP HG.o.ks) xh.o) xh.o.size (by have:=jL.o.cl;omega) (by have:=nH.o.cl;omega)
    rw[oM]at Ca
    have D1:=ae Ca
    have l6:=ae oM
    have hall:all.length<=120:=tDw
    have WS:af (∀f∈all,f.f1.length<=1000/\∀t∈f.f1,t.f0.size<=100):=⟨fun f hf=>by
     rw[<- oM]at hf
     exact(List.mem_append.1 hf).elim (a7.o.n3 f) (HG.o.n3 f)⟩
    clear Ca oM di
    go_wp2_with (go_at_call 78;with_reducible(refine D1.o.mono ?_);rintro e w3 ⟨ajt,hZ,rfl,hF,hb⟩;have xf:=ae (au (ax (Below.refl _ _) _) hb);have Ba:=ae hF;have O0:=ae (au xh.o hb);clear hb hF)
    have kK:af (w2.heap.size<w3.heap.size):=⟨fy JB xf.o.size⟩
    have lu:af (Kd.F bc w3 (fun k=>k≠w2.heap.size/\k<w3.heap.size) ajt all.length all):=⟨Kd.ur (Kd.Kn Ba.o) (fun k hk=>⟨by
     have h1:=e5.o
     rcases hk.1 with h2|h2
     ·omega
     ·simp at h2;omega,hk.2⟩)⟩
    have qX:=ae (Kd.dz bm.o xf.o)
    have Qr:=ae (av gA.o xf.o)
    have ahO:=ae (av (av nI.o bA.o) xf.o)
    have Hv:af (∀k,some k=(Value.slice b5 xs.length b6).ownBlock->w2.heap.size+1<=k):=⟨fun k hk=>Kd.eK bm.o k hk.symm⟩
    have Ek:=Qr
    have Bv:af (w.heap.size<=w3.heap.size):=⟨O0.o.size⟩
    clear bm gA gi ate eO wy
    go_loopg [12,59] all.length (fun bL _ Vb wr=>∃(kk:Nat) (v:Value) (ys:List aj),kk<=all.length/\all.length-kk<=bL/\Vb= .int .i64 kk/\af (all.take kk=ys)/\af (Kd.N bc 33 wr w3.heap.size (fun k=>w3.heap.size<=k) v ys)/\af (wr.heap[w2.heap.size]?=some (.cells #[.slice b5 xs.length b6,v] 29 (0,0)))/\af (Kept w3 wr (fun k=>k=w2.heap.size))/\af (Below w.heap.size w wr))
    case atStart=>exact⟨0,.slice none 0 0,[],Nat.zero_le _,tA0,rfl,⟨rfl⟩,⟨Kd.i1 _ _ _ _ _⟩,Qr,⟨Kept.refl _ _⟩,O0⟩
    case round=>
     clear Qr O0 Ek
     obtain⟨kk,v,ys,eO,wy,rfl,zy,bm,gA,HK,O4⟩:=hrel
     generalize aoF:wr=wp at *
     clear aoF
     obtain⟨fL,BW,rfl⟩:=Kd.c3 bm.o
     by_cases hlt:kk<all.length
     ·have cp:(kk:Int)< (all.length:Int):=by omega
      obtain⟨ad,aN,c1,e,x0,x1,fF,jq⟩:=xV (Kd.l4 lu.o HK.o (fun k hk=>hk.1)) kk hlt
      cases e
      have b9:af (all.take (kk+1)=ys++[bH all (kk:Int)]):=⟨by rw[sT hlt,zy.o]⟩
      have vI:=ae (WS.o _ (sL all kk hlt))
      have nJ:af ((ys.length+1) * 32<=140737488355328):=⟨by rw[<- zy.o,bQ];omega⟩
      generalize bH all (kk:Int)=f at *
      have dh:=ae (a8 wp (.cells #[.int .i64 f.f0,.slice aN f.f1.length c1] 33))
      have bR:=ae (ax (Below.refl wp.heap.size wp) (.cells #[.int .i64 f.f0,.slice aN f.f1.length c1] 33))
      have xI:=ae (av gA.o bR.o)
      have KV:=ae (Kd.dz bm.o bR.o)
      have iL:af (∀k,(Value.slice fL ys.length BW).ownBlock=some k->k≠wp.heap.size):=⟨fun k hk=>by
       obtain⟨cells,hc⟩:=Kd.tq bm.o k hk
       have:=az hc
       omega⟩
      have WY:af (∀k,(Value.slice fL ys.length BW).ownBlock=some k->k≠w2.heap.size):=⟨fun k hk=>by
       have h1:=Kd.eK bm.o k hk
       have h2:=kK.o
       omega⟩
      have agt:=ae (show gl aN c1 f (wp.alloc (.cells #[.int .i64 f.f0,.slice aN f.f1.length c1] 33))from⟨Kd.bN (Kd.gY jq) bR.o,fF,vI.o.1,vI.o.2⟩)
      have agK:=HK.o.1
      have HQ:af (w2.heap.size≠wp.heap.size):=⟨by have:=kK.o;omega⟩
      clear fF jq
      go_wp2
      obtain⟨bx,qw⟩:∃bx,bx=wp.heap.size:=⟨_,rfl⟩
      rw[<- qw]at dh iL HQ ⊢
      clear qw
      generalize qB:wp.alloc (.cells #[.int .i64 f.f0,.slice aN f.f1.length c1] 33)=cz at *
      clear qB
      have Qd:af (w3.heap.size<=cz.heap.size):=⟨bj agK bR.o.size⟩
      have ov:=ae (Below.refl w3.heap.size cz)
      have HOW:af (∀k,(Value.slice fL ys.length BW).ownBlock=some k->k<cz.heap.size):=⟨fun k hk=>by
       obtain⟨cells,hc⟩:=Kd.tq KV.o k hk
       exact az hc⟩
      have p0:cz.cell? ⟨bx,0,none⟩=some (.int .i64 f.f0):=ah dh.o 0
      have p1:cz.cell? ⟨bx,1,none⟩=some (.slice aN f.f1.length c1):=ah dh.o 1
      have oa:cz.cell? ⟨w2.heap.size,1,none⟩=some (.slice fL ys.length BW):=ah xI.o 1
      have agm:af (∀W:World,Below cz.heap.size cz W->Calls Tryz.prog 79 #[.agg #[.int .i64 f.f0,.slice aN f.f1.length c1]] W (oB W f)):=⟨fun W hb=>Uj (agt.o.below hb)⟩
      go_region_law (first|(refine Kd.th bc w3.heap.size tA5 (.tmp 64) (.tmp 67) 27 33 (.agg #[.int .i64 0,.slice none 0 0]) 32 tA5 Tryz.underlying27 jR rfl tA3 tA3 (.slice fL ys.length BW) ys f [.int .i64 f.f0,.slice p9 f.f1.length qi] (fun k=>w3.heap.size<=k) (fun k=>cz.heap.size<=k) tA5 ?hx e8.o (fun k hk=>⟨bj Qd.o hk,fun e=>by have h1:=HOW.o k e.symm;omega⟩) (fun k hk=>bj XA.o hk) (Kd.dz KV.o eZ.o) (cm ov.o Qd.o eZ.o) XA.o nJ.o ?_;(case hx=>go_simp);intro v8 fq fO gD eY iq;obtain⟨jJ,c8,rfl⟩:=Kd.c3 fO;rw[j2]at fO ⊢;have hx2:=gf (av xI.o eZ.o) eY (fun e=>WY.o _ e.symm rfl);have uO:=ae hx2;have d8:fq.cell? ⟨w2.heap.size,1,none⟩=some (.slice fL ys.length BW):=(mj hx2 1).trans rfl;have Mu:=ar hx2 1;have ayo:=az hx2;have je:=ae fO;have eh:=ae gD;clear hx2 fO gD eY iq)|(go_simp;go_at_call 79;refine(agm.o _ (by first|exact Below.refl _ _|exact cB (Below.refl _ _)|exact eG (Below.refl _ _) _)).mono ?_;intro e bt hI;unfold oB at hI;obtain⟨p9,qi,rfl,hN,hb⟩:=hI;have sG:Below cz.heap.size cz bt:= tDo;have eZ:=ae sG;have e8:af (Kd.eI bc bt (fun k=>cz.heap.size<=k) f [.int .i64 f.f0,.slice p9 f.f1.length qi]):=⟨Kd.nx (tz (a:=f.f0) hN) (fun k hk=>bj tD6 hk)⟩;have XA:=ae (bj Qd.o sG.size);have UK:=bw sG oa;have ayq:=bw (ax (Below.refl bt.heap.size bt) (.cells #[.int .i64 f.f0,.slice p9 f.f1.length qi] 33)) UK;clear hb sG hN))
      all_goals
       go_wp2
       go_roundg (all.length- (kk+1))
       case measure=>omega
       case rel=>exact⟨kk+1,.slice jJ (ys.length+1) c8,ys++[f],tA0,tA0,tA7,b9,⟨Kd.cw (p:=⟨w2.heap.size,1,none⟩) je.o (fun k hk=>by have:=kK.o;show k≠w2.heap.size;omega) _⟩,⟨a6 uO.o 1 _ rfl⟩,⟨((HK.o.below bR.o).yP (S2:=fun k=>w3.heap.size<=k) ⟨eh.o.size,fun i hi hn=>eh.o.block i (Nat.lt_of_not_le hn)⟩ (fun k hk=> .inr hk)).setCell (p:=⟨w2.heap.size,1,none⟩) (.inl rfl) _⟩,⟨((cm O4.o O4.o.size bR.o).trans (dM eh.o Bv.o)).setCell (p:=⟨w2.heap.size,1,none⟩) (by have:=e5.o;show w.heap.size<=w2.heap.size;omega) _⟩⟩
     ·have cp:¬ (kk:Int)< (all.length:Int):=by omega
      have di:kk=all.length:=tA0
      have vr:=zy.o
      rw[di,fJ]at vr
      have vN:=bT.o
      rw[xE.o,l6.o,vr]at vN
      have rX:af (Names xs ys):=⟨⟨by rw[<- xE.o];exact acm a7.o.n1,by rw[<- vr];omega,by rw[<- vr];exact WS.o⟩⟩
      have oy:=ae (Kd.r6 qX.o HK.o (fun k hk e=>by have:=Hv.o k hk;omega))
      have jA:=ae (Kd.gp bm.o (Nat.succ_le_of_lt kK.o))
      have Hz:=ae (NV oy.o jA.o rX.o vN)
      have Qk:=ae (iD ahO.o HK.o (fun e=>tCa))
      have aK:wp.cell? ⟨w2.heap.size,0,none⟩=some (.slice b5 xs.length b6):=ah gA.o 0
      have aC:wp.cell? ⟨w2.heap.size,1,none⟩=some (.slice fL ys.length BW):=ah gA.o 1
      clear di vr
      go_wp2_with (go_at_call 80;with_reducible(refine Hz.o.mono ?_);intro e dG hI;obtain⟨Y,c0,ek,ep,rfl,h0,h1,hb⟩:=hI;have iU:=ae (au O4.o hb.o);have aX:=av Qk.o hb.o;have z0:dG.cell? ⟨w.heap.size+1+1,0,none⟩=some (.slice none 0 0):=(mj aX 0).trans rfl;have c2:dG.cell? ⟨w.heap.size+1+1,1,none⟩=some (.slice none 0 0):=(mj aX 1).trans rfl;have g0:=ar aX 0;have g1:=ar aX 1;have eD:=az aX;have dL:=ae aX;clear aX;clear hb)
      have sP:=a6 (a6 dL.o 0 (.slice Y q0.length c0) rfl) 1 (.slice ek q1.length ep) rfl
      refine bodyPost_ret (sQ rfl _ _ (w.heap.size+1+1) 29 #[.slice Y q0.length c0,.slice ek q1.length ep] (0,0) _ rfl sP Tryz.underlying29 rfl tA1) rfl ?_
      have hb:=(iU.o.setCell (p:=⟨w.heap.size+1+1,0,none⟩) tAf (.slice Y q0.length c0)).setCell (p:=⟨w.heap.size+1+1,1,none⟩) tAf (.slice ek q1.length ep)
      have hne:∀k,some k=(Value.slice b5 xs.length b6).ownBlock->k≠w.heap.size+1+1:=fun k hk=>by have h1:=Hv.o k hk;have h2:=e5.o;omega
      have rv:∀k,w3.heap.size<=k->k≠w.heap.size+1+1:=fun k hk=>by have h1:=e5.o;have h2:=kK.o;omega
      exact⟨Y,c0,ek,ep,rfl,yN (Kd.cw (p:=⟨w.heap.size+1+1,1,none⟩) (Kd.cw (p:=⟨w.heap.size+1+1,0,none⟩) h0.o hne _) hne _) (Kd.cw (p:=⟨w.heap.size+1+1,1,none⟩) (Kd.cw (p:=⟨w.heap.size+1+1,0,none⟩) h1.o rv _) rv _) (NW rX.o vN),hb⟩
 ·rw[if_neg fW]at e
  simp only[Prod.mk.injEq]at e
  obtain⟨rfl,rfl,rfl⟩:=e
  have zZ:(Oe !=0)=true:=bne_iff_ne.2 fW
  go_wp2_with (go_at_call 77;with_reducible(refine G5.o.mono ?_);rintro e w2 ⟨rfl,hb⟩;have bq:=ae (au bI.o hb);have aX:=av eC.o hb;have z0:w2.cell? ⟨w.heap.size+1+1,0,none⟩=some (.slice none 0 0):=(mj aX 0).trans rfl;have c2:w2.cell? ⟨w.heap.size+1+1,1,none⟩=some (.slice none 0 0):=(mj aX 1).trans rfl;have g0:=ar aX 0;have g1:=ar aX 1;have eD:=az aX;have dL:=ae aX;clear aX;clear hb)
  have sP:=a6 (a6 dL.o 0 (.slice none 0 0) rfl) 1 (.slice none 0 0) rfl
  refine bodyPost_ret (sQ rfl _ _ (w.heap.size+1+1) 29 #[.slice none 0 0,.slice none 0 0] (0,0) _ rfl sP Tryz.underlying29 rfl tA1) rfl ?_
  exact⟨none,0,none,0,rfl,cD.none _,(bq.o.setCell (p:=⟨w.heap.size+1+1,0,none⟩) tAf _).setCell (p:=⟨w.heap.size+1+1,1,none⟩) tAf _⟩
end
open Go
section
variable {P:Program}{ops:Array Oper}{Q:Exit->Act->World->Prop}{md:Region.Mode}{S:World->Prop}{n:Nat}
def pN (P:Program)(md:Region.Mode)(ops:Array Oper)(Q:Exit->Act->World->Prop)(S:World->Prop)(n:Nat):Nat->Array Bool->Act->World->Prop
 | 0,l,a,w=>Region.ready md ops l=[]/\Q .normal a w
 | m+1,l,a,w=>(Region.ready md ops l=[]->Q .normal a w)/\∀k∈Region.ready md ops l,wpOp P ops Q k (fun b v=>(k<n->S v)/\pN P md ops Q S n m (l.setIfInBounds k true) b v) a w
theorem Yr:∀(m:Nat) (l:Array Bool) (a:Act) (w:World),pN P md ops Q S n m l a w->wpAny P md ops Q m l a w
 | 0,_,_,_,h=>h
 | m+1,_,_,_,h=>⟨h.1,fun k hk=>wpOp_mono (fun b v hb=>Yr m _ b v hb.2) (h.2 k hk)⟩
def S1 (md:Region.Mode)(ops:Array Oper)(n:Nat)(l:Array Bool):Bool:=
 decide (l.size=ops.size)&&((List.range ops.size).all fun j=> !l.getD j false||((ops[j]?).map (·.after.all fun e=> !Region.binds md e||l.getD e.on false)).getD true)&&((List.range ops.size).all fun t=>decide (t<n)|| !l.getD t true)
theorem amR {l:Array Bool}(h:S1 md ops n l=true):HeadInv md ops n l:=by
 unfold S1 at h
 simp only[Bool.and_eq_true,decide_eq_true_eq,List.all_eq_true,List.mem_range]at h
 obtain⟨⟨h1,h2⟩,h3⟩:=h
 refine⟨h1,fun j oj hj hl e he hb=>?_,fun t ht TN=>?_⟩
 ·have h4:=h2 j (Array.getElem?_eq_some_iff.1 hj).1
  rw[hl,hj]at h4
  simp only[Bool.not_true,Bool.false_or,Option.map_some,Option.getD_some]at h4
  have h5:=Array.all_eq_true'.1 h4 e he
  simpa[hb]using h5
 ·have h4:=h3 t TN
  simp only[Bool.or_eq_true,decide_eq_true_eq]at h4
  rcases h4 with h4|h4
  ·omega
  ·simpa using h4
def ad5 (md:Region.Mode)(ops:Array Oper)(n i:Nat)(l:Array Bool):Bool:=
 Region.noSelect ops&&decide (n<ops.size)&&decide (i<n)&&Region.sinkB md ops n&&Region.chainB md ops n&&S1 md ops n l&&Region.free md ops l i&&(Region.ready md ops l).contains i
theorem ad6 {i:Nat}{oi:Oper}{v:Value}(hi:ops[i]?=some oi)(TI:Region.noSelect ops=true)(hn:n<ops.size)(gO:i<n)(hs:Region.sinkB md ops n=true)(hc:Region.chainB md ops n=true)
  (hQ:∀c a w,Q (.panic c) (a.put oi.dst v) w->Q (.panic c) a w):
  ∀(m:Nat) (l:Array Bool) (a:Act) (w:World),HeadInv md ops n l->
   (∀j oj,ops[j]?=some oj->j≠i->l.getD j true=false->(∀e∈oj.after,Region.binds md e=true->e.on≠i)->oi.apart ops oj=true)->
   i∈Region.ready md ops l->YieldsIf P ops S oi v a->S w->
   pN P md ops Q S n m (l.setIfInBounds i true) (a.put oi.dst v) w->pN P md ops Q S n (m+1) l a w
 | 0,l,a,w,inv,S7,hr,hy,hS,H=>by
  constructor
  ·intro e;rw[e]at hr;cases hr
  ·intro j hj
   by_cases e:j=i
   ·subst e;exact hy.wpOp hi hS ⟨fun _=>hS,H⟩
   ·have:=ready_mono hj e
    rw[H.1]at this
    cases this
 | m+1,l,a,w,inv,S7,hr,hy,hS,H=>by
  constructor
  ·intro e;rw[e]at hr;cases hr
  ·intro j hj
   by_cases e:j=i
   ·subst e;exact hy.wpOp hi hS ⟨fun _=>hS,H⟩
   ·obtain⟨abN,oj,TD,hall⟩:=mem_ready.1 hj
    have abO:=(mem_ready.1 hr).1
    have aaZ:j<n:=Nat.lt_of_not_le fun zS=>tail_waits hs hc hn inv _ i rfl gO abO j zS hj
    have hno:∀e∈oj.after,Region.binds md e=true->e.on≠i:=by
     intro e1 he hb heq
     have:=hall e1 he hb
     rw[heq,getD_both abO]at this
     cases this
    have step:=wpOp_putIf TD (S7 j oj TD e abN hno) (fun cs b=>Region.noSelect_spec TI i oi cs b hi) (fun cs b=>Region.noSelect_spec TI j oj cs b TD) hQ hy (H.2 j (ready_mono hj e))
    refine wpOp_mono (fun b v' hb=>⟨hb.2.1,ad6 hi TI hn gO hs hc hQ m _ b v' (inv.set hj aaZ) ?_ (ready_mono hr (Ne.symm e)) hb.1 (hb.2.1 aaZ) ?_⟩) step
    ·intro k ok hk anA I1 MS
     refine S7 k ok hk anA ?_ MS
     by_cases hjk:j=k
     ·subst hjk;exact abN
     ·rw[getD_set_ne true hjk]at I1;exact I1
    ·rw[Array.setIfInBounds_comm _ _ e]
     exact hb.2.2
theorem cZ (i:Nat)(oi:Oper){v:Value}{m:Nat}{l:Array Bool}{a:Act}{w:World}(hi:ops[i]?=some oi)(hB:ad5 md ops n i l=true)
  (hQ:∀c a w,Q (.panic c) (a.put oi.dst v) w->Q (.panic c) a w) (hw:Region.wanted oi (yielded ops a.tmps)=true) (hS:S w) (hy:∀w,S w->(execOp a.eval oi).run P w= .ok (.value v) w)
  (h:pN P md ops Q S n m (l.setIfInBounds i true) (a.put oi.dst v) w):pN P md ops Q S n (m+1) l a w:=by
 unfold ad5 at hB
 simp only[Bool.and_eq_true,decide_eq_true_eq]at hB
 obtain⟨⟨⟨⟨⟨⟨⟨h1,h2⟩,h3⟩,h4⟩,h5⟩,h6⟩,h7⟩,h8⟩:=hB
 exact ad6 hi h1 h2 h3 h4 h5 hQ m l a w (amR h6) (Region.free_spec hi h7) (by simpa using h8) (.inl ⟨hw,hy⟩) hS h
theorem gU (k:Nat)(o:Oper){m:Nat}{l:Array Bool}{a:Act}{w:World}(hr:Region.ready md ops l=[k])(ho:ops[k]?=some o)
  (h:∀K':Act->World->Prop,Shut (∀b v,(k<n->S v)->pN P md ops Q S n m (l.setIfInBounds k true) b v->K' b v)->if Region.wanted o (yielded ops a.tmps)=true then Oper.wp P o a w K' Q else K' (a.put o.dst undef) w):pN P md ops Q S n (m+1) l a w:=by
 constructor
 ·intro e;rw[hr]at e;cases e
 ·intro j hj
  rw[hr]at hj
  obtain rfl:j=k:=tAv
  exact wpOp_step ho (fun K' hK=>h K' (fun b v hS hT=>hK b v ⟨hS,hT⟩))
theorem DC {l:Array Bool}{a:Act}{w:World}(hr:Region.ready md ops l=[])(h:Q .normal a w):∀m,pN P md ops Q S n m l a w
 | 0=>⟨hr,h⟩
 | _+1=>⟨fun _=>h,by rw[hr];simp⟩
theorem Du (S:World->Prop)(n:Nat){id:Nat}{a:Act}{w:World}(hm:P.follows .mixedOrders=true)
  (h:pN P .any ops Q S n ops.size (Array.replicate ops.size false) a w.drew):(Code.region id ops true).wp P Q a w:=
 wp_region_any hm (Yr _ _ _ _ h)
end
theorem akr {A:Option Addr}{c b0:Nat}{l:List aj}{w:World}(h:Kd.F bc w (fun k=>k<b0) A l.length l)(hb0:b0<=w.heap.size)(hl:l.length<=1000000):
  Calls Tryz.prog 76 #[.slice A l.length c] w fun e w'=>∃X cap,e= .returned (.slice X l.length cap)/\Kd.N bc 33 w' w.heap.size (fun k=>k<b0\/w.heap.size<=k) (.slice X l.length cap) l/\Below w.heap.size w w':=by
 have bT:=ae h
 have dX:=ae hb0
 have br:af ((0+l.length) * 32<=140737488355328):=⟨tA0⟩
 have q:∀(w:World) (a:Option Addr) (n c n' c':Nat),(binOp .eql 27 (.slice a n c) (.slice none n' c')).run Tryz.prog w= .ok (.bool a.isNone) w:=fun w a n c n' c'=>Lib.run_eql_slice_nil w _ _ a n c n' c' Tryz.underlying27
 cases A with
 | none=>
  obtain rfl:l=[]:=by
   cases l with
   | nil=>rfl
   | cons x r=>obtain⟨_,_,hn⟩:=Kd.gY h;obtain⟨ad,e,_⟩:=hn tA2;cases e
  clear h bT br
  go_enter Tryz.func76,Tryz.ntmps76
  go_wp2
  go_ret
  exact⟨none,0,rfl,Kd.i1 _ _ _ _ _,Below.refl _ _⟩
 | some ad=>
  have bm:=ae (H6 bc 33 w w.heap.size (bl _) (fun k=>k<b0\/w.heap.size<=k) (.inr (bl _)))
  have ak:=ae (ax (Below.refl w.heap.size w) (.cells #[] 33))
  have fX:=ae (Kd.fH h ak.o)
  have hm:=Kd.OH (Kd.gY h)
  clear h
  go_enter Tryz.func76,Tryz.ntmps76
  go_wp2_with (at_builtin;refine Kd.Ev bc w.heap.size rfl (.tmp 5) (.tmp 6) 27 33 (.agg #[.int .i64 0,.slice none 0 0]) 32 rfl Tryz.underlying27 jR rfl tA3 tA3 (.slice (some ⟨w.heap.size,0,none⟩) 0 0) [] l (some ad) l.length c (fun k=>k<b0\/w.heap.size<=k) (fun k=>k<b0) rfl rfl bm.o fX.o (fun k hk=>⟨.inl hk,by have:=dX.o;simp[Value.ownBlock];omega⟩) (fun k hk=> .inr tCg) ak.o ak.o.size br.o ?_;intro v6 aY cd cG dI fh;obtain⟨dn,c6,rfl⟩:=Kd.c3 cd;have dr:=ae cd;have cP:=ae cG;clear cd cG dI fh)
  go_ret
  exact⟨dn,c6,rfl,dr.o,cP.o⟩
section
variable {A A' X X':Option Addr}{c c' cx cx':Nat}{l0 r0:List aq}{l1 r1:List aj}{w:World}
theorem aiu (h:cD A c l0 A' c' l1 w)(g:cD X cx r0 X' cx' r1 w)(hv0:cQ l0 l1=0)(nU:cQ r0 r1=0)(hv2:l0.map (·.f0)=r0.map (·.f0)):
  Calls Tryz.prog 33 #[.agg #[.slice A l0.length c,.slice A' l1.length c'],.agg #[.slice X r0.length cx,.slice X' r1.length cx']] w (fun e w'=>∃Y c0 ek ep,e= .returned (.agg #[.slice Y (mX l0 r0).length c0,.slice ek (l1++r1).length ep])/\cD Y c0 (mX l0 r0) ek ep (l1++r1) w'/\Below w.heap.size w w'):=by
 have bI:=ae (ax (ax (ax (Below.refl w.heap.size w) (.cells #[.slice A l0.length c,.slice A' l1.length c'] 29)) (.cells #[.slice X r0.length cx,.slice X' r1.length cx'] 29)) (.cells #[.slice none 0 0,.slice none 0 0] 29))
 have cJ:=ae (aH (aH (a8 w (.cells #[.slice A l0.length c,.slice A' l1.length c'] 29)) (.cells #[.slice X r0.length cx,.slice X' r1.length cx'] 29)) (.cells #[.slice none 0 0,.slice none 0 0] 29))
 have cq:=ae (aH (by simpa using a8 (w.alloc (.cells #[.slice A l0.length c,.slice A' l1.length c'] 29)) (.cells #[.slice X r0.length cx,.slice X' r1.length cx'] 29):((w.alloc (.cells #[.slice A l0.length c,.slice A' l1.length c'] 29)).alloc (.cells #[.slice X r0.length cx,.slice X' r1.length cx'] 29)).heap[w.heap.size+1]?=some (.cells #[.slice X r0.length cx,.slice X' r1.length cx'] 29 (0,0))) (.cells #[.slice none 0 0,.slice none 0 0] 29))
 have eC:=ae (by simpa using a8 ((w.alloc (.cells #[.slice A l0.length c,.slice A' l1.length c'] 29)).alloc (.cells #[.slice X r0.length cx,.slice X' r1.length cx'] 29)) (.cells #[.slice none 0 0,.slice none 0 0] 29):(((w.alloc (.cells #[.slice A l0.length c,.slice A' l1.length c'] 29)).alloc (.cells #[.slice X r0.length cx,.slice X' r1.length cx'] 29)).alloc (.cells #[.slice none 0 0,.slice none 0 0] 29)).heap[w.heap.size+1+1]?=some (.cells #[.slice none 0 0,.slice none 0 0] 29 (0,0)))
 have e5:af ((((w.alloc (.cells #[.slice A l0.length c,.slice A' l1.length c'] 29)).alloc (.cells #[.slice X r0.length cx,.slice X' r1.length cx'] 29)).alloc (.cells #[.slice none 0 0,.slice none 0 0] 29)).heap.size=w.heap.size+1+1+1):=⟨tA2⟩
 have FQ:((((w.alloc (.cells #[.slice A l0.length c,.slice A' l1.length c'] 29)).alloc (.cells #[.slice X r0.length cx,.slice X' r1.length cx'] 29)).alloc (.cells #[.slice none 0 0,.slice none 0 0] 29)).alloc (.cells #[.slice none 0 0,.slice none 0 0] 29)).heap[w.heap.size+1+1+1]?=some (.cells #[.slice none 0 0,.slice none 0 0] 29 (0,0)):=by
  have:=a8 (((w.alloc (.cells #[.slice A l0.length c,.slice A' l1.length c'] 29)).alloc (.cells #[.slice X r0.length cx,.slice X' r1.length cx'] 29)).alloc (.cells #[.slice none 0 0,.slice none 0 0] 29)) (.cells #[.slice none 0 0,.slice none 0 0] 29)
  rw[e5.o]at this
  exact this
 have rb:=ae FQ
 have hlen:l0.length=r0.length:=tD4
 have pg:=ae hlen
 have jL:=ae (iT hv0)
 have nH:=ae (iT nU)
 have a7:=ae h
 have HG:=ae g
 clear h g hv0 nU hv2 hlen FQ
 go_enter Tryz.func33,Tryz.ntmps33
 go_upto_region 2 with(fail)
 generalize ((w.alloc (.cells #[.slice A l0.length c,.slice A' l1.length c'] 29)).alloc (.cells #[.slice X r0.length cx,.slice X' r1.length cx'] 29)).alloc (.cells #[.slice none 0 0,.slice none 0 0] 29)=w2 at *
 have iW:=ae (dM (ax (Below.refl w2.heap.size w2) (.cells #[.slice none 0 0,.slice none 0 0] 29)) (Nat.le_of_eq e5.o.symm))
 have aK:(w2.alloc (.cells #[.slice none 0 0,.slice none 0 0] 29)).cell? ⟨w.heap.size,0,none⟩=some (.slice A l0.length c):=ah (aH cJ.o _) 0
 have Fz:=jL.o.len
 have aoi:r0.length<=8:=nH.o.len
 go_wp2
 clear aK
 go_loopg [6,7,11] l0.length (fun bL _ _ yK wr=>∃(kk:Nat) (v:Value) (xs:List aq),kk<=l0.length/\l0.length-kk<=bL/\yK= .int .i64 kk/\af (mX (l0.take kk) (r0.take kk)=xs)/\af (Kd.N cu 77 wr (w.heap.size+1+1+1+1) (fun k=>some k=v.ownBlock) v xs)/\af (wr.heap[w.heap.size+1+1+1]?=some (.cells #[v,.slice none 0 0] 29 (0,0)))/\af (Below (w.heap.size+1+1+1) w2 wr))
 case atStart=>exact⟨0,.slice none 0 0,[],Nat.zero_le _,tA0,rfl,⟨rfl⟩,⟨Kd.i1 _ _ _ _ _⟩,rb,iW⟩
 case round=>
  clear iW rb
  obtain⟨kk,v,xs,eO,wy,rfl,ly,bm,gA,bA⟩:=hrel
  generalize mM:wr=aA at *
  clear mM
  obtain⟨b5,b6,rfl⟩:=Kd.c3 bm.o
  have l7:af (Below w.heap.size w aA):=⟨bI.o.trans (dM bA.o tA0)⟩
  have Qp:af (aA.heap[w.heap.size]?=some (.cells #[.slice A l0.length c,.slice A' l1.length c'] 29 (0,0))):=⟨(bA.o.block _ tA0).trans cJ.o⟩
  have HV:af (aA.heap[w.heap.size+1]?=some (.cells #[.slice X r0.length cx,.slice X' r1.length cx'] 29 (0,0))):=⟨(bA.o.block _ tA0).trans cq.o⟩
  have JB:=az gA.o
  by_cases hlt:kk<l0.length
  ·have Tt:kk<r0.length:=by have:=pg.o;omega
   have cp:(kk:Int)< (l0.length:Int):=tA0
   have anJ:(kk:Int)< (r0.length:Int):=tA0
   have iA:af (xs.length=kk):=⟨tDj⟩
   obtain⟨ad,u6,x0,x1,x2⟩:=fe (Kd.bN a7.o.hs l7.o) (kk:Int) tA0 tA0
   cases u6
   obtain⟨bd,j0,z0,c2,z2⟩:=fe HG.o.hs (kk:Int) tA0 tA0
   cases j0
   simp only[eQ]at x0 x1 x2 z0 c2 z2
   have b9:=ae (acn hlt Tt)
   rw[ly.o]at b9
   generalize aw l0 (kk:Int)=a at *
   generalize aw r0 (kk:Int)=b at *
   go_wp2_with (fail)
   have dh:=ae (a8 aA (.cells #[.string a.f0,.int .i64 a.f1,.int .i64 a.f2] 77))
   have bR:=ae (bA.o.trans (dM (ax (Below.refl aA.heap.size aA) (.cells #[.string a.f0,.int .i64 a.f1,.int .i64 a.f2] 77)) (Nat.le_of_lt JB)))
   have ie:=ae (ax (Below.refl aA.heap.size aA) (.cells #[.string a.f0,.int .i64 a.f1,.int .i64 a.f2] 77))
   have KV:=ae (Kd.dz (Kd.et bm.o (ok':=fun k=>some k=(Value.slice b5 xs.length b6).ownBlock\/w.heap.size+1+1+1+1<=k) (fun k hk=> .inl hk)) ie.o)
   have xI:=ae (av gA.o ie.o)
   have iL:af (∀k,(Value.slice b5 xs.length b6).ownBlock=some k->k≠aA.heap.size):=⟨fun k hk=>by
    obtain⟨cells,hc⟩:=Kd.tq bm.o k hk
    have:=az hc
    omega⟩
   have WY:af (∀k,(Value.slice b5 xs.length b6).ownBlock=some k->k≠w.heap.size+1+1+1):=⟨fun k hk=>by
    have:=Kd.eK bm.o k hk
    omega⟩
   have pW:af (aA.heap.size≠w.heap.size+1+1+1):=⟨tA0⟩
   have Ef:af (w.heap.size+1+1+1+1<=aA.heap.size):=⟨tA0⟩
   obtain⟨bx,qw⟩:∃bx,bx=aA.heap.size:=⟨_,rfl⟩
   rw[<- qw]at dh iL pW ⊢
   clear qw
   generalize qB:aA.alloc (.cells #[.string a.f0,.int .i64 a.f1,.int .i64 a.f2] 77)=cz at *
   clear qB
   have PL:af (w.heap.size+1+1+1+1<=cz.heap.size):=⟨bj Ef.o ie.o.size⟩
   have xr:af (∀W:World,Below (w.heap.size+1+1+1) w2 W->W.heap[bx]?=some (.cells #[.string a.f0,.int .i64 a.f1,.int .i64 a.f2] 77 (0,0))->W.heap[w.heap.size+1+1+1]?=some (.cells #[.slice b5 xs.length b6,.slice none 0 0] 29 (0,0))->(W.cell? ⟨bx,0,none⟩=some (.string a.f0)/\W.cell? ⟨bx,1,none⟩=some (.int .i64 a.f1)/\W.cell? ⟨bx,2,none⟩=some (.int .i64 a.f2)/\W.cell? ⟨w.heap.size+1,0,none⟩=some (.slice (some bd) r0.length cx)/\W.cell? ⟨(bd.add (kk * 3)).block,(bd.add (kk * 3)).off+1,none⟩=some (.int .i64 b.f1)/\W.cell? ⟨(bd.add (kk * 3)).block,(bd.add (kk * 3)).off+2,none⟩=some (.int .i64 b.f2)/\W.cell? ⟨w.heap.size+1+1+1,0,none⟩=some (.slice b5 xs.length b6))):=⟨fun W hb hx ht=>⟨ah hx 0,ah hx 1,ah hx 2,by
    have h2:W.heap[w.heap.size+1]?=some (.cells #[.slice (some bd) r0.length cx,.slice X' r1.length cx'] 29 (0,0)):=(hb.block _ tA0).trans cq.o
    exact ah h2 0,bw (bI.o.trans (dM hb tA0)) c2,bw (bI.o.trans (dM hb tA0)) z2,ah ht 0⟩⟩
   have oa:cz.cell? ⟨w.heap.size+1+1+1,0,none⟩=some (.slice b5 xs.length b6):=ah xI.o 0
   have auh:=ar xI.o 0
   have ayn:=az xI.o
   clear x0 x1 x2 z0 c2 z2 JB
   refine wp_region_noPanic ?_
   refine Du (fun W=>(W.cell? ⟨bx,0,none⟩=some (.string a.f0)/\W.cell? ⟨bx,1,none⟩=some (.int .i64 a.f1)/\W.cell? ⟨bx,2,none⟩=some (.int .i64 a.f2)/\W.cell? ⟨w.heap.size+1,0,none⟩=some (.slice (some bd) r0.length cx)/\W.cell? ⟨(bd.add (kk * 3)).block,(bd.add (kk * 3)).off+1,none⟩=some (.int .i64 b.f1)/\W.cell? ⟨(bd.add (kk * 3)).block,(bd.add (kk * 3)).off+2,none⟩=some (.int .i64 b.f2)/\W.cell? ⟨w.heap.size+1+1+1,0,none⟩=some (.slice b5 xs.length b6))) 26 tA1 ?_
   have dy:(cz.drew.cell? ⟨bx,0,none⟩=some (.string a.f0)/\cz.drew.cell? ⟨bx,1,none⟩=some (.int .i64 a.f1)/\cz.drew.cell? ⟨bx,2,none⟩=some (.int .i64 a.f2)/\cz.drew.cell? ⟨w.heap.size+1,0,none⟩=some (.slice (some bd) r0.length cx)/\cz.drew.cell? ⟨(bd.add (kk * 3)).block,(bd.add (kk * 3)).off+1,none⟩=some (.int .i64 b.f1)/\cz.drew.cell? ⟨(bd.add (kk * 3)).block,(bd.add (kk * 3)).off+2,none⟩=some (.int .i64 b.f2)/\cz.drew.cell? ⟨w.heap.size+1+1+1,0,none⟩=some (.slice b5 xs.length b6)):=xr.o _ (cB bR.o) dh.o xI.o
   refine cZ 0 _ (v:=?v0) (aW rfl) tA1 (fun _ _ _ h=>h) tA5 dy ?hy0 ?arf
   case hy0=>(intro W hSw;go_simp<;>with_reducible rfl)
   simp only[bV]
   refine cZ 1 _ (v:=?v1) (aW rfl) tA1 (fun _ _ _ h=>h) tA5 dy ?hy1 ?adg
   case hy1=>(intro W hSw;go_simp<;>with_reducible rfl)
   simp only[bV]
   refine cZ 2 _ (v:=?v2) (aW rfl) tA1 (fun _ _ _ h=>h) tA5 dy ?hy2 ?aro
   case hy2=>(intro W hSw;go_simp<;>with_reducible rfl)
   simp only[bV]
   refine cZ 3 _ (v:=?v3) (aW rfl) tA1 (fun _ _ _ h=>h) tA5 dy ?hy3 ?ars
   case hy3=>(intro W hSw;go_simp<;>with_reducible rfl)
   simp only[bV]
   refine cZ 4 _ (v:=?v4) (aW rfl) tA1 (fun _ _ _ h=>h) tA5 dy ?hy4 ?adh
   case hy4=>(intro W hSw;go_simp<;>with_reducible rfl)
   simp only[bV]
   refine cZ 5 _ (v:=?v5) (aW rfl) tA1 (fun _ _ _ h=>h) tA5 dy ?hy5 ?adi
   case hy5=>(intro W hSw;go_simp<;>with_reducible rfl)
   simp only[bV]
   refine cZ 6 _ (v:=?v6) (aW rfl) tA1 (fun _ _ _ h=>h) tA5 dy ?hy6 ?art
   case hy6=>(intro W hSw;go_simp<;>with_reducible rfl)
   simp only[bV]
   refine cZ 7 _ (v:=?v7) (aW rfl) tA1 (fun _ _ _ h=>h) tA5 dy ?hy7 ?aru
   case hy7=>(intro W hSw;go_simp<;>with_reducible rfl)
   simp only[bV]
   refine cZ 8 _ (v:=?v8) (aW rfl) tA1 (fun _ _ _ h=>h) tA5 dy ?hy8 ?arv
   case hy8=>(intro W hSw;go_simp<;>with_reducible rfl)
   simp only[bV]
   refine cZ 9 _ (v:=?v9) (aW rfl) tA1 (fun _ _ _ h=>h) tA5 dy ?hy9 ?arw
   case hy9=>(intro W hSw;go_simp<;>with_reducible rfl)
   simp only[bV]
   refine cZ 10 _ (v:=?v10) (aW rfl) tA1 (fun _ _ _ h=>h) tA5 dy ?hy10 ?ayx
   case hy10=>(intro W hSw;go_simp<;>with_reducible rfl)
   simp only[bV]
   refine cZ 11 _ (v:=?v11) (aW rfl) tA1 (fun _ _ _ h=>h) tA5 dy ?hy11 ?arh
   case hy11=>(intro W hSw;go_simp<;>with_reducible rfl)
   simp only[bV]
   refine cZ 12 _ (v:=?v12) (aW rfl) tA1 (fun _ _ _ h=>h) tA5 dy ?hy12 ?ayy
   case hy12=>(intro W hSw;go_simp<;>with_reducible rfl)
   simp only[bV]
   refine cZ 13 _ (v:=?v13) (aW rfl) tA1 (fun _ _ _ h=>h) tA5 dy ?hy13 ?ayz
   case hy13=>(intro W hSw;go_simp<;>with_reducible rfl)
   simp only[bV]
   refine cZ 14 _ (v:=?v14) (aW rfl) tA1 (fun _ _ _ h=>h) tA5 dy ?hy14 ?ari
   case hy14=>(intro W hSw;go_simp<;>with_reducible rfl)
   simp only[bV]
   refine cZ 15 _ (v:=?v15) (aW rfl) tA1 (fun _ _ _ h=>h) tA5 dy ?hy15 ?ayA
   case hy15=>(intro W hSw;go_simp<;>with_reducible rfl)
   simp only[bV]
   refine cZ 16 _ (v:=?v16) (aW rfl) tA1 (fun _ _ _ h=>h) tA5 dy ?hy16 ?arj
   case hy16=>(intro W hSw;go_simp<;>with_reducible rfl)
   simp only[bV]
   refine cZ 17 _ (v:=?v17) (aW rfl) tA1 (fun _ _ _ h=>h) tA5 dy ?hy17 ?ark
   case hy17=>(intro W hSw;go_simp<;>with_reducible rfl)
   simp only[bV]
   refine cZ 18 _ (v:=?v18) (aW rfl) tA1 (fun _ _ _ h=>h) tA5 dy ?hy18 ?arl
   case hy18=>(intro W hSw;go_simp<;>with_reducible rfl)
   simp only[bV]
   refine cZ 19 _ (v:=?v19) (aW rfl) tA1 (fun _ _ _ h=>h) tA5 dy ?hy19 ?arn
   case hy19=>(intro W hSw;go_simp<;>with_reducible rfl)
   simp only[bV]
   refine cZ 20 _ (v:=?v20) (aW rfl) tA1 (fun _ _ _ h=>h) tA5 dy ?hy20 ?arp
   case hy20=>(intro W hSw;go_simp<;>with_reducible rfl)
   simp only[bV]
   refine cZ 21 _ (v:=?v21) (aW rfl) tA1 (fun _ _ _ h=>h) tA5 dy ?hy21 ?arq
   case hy21=>(intro W hSw;go_simp<;>with_reducible rfl)
   simp only[bV]
   refine cZ 22 _ (v:=?v22) (aW rfl) tA1 (fun _ _ _ h=>h) tA5 dy ?hy22 ?ayE
   case hy22=>(intro W hSw;go_simp<;>with_reducible rfl)
   simp only[bV]
   refine gU 23 _ tA1 (aW rfl) (fun K hK=>?_)
   go_simp
   refine hK.out _ _ (fun _=>xr.o _ (bR.o.trans (dM (ax (cB (Below.refl cz.heap.size cz)) _) (Nat.le_of_lt (Nat.lt_of_succ_le PL.o)))) (aH dh.o _) (aH xI.o _)) ?_
   clear hK K
   try simp only[bV]
   refine gU 24 _ tA1 (aW rfl) (fun K hK=>?_)
   refine Kd.th (w0:=cz) (W:=cz.drew) cu (w.heap.size+1+1+1+1) tA5 (.tmp 17) (.tmp 39) 26 77 (.agg #[.string ⟨#[]⟩,.int .i64 0,.int .i64 0]) 32 tA5 Tryz.underlying26 FU rfl tA3 tA3 (.slice b5 xs.length b6) xs (FX a b) [.string a.f0,.int .i64 (max a.f1 b.f1),.int .i64 (min a.f2 b.f2)] (fun k=>some k=(Value.slice b5 xs.length b6).ownBlock\/w.heap.size+1+1+1+1<=k) (fun _=>False) tA5 ?hx (Zv _ _) (fun _ h=>h.elim) (fun _ h=> .inr (bj PL.o h)) (Kd.dz KV.o (cB (Below.refl cz.heap.size cz))) (cB (Below.refl (w.heap.size+1+1+1+1) cz)) PL.o tBi ?_
   (case hx=>go_simp)
   intro v6 aY cd cG dI fh;obtain⟨dn,c6,rfl⟩:=Kd.c3 cd;have eR:aY.heap[w.heap.size+1+1+1]?=some (.cells #[.slice b5 xs.length b6,.slice none 0 0] 29 (0,0)):=(cG.block _ (Nat.lt_succ_self _)).trans xI.o;have hE:=ae eR;have XD:=ae (gf dh.o (show cz.grownBy aY (Value.slice b5 xs.length b6).ownBlock from⟨dI.os,dI.tape,dI.output,dI.size,dI.block⟩) (fun e=>iL.o _ e.symm rfl));have AJ:aY.cell? ⟨w.heap.size+1+1+1,0,none⟩=some (.slice b5 xs.length b6):=ah eR 0;have f6:=ar eR 0;have vu:=az eR;have dr:=ae (tk B3 cd);have cP:=ae (bR.o.trans (dM cG (Nat.le_succ _)));rw[j2]at dr ⊢
   clear cd cG dI fh eR
   refine hK.out _ _ (fun _=>xr.o _ cP.o XD.o hE.o) ?_
   clear hK K
   try simp only[bV]
   have Xo:=xr.o _ cP.o XD.o hE.o
   refine cZ 25 _ (v:=?v25) (aW rfl) tA1 (fun _ _ _ h=>h) tA5 Xo ?hy25 ?ayF
   case hy25=>(intro W hSw;go_simp<;>with_reducible rfl)
   simp only[bV]
   refine gU 26 _ tA1 (aW rfl) (fun K hK=>?_)
   go_simp
   refine hK.out _ _ (fun h=>absurd h tA3) ?_
   clear hK K
   refine DC tA1 ?_ _
   refine NoPanic.normal ?_
   clear Xo dy
   all_goals
    go_wp2
    go_roundg (l0.length- (kk+1))
    case measure=>omega
    case rel=>exact⟨kk+1,.slice dn (xs.length+1) c6,xs++[FX a b],tA0,tA0,tA7,b9,⟨Kd.cw (p:=⟨w.heap.size+1+1+1,0,none⟩) dr.o (fun k hk=>by have:=Kd.eK dr.o k hk.symm;show k≠w.heap.size+1+1+1;omega) _⟩,⟨a6 hE.o 0 _ rfl⟩,⟨cP.o.setCell (p:=⟨w.heap.size+1+1+1,0,none⟩) (bl _) _⟩⟩
  ·have cp:¬ (kk:Int)< (l0.length:Int):=by omega
   have di:kk=l0.length:=tA0
   have xE:af (mX l0 r0=xs):=⟨by
    have:=ly.o
    rw[di,fJ,pg.o,fJ]at this
    exact this⟩
   obtain⟨all,oM⟩:∃all,l1++r1=all:=⟨_,rfl⟩
   have l6:=ae oM
   have Ef:af (w.heap.size+1+1+1+1<=aA.heap.size):=⟨tA0⟩
   have rX:af (Names xs all):=⟨⟨by rw[<- xE.o];exact acm a7.o.n1,tDw,fun f hf=>by
    rw[<- oM]at hf
    exact(List.mem_append.1 hf).elim (a7.o.n3 f) (HG.o.n3 f)⟩⟩
   have ahN:af (aA.heap[w.heap.size+1+1]?=some (.cells #[.slice none 0 0,.slice none 0 0] 29 (0,0))):=⟨(bA.o.block _ tA0).trans eC.o⟩
   have bM:aA.cell? ⟨w.heap.size,1,none⟩=some (.slice A' l1.length c'):=ah Qp.o 1
   have eH:aA.cell? ⟨w.heap.size+1,1,none⟩=some (.slice X' r1.length cx'):=ah HV.o 1
   have fY:af (∀W:World,Below aA.heap.size aA W->(W.cell? ⟨w.heap.size,1,none⟩=some (.slice A' l1.length c')/\W.cell? ⟨w.heap.size+1,1,none⟩=some (.slice X' r1.length cx'))):=⟨fun W hb=>⟨bw hb bM,bw hb eH⟩⟩
   have er:af (∀(W:World) (u:Value),(W.cell? ⟨w.heap.size,1,none⟩=some (.slice A' l1.length c')/\W.cell? ⟨w.heap.size+1,1,none⟩=some (.slice X' r1.length cx'))->((W.setCell ⟨w.heap.size+1+1+1,1,none⟩ u).cell? ⟨w.heap.size,1,none⟩=some (.slice A' l1.length c')/\(W.setCell ⟨w.heap.size+1+1+1,1,none⟩ u).cell? ⟨w.heap.size+1,1,none⟩=some (.slice X' r1.length cx'))):=⟨fun W u ⟨h1,h2⟩=>by
    have hk:Kept W (W.setCell ⟨w.heap.size+1+1+1,1,none⟩ u) (fun k=>k=w.heap.size+1+1+1):=fN (p:=⟨w.heap.size+1+1+1,1,none⟩) (Kept.refl W (fun k=>k=w.heap.size+1+1+1)) (.inl rfl) u
    exact⟨wj h1 hk tD0,wj h2 hk (by show ¬ w.heap.size+1=_;omega)⟩⟩
   have eJ:af (∀W:World,Below aA.heap.size aA W->Calls Tryz.prog 76 #[.slice A' l1.length c'] W fun e w'=>∃Y cap,e= .returned (.slice Y l1.length cap)/\Kd.N bc 33 w' aA.heap.size (fun k=>k<w.heap.size\/aA.heap.size<=k) (.slice Y l1.length cap) l1/\Below aA.heap.size aA w'):=⟨fun W hb=>(akr (Kd.fH (Kd.vF zP a7.o.ks) (au l7.o hb)) (bj l7.o.size hb.size) (by have:=jL.o.cl;omega)).mono fun e w' ⟨Y,cap,he,hN,hb'⟩=>⟨Y,cap,he,Kd.gp (Kd.et hN (fun k hk=>hk.imp id (bj hb.size))) hb.size,au hb hb'⟩⟩
   have pV:af ((l1.length+r1.length) * 32<=140737488355328):=⟨by have:=jL.o.cl;have:=nH.o.cl;omega⟩
   have He:af (∀W:World,Below aA.heap.size aA W->Kd.F bc W (fun k=>k<w.heap.size) X' r1.length r1):=⟨fun W hb=>Kd.fH (Kd.vF zP HG.o.ks) (au l7.o hb)⟩
   clear di eO wy oM
   go_wp2_with (fail)
   go_region_held3 (fun W=>(W.cell? ⟨w.heap.size,1,none⟩=some (.slice A' l1.length c')/\W.cell? ⟨w.heap.size+1,1,none⟩=some (.slice X' r1.length cx'))) (first|assumption|exact fY.o _ (cB (Below.refl _ _))|exact fY.o _ bq.o|exact fY.o _ cP.o|exact er.o _ _ (fY.o _ cP.o)) (first|(refine Kd.Ew bc aA.heap.size tA5 (.tmp 45) (.tmp 47) 27 33 (.agg #[.int .i64 0,.slice none 0 0]) 32 tA5 Tryz.underlying27 jR rfl tA3 tA3 (.slice Y l1.length c0) l1 r1 X' r1.length cx' (fun k=>k<w.heap.size\/aA.heap.size<=k) (fun k=>k<w.heap.size) tA5 tA5 gw.o (He.o _ bq.o) (fun k hk=>⟨.inl hk,fun e=>Nat.lt_irrefl k (fy hk (bj l7.o.size (Kd.eK gw.o k e.symm)))⟩) (fun k hk=> .inr (bj bq.o.size hk)) bq.o bq.o.size pV.o ?_;intro v6 aY cd cG dI fh;rw[l6.o]at cd;obtain⟨dn,c6,rfl⟩:=Kd.c3 cd;have dr:=ae cd;have cP:=ae cG;have hE:=ae (av gA.o cG);have HT:=ae (av ahN.o cG);have AJ:aY.cell? ⟨w.heap.size+1+1+1,0,none⟩=some (.slice b5 xs.length b6):=(mj hE.o 0).trans rfl;have jx:aY.cell? ⟨w.heap.size+1+1+1,1,none⟩=some (.slice none 0 0):=(mj hE.o 1).trans rfl;have f7:=ar hE.o 1;have vu:=az hE.o;have z0:aY.cell? ⟨w.heap.size+1+1,0,none⟩=some (.slice none 0 0):=(mj HT.o 0).trans rfl;have c2:aY.cell? ⟨w.heap.size+1+1,1,none⟩=some (.slice none 0 0):=(mj HT.o 1).trans rfl;have g0:=ar HT.o 0;have g1:=ar HT.o 1;clear cd cG dI fh)|(go_at_call 76;with_reducible(refine(eJ.o _ (cB (Below.refl aA.heap.size aA))).mono ?_);intro e aZ hI;obtain⟨Y,c0,rfl,pD,hb⟩:=hI;have gw:af (Kd.N bc 33 aZ aA.heap.size (fun k=>k<w.heap.size\/aA.heap.size<=k) (.slice Y l1.length c0) l1):=⟨pD⟩;have bq:=ae hb;clear pD hb))
   go_wp2
   have ahM:af ((aY.setCell ⟨w.heap.size+1+1+1,1,none⟩ (.slice dn all.length c6)).heap[w.heap.size+1+1]?=some (.cells #[.slice none 0 0,.slice none 0 0] 29 (0,0))):=⟨(jZ _ _ _ _ (by show w.heap.size+1+1≠w.heap.size+1+1+1;omega)).trans HT.o⟩
   have sP:=a6 (a6 ahM.o 0 (.slice b5 xs.length b6) rfl) 1 (.slice dn all.length c6) rfl
   refine bodyPost_ret (results_cell_row rfl _ _ (w.heap.size+1+1) 29 #[.slice b5 xs.length b6,.slice dn all.length c6] (0,0) _ rfl sP Tryz.underlying29 rfl tA1) rfl ?_
   have hb:=(((l7.o.trans (dM cP.o l7.o.size)).setCell (p:=⟨w.heap.size+1+1+1,1,none⟩) (by show w.heap.size<=w.heap.size+1+1+1;omega) (.slice dn all.length c6)).setCell (p:=⟨w.heap.size+1+1,0,none⟩) tAf (.slice b5 xs.length b6)).setCell (p:=⟨w.heap.size+1+1,1,none⟩) tAf (.slice dn all.length c6)
   have hq:∀k,some k=(Value.slice b5 xs.length b6).ownBlock->w.heap.size+1+1+1+1<=k:=fun k hk=>Kd.eK bm.o k hk.symm
   have h0:=Kd.cw (p:=⟨w.heap.size+1+1,1,none⟩) (Kd.cw (p:=⟨w.heap.size+1+1,0,none⟩) (Kd.cw (p:=⟨w.heap.size+1+1+1,1,none⟩) (Kd.dz bm.o cP.o) (fun k hk=>by have:=hq k hk;show k≠w.heap.size+1+1+1;omega) (.slice dn all.length c6)) (fun k hk=>tCb) (.slice b5 xs.length b6)) (fun k hk=>tCb) (.slice dn all.length c6)
   have hs:=Ef.o
   have h1:=Kd.cw (p:=⟨w.heap.size+1+1,1,none⟩) (Kd.cw (p:=⟨w.heap.size+1+1,0,none⟩) (Kd.cw (p:=⟨w.heap.size+1+1+1,1,none⟩) (Kd.gp dr.o hs) (fun k hk=>by show k≠w.heap.size+1+1+1;omega) (.slice dn all.length c6)) (fun k hk=>tBz) (.slice b5 xs.length b6)) (fun k hk=>tBz) (.slice dn all.length c6)
   rw[xE.o,l6.o]
   exact⟨b5,b6,dn,c6,rfl,yN h0 h1 rX.o,hb⟩
end
open Go.Lib
def B0 (l:List UInt8):Nat:=l.foldl (fun a b=>10 * a+(b.toNat-48)) 0
theorem akL (l:List UInt8)(b:UInt8):B0 (l++[b])=10 * B0 l+(b.toNat-48):=by
 unfold B0
 rw[List.foldl_append]
 rfl
theorem Ml (d:Nat)(h:d<10):(UInt8.ofNat (48+d)).toNat=48+d:=by
 rw[UInt8.toNat_ofNat']
 omega
theorem Mk (u:Nat):B0 (decDigits u)=u:=by
 induction u using Nat.strongRecOn with
 | _ u ih=>
  rw[decDigits]
  by_cases h:u<10
  ·rw[dif_pos h]
   unfold B0
   simp only[List.foldl_cons,List.foldl_nil]
   rw[Ml u h]
   omega
  ·rw[dif_neg h,akL,ih (u / 10) tA0,Ml _ tA0]
   omega
theorem RN (u:Nat):∀b∈decDigits u,48<=b.toNat/\b.toNat<=57:=by
 induction u using Nat.strongRecOn with
 | _ u ih=>
  rw[decDigits]
  by_cases h:u<10
  ·rw[dif_pos h]
   intro b hb
   simp only[il]at hb
   subst hb
   rw[Ml u h]
   omega
  ·rw[dif_neg h]
   intro b hb
   rcases List.mem_append.1 hb with hb|hb
   ·exact ih _ tA0 b hb
   ·simp only[il]at hb
    subst hb
    rw[Ml _ tA0]
    omega
theorem akK (u:Nat):decDigits u≠[]:=by
 rw[decDigits]
 by_cases h:u<10
 ·rw[dif_pos h];simp
 ·rw[dif_neg h];simp
theorem apf {m n:Int}(h:itoa m=itoa n):m=n:=by
 unfold itoa at h
 have key:∀u v:Nat,45::decDigits u=decDigits v->False:=by
  intro u v e
  have:=RN v 45 (by rw[<- e];exact List.mem_cons_self)
  exact absurd this.1 tA3
 by_cases hm:m<0
 ·by_cases hn:n<0
  ·rw[if_pos hm,if_pos hn]at h
   have e:=congrArg B0 (List.cons.inj h).2
   rw[Mk,Mk]at e
   omega
  ·rw[if_pos hm,if_neg hn]at h
   exact(key _ _ h).elim
 ·by_cases hn:n<0
  ·rw[if_neg hm,if_pos hn]at h
   exact(key _ _ h.symm).elim
  ·rw[if_neg hm,if_neg hn]at h
   have e:=congrArg B0 h
   rw[Mk,Mk]at e
   omega
theorem aph (n:Int):(32:UInt8)∉itoa n:=by
 unfold itoa
 intro h
 have key:∀u:Nat,(32:UInt8)∈decDigits u->False:=fun u e=>absurd (RN u _ e).1 tA3
 by_cases hn:n<0
 ·rw[if_pos hn]at h
  rcases List.mem_cons.1 h with h|h
  ·exact absurd h tA3
  ·exact key _ h
 ·rw[if_neg hn]at h
  exact key _ h
end Go.Proofs.YtjgakaembhmhpaaGreatDoor.PA
