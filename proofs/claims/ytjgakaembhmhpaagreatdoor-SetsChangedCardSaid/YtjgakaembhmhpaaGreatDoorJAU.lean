/- Part of the proof of SetsChanged: the walk and the plain laws. It holds without further conditions. -/
import Derived.Test.YtjgakaembhmhpaaGreatDoorJAT
set_option linter.unusedVariables false
set_option linter.unusedSimpArgs false
set_option maxHeartbeats 16000000
set_option maxRecDepth 100000
namespace Go.Proofs.YtjgakaembhmhpaaGreatDoor.PA
open Go.RowKit Go.Proofs.YtjgakaembhmhpaaGreatDoorW.PrintWords Go.Proofs.YtjgakaembhmhpaaGreatDoorW.PrintLast Go.Proofs.YtjgakaembhmhpaaGreatDoorW.PrintMore Go.Proofs.YtjgakaembhmhpaaGreatDoorM
open Go.WideMaps
def sK (s:ByteArray)(x:aq)(l1:List aj)(g:aj):List aj:=(fS s x++l1).map fun f=>fp f s g
theorem Ae {a w w':World}{S:Nat->Prop}(h:Kept a w S)(hb:Below a.heap.size w w'):Kept a w' S:=⟨bj h.1 hb.size,fun k hk hn=>(hb.block k hk).trans (h.2 k hk hn)⟩
theorem apP {A A' ix:Option Addr}{c c' iE:Nat}{l0:List aq}{l1:List aj}{name:ByteArray}{g:aj}{w:World}(h:cD A c l0 A' c' l1 w)(hg:gl ix iE g w)(nT:eE name=true)(hm:name∈l0.map (·.f0))(hl0:l0.length<=1000)(fk:l1.length<=1000)(h1:(eV l0 name).f1.natAbs<=1000000)(h2:(eV l0 name).f2.natAbs<=1000000)(hf:∀f∈l1,ou f)(u9:ou g):
  Calls Tryz.prog 38 #[.agg #[.slice A l0.length c,.slice A' l1.length c'],.string name,.agg #[.int .i64 g.f0,.slice ix g.f1.length iE]] w fun e w'=>∃X cx X' cx',e= .returned (.agg #[.slice X (dE l0 name).length cx,.slice X' (sK name (eV l0 name) l1 g).length cx'])/\Kd.N cu 77 w' w.heap.size (fun k=>w.heap.size<=k) (.slice X (dE l0 name).length cx) (dE l0 name)/\Kd.N bc 33 w' w.heap.size (fun k=>w.heap.size<=k) (.slice X' (sK name (eV l0 name) l1 g).length cx') (sK name (eV l0 name) l1 g)/\Below w.heap.size w w':=by
 have a7:=ae h
 have HG:=ae hg
 have jV:=ae (vv nT)
 have dC:=ae hm
 have y9:=ae hl0
 have jU:=ae fk
 have vO:=ae h1
 have fV:=ae h2
 have xp:=ae u9
 have pQ:af (∀f∈fS name (eV l0 name)++l1,ou f):=⟨fun f hf'=>(List.mem_append.1 hf').elim (adF nT h1 h2 f) (hf f)⟩
 have vH:=ae (ax (ax (ax (Below.refl w.heap.size w) (.cells #[.slice A l0.length c,.slice A' l1.length c'] 29)) (.cells #[.int .i64 g.f0,.slice ix g.f1.length iE] 33)) (.cells #[.slice none 0 0,.slice none 0 0] 29))
 have ra:=ae (aH (aH (a8 w (.cells #[.slice A l0.length c,.slice A' l1.length c'] 29)) (.cells #[.int .i64 g.f0,.slice ix g.f1.length iE] 33)) (.cells #[.slice none 0 0,.slice none 0 0] 29))
 have cJ:af ((((w.alloc (.cells #[.slice A l0.length c,.slice A' l1.length c'] 29)).alloc (.cells #[.int .i64 g.f0,.slice ix g.f1.length iE] 33)).alloc (.cells #[.slice none 0 0,.slice none 0 0] 29)).heap[w.heap.size+1]?=some (.cells #[.int .i64 g.f0,.slice ix g.f1.length iE] 33 (0,0))):=⟨by have:=aH (a8 (w.alloc (.cells #[.slice A l0.length c,.slice A' l1.length c'] 29)) (.cells #[.int .i64 g.f0,.slice ix g.f1.length iE] 33)) (.cells #[.slice none 0 0,.slice none 0 0] 29);simpa using this⟩
 have cq:af ((((w.alloc (.cells #[.slice A l0.length c,.slice A' l1.length c'] 29)).alloc (.cells #[.int .i64 g.f0,.slice ix g.f1.length iE] 33)).alloc (.cells #[.slice none 0 0,.slice none 0 0] 29)).heap[w.heap.size+1+1]?=some (.cells #[.slice none 0 0,.slice none 0 0] 29 (0,0))):=⟨by have:=a8 ((w.alloc (.cells #[.slice A l0.length c,.slice A' l1.length c'] 29)).alloc (.cells #[.int .i64 g.f0,.slice ix g.f1.length iE] 33)) (.cells #[.slice none 0 0,.slice none 0 0] 29);simpa using this⟩
 have km:af ((((w.alloc (.cells #[.slice A l0.length c,.slice A' l1.length c'] 29)).alloc (.cells #[.int .i64 g.f0,.slice ix g.f1.length iE] 33)).alloc (.cells #[.slice none 0 0,.slice none 0 0] 29)).heap.size=w.heap.size+3):=⟨tA2⟩
 clear h hg hm u9 nT h1 h2 hf
 have qY:=ae (acR (name:=name) (a7.o.below vH.o) y9.o dC.o)
 go_enter Tryz.func38,Tryz.ntmps38
 go_wp2_with (go_at_call 99;with_reducible(refine qY.o.mono ?_);rintro e w2 ⟨X,cx,rfl,hN,hb⟩;have pX:=ae hN;have aI:=ae hb;clear hb hN)
 generalize z1:((w.alloc (.cells #[.slice A l0.length c,.slice A' l1.length c'] 29)).alloc (.cells #[.int .i64 g.f0,.slice ix g.f1.length iE] 33)).alloc (.cells #[.slice none 0 0,.slice none 0 0] 29)=w1 at *
 clear z1 qY
 have xe:=ae (au vH.o aI.o)
 have Eh:=ae (av ra.o aI.o)
 have jW:=ae (av cJ.o aI.o)
 have l9:=ae (av cq.o aI.o)
 have ie:=ae (ax (Below.refl w2.heap.size w2) (.cells #[.slice X (dE l0 name).length cx,.slice none 0 0] 29))
 have El:=ae (a8 w2 (.cells #[.slice X (dE l0 name).length cx,.slice none 0 0] 29))
 have kn:af ((w2.alloc (.cells #[.slice X (dE l0 name).length cx,.slice none 0 0] 29)).heap.size=w2.heap.size+1):=⟨tA2⟩
 generalize hw3:w2.alloc (.cells #[.slice X (dE l0 name).length cx,.slice none 0 0] 29)=w3 at *
 clear hw3
 have AY:=ae (au xe.o ie.o)
 have HR:=ae (av Eh.o ie.o)
 have aK:w3.cell? ⟨w.heap.size,0,none⟩=some (.slice A l0.length c):=ah HR.o 0
 have aC:w3.cell? ⟨w.heap.size,1,none⟩=some (.slice A' l1.length c'):=ah HR.o 1
 have er:af (∀W:World,Below w3.heap.size w3 W->(W.cell? ⟨w.heap.size,0,none⟩=some (.slice A l0.length c)/\W.cell? ⟨w.heap.size,1,none⟩=some (.slice A' l1.length c'))):=⟨fun W hb=>⟨bw hb aK,bw hb aC⟩⟩
 obtain⟨jn,p2⟩:∃jn,af (eV l0 name=jn):=⟨_,⟨rfl⟩⟩
 rw[p2.o]at vO fV pQ
 have oz:af (∀W:World,Below w3.heap.size w3 W->Calls Tryz.prog 100 #[.agg #[.slice A l0.length c,.slice A' l1.length c'],.string name] W fun e w'=>∃Y,e= .returned (.slice (some ⟨Y,0,none⟩) 2 2)/\Kd.N bc 33 w' w3.heap.size (fun k=>w3.heap.size<=k) (.slice (some ⟨Y,0,none⟩) 2 2) (fS name jn)/\Below w3.heap.size w3 w'):=⟨fun W hb=>by
  have iF:=adH (w:=W) (a7.o.below (au AY.o hb)) jV.o.2 jV.o.1 dC.o (by rw[p2.o];exact vO.o) (by rw[p2.o];exact fV.o)
  rw[p2.o]at iF
  exact iF.mono fun e w' ⟨Y,he,hN,hb'⟩=>⟨Y,he,Kd.gp (Kd.et hN (fun k hk=>bj hb.size hk)) hb.size,au hb hb'⟩⟩
 have He:af (∀W:World,Below w3.heap.size w3 W->Kd.F bc W (fun k=>k<w.heap.size) A' l1.length l1):=⟨fun W hb=>Kd.fH (Kd.vF zP a7.o.ks) (au AY.o hb)⟩
 have pV:af (((fS name jn).length+l1.length) * 32<=140737488355328):=⟨by show(2+l1.length) * 32<=_;omega⟩
 have PK:af ((fS name jn).length=2):=⟨rfl⟩
 clear aK aC
 go_region_held3 (fun W=>(W.cell? ⟨w.heap.size,0,none⟩=some (.slice A l0.length c)/\W.cell? ⟨w.heap.size,1,none⟩=some (.slice A' l1.length c'))) (first|assumption|exact er.o _ (cB (Below.refl _ _))|exact er.o _ bq.o|exact er.o _ cP.o) (first|(refine Kd.Ew bc w3.heap.size tA5 (.tmp 16) (.tmp 18) 27 33 (.agg #[.int .i64 0,.slice none 0 0]) 32 tA5 Tryz.underlying27 jR rfl tA3 tA3 (.slice (some ⟨Y,0,none⟩) 2 2) (fS name jn) l1 A' l1.length c' (fun k=>k<w.heap.size\/w3.heap.size<=k) (fun k=>k<w.heap.size) tA5 tA5 gw.o (He.o _ bq.o) (fun k hk=>⟨.inl hk,fun e=>Qw.o k hk e⟩) (fun k hk=> .inr (bj bq.o.size hk)) bq.o bq.o.size pV.o ?_;intro v6 aY cd cG dI fh;obtain⟨dn,c6,rfl⟩:=Kd.c3 cd;have dr:=ae cd;have cP:=ae cG;clear cd cG dI fh)|(go_simp;go_at_call 100;with_reducible(refine(oz.o _ tC5).mono ?_);rintro e aZ ⟨Y,rfl,pD,hb⟩;have Qw:af (∀k,k<w.heap.size->some k=(Value.slice (some ⟨Y,0,none⟩) 2 2).ownBlock->False):=(⟨fun k hk e=>tE9⟩);have gw:=ae (Kd.et pD (fun k hk=>(.inr hk:k<w.heap.size\/w3.heap.size<=k)));have bq:=ae hb;clear hb pD))
 all_goals
  rw[show((fS name jn).length:Int)+(l1.length:Int)=((fS name jn++l1).length:Int) by rw[fZ];omega]
  have pR:af ((fS name jn++l1).length<=1002):=⟨by rw[fZ,PK.o];have:=jU.o;omega⟩
  have l6:af (fS name jn++l1=fS name jn++l1):=⟨rfl⟩
  generalize hall:fS name jn++l1=all at pR pQ dr l6 ⊢
  have OU:=ae hall
  clear hall l6
  have I5:all.length<=9223372036854775807:=by have:=pR.o;omega
  have s3:=ae (ie.o.trans (dM cP.o ie.o.size))
  have zv:=ae (av jW.o s3.o)
  have XC:=ae (av l9.o s3.o)
  have HX:=ae (av El.o cP.o)
  have OV:af (Kd.F bc aY (fun k=>(k<w.heap.size\/w3.heap.size<=k)/\k<aY.heap.size) dn all.length all):=⟨Kd.mb (Kd.tj dr.o)⟩
  have po:af (w3.heap.size<=aY.heap.size):=⟨cP.o.size⟩
  have e5:af (w.heap.size+3<=w2.heap.size):=⟨by have:=km.o;have:=aI.o.size;omega⟩
  clear dr
  go_wp2
  go_loopg [9,21] all.length (fun bL _ U7 wr=>∃(kk:Nat) (v:Value),kk<=all.length/\all.length-kk<=bL/\U7= .int .i64 kk/\af (Kd.N bc 33 wr aY.heap.size (fun k=>aY.heap.size<=k) v ((all.take kk).map fun f=>fp f name g))/\af (wr.heap[w2.heap.size]?=some (.cells #[.slice X (dE l0 name).length cx,v] 29 (0,0)))/\af (Kept aY wr (fun k=>k=w2.heap.size))/\af (Below w2.heap.size w2 wr))
  case atStart=>exact⟨0,.slice none 0 0,Nat.zero_le _,tA0,rfl,⟨Kd.i1 _ _ _ _ _⟩,HX,⟨Kept.refl _ _⟩,s3⟩
  case round=>
   obtain⟨kk,v,eO,wy,rfl,gy,p4,iz,ny⟩:=hrel
   generalize mM:wr=aA at *
   clear mM
   obtain⟨b5,b6,rfl⟩:=Kd.c3 gy.o
   have y1:=ae (xe.o.trans (dM ny.o xe.o.size))
   have Qj:=ae ((iz.o.2 _ (az zv.o) tCa).trans zv.o)
   have Ej:=ae ((iz.o.2 _ (az XC.o) tCa).trans XC.o)
   by_cases hlt:kk<all.length
   ·have cp:(kk:Int)< (all.length:Int):=by omega
    obtain⟨ad,aN,c1,e,x0,x1,fF,jq⟩:=xV (Kd.l4 OV.o iz.o (fun k hk e=>tDy)) kk hlt
    cases e
    have uF:=ae (pQ.o _ (sL all kk hlt))
    have iM:af ((all.take (kk+1)).map (fun f=>fp f name g)=(all.take kk).map (fun f=>fp f name g)++[fp (bH all (kk:Int)) name g]):=⟨by rw[sT hlt,List.map_append];rfl⟩
    have jB:af (((all.take kk).map fun f=>fp f name g).length<=1002):=⟨by rw[fc,bQ];have:=pR.o;omega⟩
    have ma:=ae jq
    have iA:=ae fF
    clear jq fF
    generalize bH all (kk:Int)=f at *
    generalize (all.take kk).map (fun f=>fp f name g)=outs at *
    go_wp2_with (fail)
    have bR:=ae (ax (Below.refl aA.heap.size aA) (.cells #[.int .i64 f.f0,.slice aN f.f1.length c1] 33))
    have dh:=ae (a8 aA (.cells #[.int .i64 f.f0,.slice aN f.f1.length c1] 33))
    have ag5:=ae (Kd.BB gy.o (.cells #[.int .i64 f.f0,.slice aN f.f1.length c1] 33))
    have HOW:af (∀k,some k=(Value.slice b5 outs.length b6).ownBlock->k<aA.heap.size):=⟨fun k hk=>Kd.BD gy.o k hk.symm⟩
    have PB:af (∀k,some k=(Value.slice b5 outs.length b6).ownBlock->aY.heap.size<=k):=⟨fun k hk=>Kd.eK gy.o k hk.symm⟩
    have r4:af (aY.heap.size<=aA.heap.size):=⟨iz.o.1⟩
    have XH:=ae (av p4.o bR.o)
    have Lh:=ae (av Qj.o bR.o)
    generalize qB:aA.alloc (.cells #[.int .i64 f.f0,.slice aN f.f1.length c1] 33)=cz at *
    clear qB
    have D4:af (∀W:World,Below cz.heap.size cz W->(W.cell? ⟨w2.heap.size,1,none⟩=some (.slice b5 outs.length b6)/\W.cell? ⟨aA.heap.size,0,none⟩=some (.int .i64 f.f0)/\W.cell? ⟨aA.heap.size,1,none⟩=some (.slice aN f.f1.length c1)/\W.cell? ⟨w.heap.size+1,0,none⟩=some (.int .i64 g.f0)/\W.cell? ⟨w.heap.size+1,1,none⟩=some (.slice ix g.f1.length iE))):=⟨fun W hb=>⟨ah (av XH.o hb) 1,ah (av dh.o hb) 0,ah (av dh.o hb) 1,ah (av Lh.o hb) 0,ah (av Lh.o hb) 1⟩⟩
    have af3:=ae (au y1.o bR.o)
    have fU:af (∀W:World,Below cz.heap.size cz W->Calls Tryz.prog 66 #[.agg #[.int .i64 f.f0,.slice aN f.f1.length c1]] W fun e w'=>∃b,e= .returned (.map (some b))/\af (eX w' b (f.f1.length+1) (pf f))/\af (Below cz.heap.size cz w')):=⟨fun W hb=>(JM (uF.o.at_ (Kd.bN (Kd.gY ma.o) (au bR.o hb)) iA.o) uF.o.canon (by have:=uF.o.bf;omega) (fun t ht=>bj (uF.o.b t ht) tA3) (by have:=uF.o.len;omega)).mono fun e w' ⟨b,he,_,hp,hb'⟩=>⟨b,he,hp,⟨au hb hb'.o⟩⟩⟩
    have l8:af (∀W:World,Below cz.heap.size cz W->Calls Tryz.prog 66 #[.agg #[.int .i64 g.f0,.slice ix g.f1.length iE]] W fun e w'=>∃b,e= .returned (.map (some b))/\af (eX w' b (g.f1.length+1) (pf g))/\af (Below W.heap.size W w')):=⟨fun W hb=>(JM (HG.o.below (au af3.o hb)) xp.o.canon (by have:=xp.o.bf;omega) (fun t ht=>bj (xp.o.b t ht) tA3) (by have:=xp.o.len;omega)).mono fun e w' ⟨b,he,_,hp,hb'⟩=>⟨b,he,hp,hb'⟩⟩
    have ahm:af (∀(W:World) (b b2:Nat),eX W b (f.f1.length+1) (pf f)->eX W b2 (g.f1.length+1) (pf g)->Calls Tryz.prog 102 #[.map (some b),.string name,.map (some b2)] W fun e w'=>∃b3,e= .returned (.map (some b3))/\af (eX w' b3 100 (pf (fp f name g)))/\af (Below W.heap.size W w')):=⟨fun W b b2 h1 h2=>by
     refine(aqJ tCj h1 h2 tEg (fun s _=>?_)).mono fun e w' ⟨b3,he,_,hp,hb'⟩=>⟨b3,he,⟨(hp.o.mono tEg).congr (fun s _=>(aqD uF.o.up xp.o.up jV.o.1 s).symm)⟩,hb'⟩
     have p1:=F5 uF.o s
     have oa:=Ai (F5 uF.o name) (F5 xp.o s)
     split<;>omega⟩
    have Ba:=ae (akb (s:=name) uF.o.canon xp.o.canon)
    generalize fp f name g=F at *
    refine wp_region_noPanic ?_
    refine Du (fun W=>(W.cell? ⟨w2.heap.size,1,none⟩=some (.slice b5 outs.length b6)/\W.cell? ⟨aA.heap.size,0,none⟩=some (.int .i64 f.f0)/\W.cell? ⟨aA.heap.size,1,none⟩=some (.slice aN f.f1.length c1)/\W.cell? ⟨w.heap.size+1,0,none⟩=some (.int .i64 g.f0)/\W.cell? ⟨w.heap.size+1,1,none⟩=some (.slice ix g.f1.length iE))) 12 tA1 ?_
    have dy:=D4.o _ (cB (Below.refl cz.heap.size cz))
    refine cZ 0 _ (v:=?v0) (aW rfl) tA1 (fun _ _ _ h=>h) tA5 dy ?hy0 ?arf
    case hy0=>(intro W hSw;go_simp<;>with_reducible rfl)
    simp only[bV]
    refine cZ 1 _ (v:=?v1) (aW rfl) tA1 (fun _ _ _ h=>h) tA5 dy ?hy1 ?adg
    case hy1=>(intro W hSw;go_simp<;>with_reducible rfl)
    simp only[bV]
    refine cZ 2 _ (v:=?v2) (aW rfl) tA1 (fun _ _ _ h=>h) tA5 dy ?hy2 ?aro
    case hy2=>(intro W hSw;go_simp<;>with_reducible rfl)
    simp only[bV]
    refine cZ 4 _ (v:=?v4) (aW rfl) tA1 (fun _ _ _ h=>h) tA5 dy ?hy4 ?adh
    case hy4=>(intro W hSw;go_simp<;>with_reducible rfl)
    simp only[bV]
    refine cZ 5 _ (v:=?v5) (aW rfl) tA1 (fun _ _ _ h=>h) tA5 dy ?hy5 ?adi
    case hy5=>(intro W hSw;go_simp<;>with_reducible rfl)
    simp only[bV]
    refine gU 3 _ tA1 (aW rfl) (fun K hK=>?_)
    go_simp
    with_reducible(refine(fU.o _ (cB (Below.refl cz.heap.size cz))).mono ?_)
    rintro e w4 ⟨b1,rfl,mC,cO⟩
    refine hK.out _ _ (fun _=>D4.o _ cO.o) ?_
    clear hK K
    try simp only[bV]
    refine gU 6 _ tA1 (aW rfl) (fun K hK=>?_)
    go_simp
    with_reducible(refine(l8.o _ cO.o).mono ?_)
    rintro e aZ ⟨b2,rfl,vL,ky⟩
    have bq:=ae (au cO.o ky.o)
    have agQ:=ae (mC.o.below ky.o)
    refine hK.out _ _ (fun _=>D4.o _ bq.o) ?_
    clear hK K ky
    try simp only[bV]
    refine gU 7 _ tA1 (aW rfl) (fun K hK=>?_)
    go_simp
    with_reducible(refine(ahm.o _ _ _ agQ.o vL.o).mono ?_)
    rintro e azg ⟨b3,rfl,Hn,B8⟩
    have OY:=ae (au bq.o B8.o)
    refine hK.out _ _ (fun _=>D4.o _ OY.o) ?_
    clear hK K B8
    try simp only[bV]
    refine gU 8 _ tA1 (aW rfl) (fun K hK=>?_)
    go_simp
    with_reducible(refine(JL Hn.o Ba.o tA3).mono ?_)
    intro e bt hI
    unfold oB at hI
    obtain⟨p9,qi,rfl,iG,IP⟩:=hI
    have eZ:=ae (au OY.o IP)
    have o9:=ae (Kd.nx (tz (a:=F.f0) iG) (fun k hk=>bj OY.o.size hk))
    refine hK.out _ _ (fun _=>D4.o _ eZ.o) ?_
    clear hK K IP iG
    try simp only[bV]
    refine gU 9 _ tA1 (aW rfl) (fun K hK=>?_)
    go_simp
    refine hK.out _ _ (fun _=>D4.o _ (ax eZ.o _)) ?_
    clear hK K
    try simp only[bV]
    refine gU 10 _ tA1 (aW rfl) (fun K hK=>?_)
    refine Kd.th (w0:=cz) (W:=bt) bc aY.heap.size tA5 (.tmp 26) (.tmp 34) 27 33 (.agg #[.int .i64 0,.slice none 0 0]) 32 tA5 Tryz.underlying27 jR rfl tA3 tA3 (.slice b5 outs.length b6) outs F [.int .i64 F.f0,.slice p9 F.f1.length qi] (fun k=>aY.heap.size<=k) (fun k=>cz.heap.size<=k) tA5 ?hx o9.o (fun k hk=>⟨by have h1:=r4.o;have h2:=bR.o.size;omega,fun e=>by have h1:=HOW.o k e;have h2:=bR.o.size;omega⟩) (fun k hk=>by have h1:=r4.o;have h2:=bR.o.size;have h3:=eZ.o.size;omega) (Kd.dz ag5.o eZ.o) (dM eZ.o (bj r4.o bR.o.size)) (bj (bj r4.o bR.o.size) eZ.o.size) tAp ?_
    (case hx=>go_simp)
    intro v8 fq fO gD eY iq
    obtain⟨jJ,c8,rfl⟩:=Kd.c3 fO
    rw[j2]at fO iq ⊢
    have kP:=gf (av XH.o eZ.o) (show bt.grownBy fq (Value.slice b5 outs.length b6).ownBlock from⟨eY.os,eY.tape,eY.output,eY.size,eY.block⟩) (fun e=>by have h1:=PB.o _ e;have h2:=po.o;have h3:=kn.o;omega)
    have uO:=ae kP
    have je:=ae fO
    have eh:=ae gD
    have kJ:=ae (show bt.grownBy fq (Value.slice b5 outs.length b6).ownBlock from⟨eY.os,eY.tape,eY.output,eY.size,eY.block⟩)
    have wo:(fq.cell? ⟨w2.heap.size,1,none⟩=some (.slice b5 outs.length b6)/\fq.cell? ⟨aA.heap.size,0,none⟩=some (.int .i64 f.f0)/\fq.cell? ⟨aA.heap.size,1,none⟩=some (.slice aN f.f1.length c1)/\fq.cell? ⟨w.heap.size+1,0,none⟩=some (.int .i64 g.f0)/\fq.cell? ⟨w.heap.size+1,1,none⟩=some (.slice ix g.f1.length iE)):=⟨ah kP 1,ah (gf (av dh.o eZ.o) kJ.o (fun e=>by have h1:=HOW.o _ e;omega)) 0,ah (gf (av dh.o eZ.o) kJ.o (fun e=>by have h1:=HOW.o _ e;omega)) 1,ah (gf (av Lh.o eZ.o) kJ.o (fun e=>tDk)) 0,ah (gf (av Lh.o eZ.o) kJ.o (fun e=>tDk)) 1⟩
    have p1:fq.cell? ⟨w2.heap.size,1,none⟩=some (.slice b5 outs.length b6):=wo.1
    have Mu:=ar kP 1
    have yD:=az kP
    clear fO gD eY iq kP
    refine hK.out _ _ (fun _=>wo) ?_
    clear hK K
    try simp only[bV]
    refine cZ 11 _ (v:=?v11) (aW rfl) tA1 (fun _ _ _ h=>h) tA5 wo ?hy11 ?arh
    case hy11=>(intro W hSw;go_simp<;>with_reducible rfl)
    simp only[bV]
    refine gU 12 _ tA1 (aW rfl) (fun K hK=>?_)
    go_simp
    refine hK.out _ _ (fun h=>absurd h tA3) ?_
    clear hK K
    refine DC tA1 ?_ _
    refine NoPanic.normal ?_
    clear wo dy
    all_goals
     go_wp2
     go_roundg (all.length- (kk+1))
     case measure=>omega
     case rel=>exact⟨kk+1,.slice jJ (outs.length+1) c8,tA0,tA0,tA7,⟨by
      rw[iM.o]
      exact Kd.cw (p:=⟨w2.heap.size,1,none⟩) je.o (fun k hk=>by have h2:=po.o;have h3:=kn.o;show k≠w2.heap.size;omega) _⟩,⟨a6 uO.o 1 _ rfl⟩,⟨fN (p:=⟨w2.heap.size,1,none⟩) (Ae iz.o (Below.trans (dM (cm (Below.refl aA.heap.size aA) (bl _) bR.o) r4.o) eh.o)) (.inl rfl) _⟩,⟨(ny.o.trans (Below.trans (dM bR.o ny.o.size) (dM eh.o tCn))).setCell (p:=⟨w2.heap.size,1,none⟩) (bl _) _⟩⟩
   ·have cp:¬ (kk:Int)< (all.length:Int):=by omega
    have di:kk=all.length:=tA0
    have Hc:af ((all.take kk).map (fun f=>fp f name g)=all.map fun f=>fp f name g):=⟨by rw[di,fJ]⟩
    rw[Hc.o]at gy p4
    have r0:aA.cell? ⟨w.heap.size+1+1,0,none⟩=some (.slice none 0 0):=ah Ej.o 0
    have r1:aA.cell? ⟨w.heap.size+1+1,1,none⟩=some (.slice none 0 0):=ah Ej.o 1
    have g0:=ar Ej.o 0
    have g1:=ar Ej.o 1
    have ace:=az Ej.o
    have vw:aA.cell? ⟨w2.heap.size,0,none⟩=some (.slice X (dE l0 name).length cx):=ah p4.o 0
    have o1:aA.cell? ⟨w2.heap.size,1,none⟩=some (.slice b5 (all.map fun f=>fp f name g).length b6):=ah p4.o 1
    clear di
    have PE:af (sK name (eV l0 name) l1 g=all.map fun f=>fp f name g):=⟨by unfold sK;rw[p2.o,OU.o]⟩
    generalize all.map (fun f=>fp f name g)=fin at *
    go_wp2
    have q1:=a6 (a6 Ej.o 0 (.slice X (dE l0 name).length cx) rfl) 1 (.slice b5 fin.length b6) rfl
    refine bodyPost_ret (results_cell_row rfl _ _ (w.heap.size+1+1) 29 #[.slice X (dE l0 name).length cx,.slice b5 fin.length b6] (0,0) _ rfl q1 Tryz.underlying29 rfl tA1) rfl ?_
    have hz1:=e5.o
    have hz2:=kn.o
    have hz3:=po.o
    have abS:=km.o
    have hb:=(y1.o.setCell (p:=⟨w.heap.size+1+1,0,none⟩) tAf (.slice X (dE l0 name).length cx)).setCell (p:=⟨w.heap.size+1+1,1,none⟩) tAf (.slice b5 fin.length b6)
    have hq:∀k,some k=(Value.slice X (dE l0 name).length cx).ownBlock->w1.heap.size<=k:=fun k hk=>Kd.eK pX.o k hk.symm
    have n1:=Kd.cw (p:=⟨w.heap.size+1+1,1,none⟩) (Kd.cw (p:=⟨w.heap.size+1+1,0,none⟩) (Kd.dz pX.o ny.o) (fun k hk=>tCb) (.slice X (dE l0 name).length cx)) (fun k hk=>tCb) (.slice b5 fin.length b6)
    have m1:=Kd.cw (p:=⟨w.heap.size+1+1,1,none⟩) (Kd.cw (p:=⟨w.heap.size+1+1,0,none⟩) gy.o (fun k hk=>tBz) (.slice X (dE l0 name).length cx)) (fun k hk=>tBz) (.slice b5 fin.length b6)
    rw[PE.o]
    exact⟨X,cx,b5,b6,rfl,Kd.et (Kd.gp n1 tA0) (fun k hk=>by have:=hq k hk;omega),Kd.et (Kd.gp m1 tA0) (fun k hk=>tA0),hb⟩
theorem ad8 {P:Program}{ops:Array Oper}{Q:Exit->Act->World->Prop}{md:Region.Mode}{S:World->Prop}{n:Nat}(i j:Nat)(oi oj:Oper){m:Nat}{l:Array Bool}{a:Act}{w:World}(hr:Region.ready md ops l=[i,j])(hi:ops[i]?=some oi)(hj:ops[j]?=some oj)
  (h1:∀K':Act->World->Prop,Shut (∀b v,(i<n->S v)->pN P md ops Q S n m (l.setIfInBounds i true) b v->K' b v)->if Region.wanted oi (yielded ops a.tmps)=true then Oper.wp P oi a w K' Q else K' (a.put oi.dst undef) w)
  (h2:∀K':Act->World->Prop,Shut (∀b v,(j<n->S v)->pN P md ops Q S n m (l.setIfInBounds j true) b v->K' b v)->if Region.wanted oj (yielded ops a.tmps)=true then Oper.wp P oj a w K' Q else K' (a.put oj.dst undef) w):pN P md ops Q S n (m+1) l a w:=by
 constructor
 ·intro e;rw[hr]at e;cases e
 ·intro k hk
  rw[hr]at hk
  simp only[List.mem_cons,List.not_mem_nil,or_false]at hk
  rcases hk with rfl|rfl
  ·exact wpOp_step hi (fun K' hK=>h1 K' (fun b v hS hT=>hK b v ⟨hS,hT⟩))
  ·exact wpOp_step hj (fun K' hK=>h2 K' (fun b v hS hT=>hK b v ⟨hS,hT⟩))
theorem ac0 (W:World):eX (W.alloc (.map #[] 0)) W.heap.size 0 (fun _=>0):=
 ⟨0,.map [],bl _,World.ownsMap_made (H:=Unit) W Tryz.prog 9 (plainElem Tryz.prog 3),fun s _=>by simp[eP,lW,DataW.atKey,jS]⟩
structure pO (f:aj):Prop where
 s:ou f
 c:f.f0.natAbs<=1000000
 b:fR 1000 f.f1
theorem pO.of {ns:List ByteArray}{f:aj}(h:Good ns f)(hn:ns.length<=40):pO f:=⟨ou.of h hn,tCc,h.b⟩
theorem adG {s:ByteArray}{x:aq}(hs:eE s=true)(h1:x.f1.natAbs<=1000000)(h2:x.f2.natAbs<=1000000):∀f∈fS s x,pO f:=fun f hf=>by
 have h:=adF hs h1 h2 f hf
 unfold fS at hf
 simp only[List.mem_cons,List.not_mem_nil,or_false]at hf
 rcases hf with rfl|rfl
 ·exact⟨h,by show(-x.f1).natAbs<=_;omega,fun t ht=>by simp at ht;subst ht;show(1:Int).natAbs<=1000;decide⟩
 ·exact⟨h,h2,fun t ht=>by simp at ht;subst ht;show(-1:Int).natAbs<=1000;decide⟩
theorem pO.k {f:aj}(h:pO f):qM f:=⟨tCc,fun t ht=>bj (h.b t ht) tA3,by have:=h.s.len;omega,h.s.up,h.s.qD,h.s.ok⟩
theorem aqx {f g:aj}(s:ByteArray)(hf:pO f)(hg:pO g):qM (jI s f g):=by
 have c1:=sg hf.b s
 have bb:=sg hg.b s
 refine⟨?_,fun t ht=>?_,?_,CS _,Uu _,fun t ht=>?_⟩
 ·have h1:=Ai (a:= -bu g.f1 s) (A:=1000) tA0 hf.c
  have h2:=Ai (a:=bu f.f1 s) (A:=1000) tA0 hg.c
  show(-bu g.f1 s * f.f0+bu f.f1 s * g.f0).natAbs<=_
  omega
 ·have e:bu (jI s f g).f1 t.f0=t.f1:=Me (CS _) t ht
  rw[<- e]
  unfold jI
  rw[adP _ _ _ _ hf.s.up hg.s.up]
  have h1:=Ai (a:= -bu g.f1 s) (A:=1000) tA0 (sg hf.b t.f0)
  have h2:=Ai (a:=bu f.f1 s) (A:=1000) tA0 (sg hg.b t.f0)
  omega
 ·have h1:=acD (fD (-bu g.f1 s) f.f1++fD (bu f.f1 s) g.f1)
  rw[fZ,tR,tR]at h1
  have:=hf.s.len
  have:=hg.s.len
  show(j4 _).length<=_
  omega
 ·obtain⟨v,hv,e⟩:=NA _ _ ht
  rw[<- e]
  rcases List.mem_append.1 hv with hv|hv
  ·obtain⟨u,hu,rfl⟩:=List.mem_map.1 hv
   exact hf.s.ok u hu
  ·obtain⟨u,hu,rfl⟩:=List.mem_map.1 hv
   exact hg.s.ok u hu
theorem aqC {f g:aj}(s:ByteArray)(hf:pO f)(hg:pO g)(t:ByteArray):pf (jI s f g) t=(0+ -bu g.f1 s * pf f t)+bu f.f1 s * pf g t:=by
 unfold jI
 rw[acX _ _ hf.s.up hg.s.up,Int.zero_add]
theorem UN {f:aj}{s:ByteArray}(hs:s≠⟨#[]⟩):pf f s=bu f.f1 s:=by
 unfold pf
 rw[if_neg hs]
theorem asv (s:ByteArray)(l:List aj)(f:aj):fT s (l++[f])=if bu f.f1 s=0 then fT s l++[f]else fT s l:=by
 unfold fT
 rw[List.filter_append]
 by_cases h:bu f.f1 s=0
 ·rw[if_pos h,List.filter_cons_of_pos tAi]
  simp
 ·rw[if_neg h,List.filter_cons_of_neg tAi]
  simp
def rowP (s:ByteArray)(f:aj)(l:List aj):List aj:=if 0<bu f.f1 s then(pE s l).map (jI s f)else []
theorem arC (s:ByteArray)(f:aj)(l:List aj)(g:aj):rowP s f (l++[g])=if 0<bu f.f1 s/\bu g.f1 s<0 then rowP s f l++[jI s f g]else rowP s f l:=by
 unfold rowP pE
 by_cases h:0<bu f.f1 s
 ·rw[if_pos h,if_pos h,List.filter_append]
  by_cases h2:bu g.f1 s<0
  ·rw[if_pos ⟨h,h2⟩,List.filter_cons_of_pos tBn,List.map_append]
   simp
  ·rw[if_neg (fun h'=>h2 h'.2),List.filter_cons_of_neg tBn]
   simp
 ·rw[if_neg h,if_neg h,if_neg (fun h'=>h h'.1)]
def kC (s:ByteArray)(all l:List aj):List aj:=l.flatMap fun f=>rowP s f all
theorem aqy (s:ByteArray)(all l:List aj)(f:aj):kC s all (l++[f])=kC s all l++rowP s f all:=by
 unfold kC
 rw[List.flatMap_append]
 simp
theorem acV (s:ByteArray)(all:List aj):∀l,kC s all l=qE s (rB s l) (pE s all)
 | []=>rfl
 | f::l=>by
  have ih:=acV s all l
  have e1:kC s all (f::l)=rowP s f all++kC s all l:=by
   unfold kC
   rw[List.flatMap_cons]
  rw[e1,ih]
  unfold rowP rB qE
  by_cases h:0<bu f.f1 s
  ·rw[if_pos h,List.filter_cons_of_pos tAi,List.flatMap_cons]
  ·rw[if_neg h,List.filter_cons_of_neg tAi]
   rfl
theorem ado (s:ByteArray)(f:aj)(l:List aj):(rowP s f l).length<=l.length:=by
 unfold rowP pE
 split
 ·rw[fc]
  exact List.length_filter_le _ _
 ·exact Nat.zero_le _
theorem Vm (s:ByteArray)(l:List aj):(fT s l).length<=l.length:=List.length_filter_le _ _
theorem UL (s:ByteArray)(all:List aj):∀l:List aj,(kC s all l).length<=l.length * all.length
 | []=>Nat.zero_le _
 | f::l=>by
  have ih:=UL s all l
  have h1:=ado s f all
  have e1:kC s all (f::l)=rowP s f all++kC s all l:=by
   unfold kC
   rw[List.flatMap_cons]
  rw[e1,fZ,i6,Nat.add_mul,Nat.one_mul]
  omega
def nk (s:ByteArray)(all:List aj):List aj:=fT s all++kC s all all
theorem adD {s:ByteArray}{all:List aj}(h:∀f∈all,pO f):∀f∈nk s all,qM f:=fun f hf=>by
 rcases List.mem_append.1 hf with hf|hf
 ·exact(h f (List.mem_filter.1 hf).1).k
 ·obtain⟨a,ha,hr⟩:=List.mem_flatMap.1 hf
  unfold rowP at hr
  split at hr
  ·obtain⟨b,hb,rfl⟩:=List.mem_map.1 hr
   exact aqx s (h a ha) (h b (List.mem_filter.1 hb).1)
  ·simp at hr
end Go.Proofs.YtjgakaembhmhpaaGreatDoor.PA
namespace Go.Proofs.YtjgakaembhmhpaaGreatDoor.PA.Two
open Go.RowKit Go.Proofs.YtjgakaembhmhpaaGreatDoorW.PrintWords Go.Proofs.YtjgakaembhmhpaaGreatDoorW.PrintLast Go.Proofs.YtjgakaembhmhpaaGreatDoorW.PrintMore Go.Proofs.YtjgakaembhmhpaaGreatDoorM
def QA (l0:List aq)(l1:List aj):Prop:=l0.length<=10/\(∀v∈l0,nZ v.f0)/\l1.length<=260/\∀f∈l1,f.f1.length<=10/\∀t∈f.f1,nZ t.f0
def QU (w0 w w':World)(g b:Nat)(d:List Int)(e:Ending):Prop:=∃(A:Option Addr) (c:Nat) (l0:List aq) (A':Option Addr) (c':Nat) (l1:List aj),e= .returned (.agg #[.slice A l0.length c,.slice A' l1.length c'])/\(l0.length<=c/\l1.length<=c')/\QA l0 l1/\(∃ok:Nat->Prop,Kd.F cu w' ok A l0.length l0/\Kd.F bc w' ok A' l1.length l1/\¬ ok g)/\dV w0 w' g d (b+2000)/\Below w0.heap.size w0 w'/\bF w w' g none
theorem Modest.two {l0:List aq}{l1:List aj}(h:Modest l0 l1):QA l0 l1:=⟨h.1,h.2.1,by have:=h.2.2.1;omega,h.2.2.2⟩
theorem asu {w0 w:World}{g b b':Nat}{d:List Int}(h:dV w0 w g d b)(hb:b<=b'):dV w0 w g d b':=by
 obtain⟨p,h1,h2,h3⟩:=h
 exact⟨p,h1,tA0,h3⟩
theorem acr {A A':Option Addr}{c c':Nat}{l0:List aq}{l1:List aj}{w:World}(h:Modest l0 l1)(hle:l0.length<=c/\l1.length<=c')(h0:Kd.C cu w A l0.length l0)(h1:Kd.C bc w A' l1.length l1):cD A c l0 A' c' l1 w:=
 ⟨h0,hle.1,h1,hle.2,fun s hs=>bj (h.2.1 s hs) tA3,by have:=h.2.2.1;omega,fun f hf=>⟨by have:=(h.2.2.2 f hf).1;omega,fun t ht=>bj ((h.2.2.2 f hf).2 t ht) tA3⟩⟩
theorem aqn {α:Type}{p:α->Bool}{l:List α}{x:α}(h:x∈fo p l):x∈l:=(List.mem_filter.1 h).1
theorem aqm {α:Type}(p:α->Bool)(l:List α):(fo p l).length<=l.length:=List.length_filter_le _ _
theorem Uf {W W':World}{g:Nat}{ws:World}{S:Nat->Prop}(h:bF ws W g none)(hk:Kept W W' S)(hS:∀k,S k->k=g\/ws.heap.size<=k):bF ws W' g none:=CO h hk hS
theorem asF {l:List aq}{k:Nat}(h:k<l.length):l.take (k+1)=l.take k++[aw l (k:Int)]:=by
 rw[List.take_add_one,b8 h]
 show l.take k++[l[k]]=_
 rw[show aw l (k:Int)=l[k] by unfold aw;rw[eQ,List.getD_eq_getElem?_getD,b8 h];rfl]
theorem aks {okp:Nat->Prop}{A:Option Addr}{c:Nat}{l:List aj}{w:World}(h:Kd.F bc w okp A l.length l)(hb0:∀k,okp k->k<w.heap.size)(hl:l.length<=1000000):
  Calls Tryz.prog 76 #[.slice A l.length c] w fun e w'=>∃X cap,e= .returned (.slice X l.length cap)/\Kd.N bc 33 w' w.heap.size (fun k=>okp k\/w.heap.size<=k) (.slice X l.length cap) l/\Below w.heap.size w w':=by
 have bT:=ae h
 have dX:=ae hb0
 have br:af ((0+l.length) * 32<=140737488355328):=⟨tA0⟩
 have q:∀(w:World) (a:Option Addr) (n c n' c':Nat),(binOp .eql 27 (.slice a n c) (.slice none n' c')).run Tryz.prog w= .ok (.bool a.isNone) w:=fun w a n c n' c'=>Lib.run_eql_slice_nil w _ _ a n c n' c' Tryz.underlying27
 cases A with
 | none=>
  obtain rfl:l=[]:=by
   cases l with
   | nil=>rfl
   | cons x r=>obtain⟨_,_,hn⟩:=Kd.gY h;obtain⟨ad,e,_⟩:=hn tA2;cases e
  clear h bT br
  go_enter Tryz.func76,Tryz.ntmps76
  go_wp2
  go_ret
  exact⟨none,0,rfl,Kd.i1 _ _ _ _ _,Below.refl _ _⟩
 | some ad=>
  have bm:=ae (H6 bc 33 w w.heap.size (bl _) (fun k=>okp k\/w.heap.size<=k) (.inr (bl _)))
  have ak:=ae (ax (Below.refl w.heap.size w) (.cells #[] 33))
  have fX:=ae (Kd.fH h ak.o)
  have hm:=Kd.OH (Kd.gY h)
  clear h
  go_enter Tryz.func76,Tryz.ntmps76
  go_wp2_with (at_builtin;refine Kd.Ev bc w.heap.size rfl (.tmp 5) (.tmp 6) 27 33 (.agg #[.int .i64 0,.slice none 0 0]) 32 rfl Tryz.underlying27 jR rfl tA3 tA3 (.slice (some ⟨w.heap.size,0,none⟩) 0 0) [] l (some ad) l.length c (fun k=>okp k\/w.heap.size<=k) okp rfl rfl bm.o fX.o (fun k hk=>⟨.inl hk,by have:=dX.o k hk;simp[Value.ownBlock];omega⟩) (fun k hk=> .inr tCg) ak.o ak.o.size br.o ?_;intro v6 aY cd cG dI fh;obtain⟨dn,c6,rfl⟩:=Kd.c3 cd;have dr:=ae cd;have cP:=ae cG;clear cd cG dI fh)
  go_ret
  exact⟨dn,c6,rfl,dr.o,cP.o⟩
theorem ND {w0 w W:World}{g b Yu gv:Nat}{d:List Int}{A A':Option Addr}{c c':Nat}{l0:List aq}{l1:List aj}{ok:Nat->Prop}(hst:dV w0 W g d Yu)(hb:Yu<=b+2000)(hB:Below w0.heap.size w0 W)(hk:bF w W g none)(h4:w.heap.size<=gv)(hw:w0.heap.size<=w.heap.size)(hg:g<w.heap.size)(hle:l0.length<=c/\l1.length<=c')(hm:QA l0 l1)(h0:Kd.F cu W ok A l0.length l0)(h1:Kd.F bc W ok A' l1.length l1)(aod:¬ ok g)(aob:¬ ok gv):
  QU w0 w ((W.setCell ⟨gv,0,none⟩ (.slice A l0.length c)).setCell ⟨gv,1,none⟩ (.slice A' l1.length c')) g b d (.returned (.agg #[.slice A l0.length c,.slice A' l1.length c'])):=by
 have hk4:Kept W ((W.setCell ⟨gv,0,none⟩ (.slice A l0.length c)).setCell ⟨gv,1,none⟩ (.slice A' l1.length c')) (fun k=>k=gv):=fN (p:=⟨gv,1,none⟩) (fN (p:=⟨gv,0,none⟩) (S:=fun k=>k=gv) (Kept.refl W _) (.inl rfl) _) (.inl rfl) _
 have hno:∀k,ok k->¬ k=gv:=fun k ho e=>aob (e▸ho)
 exact⟨A,c,l0,A',c',l1,rfl,hle,hm,⟨ok,Kd.l4 h0 hk4 hno,Kd.l4 h1 hk4 hno,aod⟩,asu (hst.kept hk4 (by show ¬ g=gv;omega)) hb,(hB.setCell (p:=⟨gv,0,none⟩) (bj hw h4) _).setCell (p:=⟨gv,1,none⟩) (bj hw h4) _,Uf hk hk4 (fun k e=> .inr (by have e':k=gv:=e;omega))⟩
theorem aiL {w0 w:World}{g b:Nat}{d:List Int}(hA:∀(w:World) (b:Nat),dV w0 w g d b->b<=1000->Below w0.heap.size w0 w->Calls Tryz.prog 5 #[.pointer (some ⟨g,0,none⟩)] w fun e w'=>∃(A:Option Addr) (c:Nat) (l0:List aq) (A':Option Addr) (c':Nat) (l1:List aj),e= .returned (.agg #[.slice A l0.length c,.slice A' l1.length c'])/\(l0.length<=c/\l1.length<=c')/\Modest l0 l1/\AS w w0 w' g A A' c' l0 l1/\dV w0 w' g d (b+1000)/\Below w0.heap.size w0 w')(hst:dV w0 w g d b)(hb:b<=1000)(hB:Below w0.heap.size w0 w){A A':Option Addr}{c c':Nat}{l0:List aq}{l1:List aj}{mZ:Nat->Prop}(ha:Kd.F cu w mZ A l0.length l0)(ha':Kd.F bc w mZ A' l1.length l1)(hg:¬ mZ g)(hle:l0.length<=c/\l1.length<=c')(hm:Modest l0 l1):
  Calls Tryz.prog 25 #[.pointer (some ⟨g,0,none⟩),.agg #[.slice A l0.length c,.slice A' l1.length c']] w fun e w'=>QU w0 w w' g b d e:=by
 have qz:=hst.lt
 have xo:=ae qz
 have dC:=ae hm
 have pg:=ae hle
 have aI:=ae (ax (ax (Below.refl w.heap.size w) (.cells #[.slice A l0.length c,.slice A' l1.length c'] 29)) (.cells #[.slice none 0 0,.slice none 0 0] 29))
 have cJ:=ae (aH (a8 w (.cells #[.slice A l0.length c,.slice A' l1.length c'] 29)) (.cells #[.slice none 0 0,.slice none 0 0] 29))
 have rb:af (((w.alloc (.cells #[.slice A l0.length c,.slice A' l1.length c'] 29)).alloc (.cells #[.slice none 0 0,.slice none 0 0] 29)).heap[w.heap.size+1]?=some (.cells #[.slice none 0 0,.slice none 0 0] 29 (0,0))):=⟨tCq⟩
 have e5:af (((w.alloc (.cells #[.slice A l0.length c,.slice A' l1.length c'] 29)).alloc (.cells #[.slice none 0 0,.slice none 0 0] 29)).heap.size=w.heap.size+2):=⟨tA2⟩
 have o7:=ae (cm hB hB.size aI.o)
 have Wc:=ae (hA _ b (hst.below aI.o) hb o7.o)
 have lu:=ae (Kd.fH (Kd.Kn ha) aI.o)
 have ags:=ae (Kd.fH (Kd.Kn ha') aI.o)
 have Hu:=ae hg
 have Kw:af (w0.heap.size<=w.heap.size):=⟨hB.size⟩
 have xr:af (∀W,bF ((w.alloc (.cells #[.slice A l0.length c,.slice A' l1.length c'] 29)).alloc (.cells #[.slice none 0 0,.slice none 0 0] 29)) W g none->bF w W g none):=⟨fun W hk=>(bF.gF aI.o g none).trans hk (.inl rfl)⟩
 clear hA hst hB ha ha' hg hle hm
 go_enter Tryz.func25,Tryz.ntmps25
 go_wp2_with (go_at_call 5;refine Wc.o.mono ?_;rintro e w3 ⟨lq,cb,yE,vE,wb,mW,rfl,I4,FI,⟨⟨na,Zs,jT,hgb,TC⟩,kb⟩,Jf,tC⟩;have KR:=ae I4;have xv:=ae FI;have jK:=ae Zs;have ki:=ae jT;have pc:=ae hgb;have iL:=ae TC;have fY:=ae kb;have K4:=ae Jf;have bS:=ae tC;clear I4 FI Zs jT hgb TC kb Jf tC)
 generalize hw2:(w.alloc (.cells #[.slice A l0.length c,.slice A' l1.length c'] 29)).alloc (.cells #[.slice none 0 0,.slice none 0 0] 29)=w2 at *
 clear hw2 Wc
 have OX:=ae (ax (Below.refl w3.heap.size w3) (.cells #[.slice lq yE.length cb,.slice vE mW.length wb] 29))
 have oA:=ae (a8 w3 (.cells #[.slice lq yE.length cb,.slice vE mW.length wb] 29))
 have agA:af (w2.heap.size<=w3.heap.size):=⟨fY.o.1⟩
 generalize Nb:w3.heap.size=t5 at oA ⊢
 have ahz:=ae Nb
 clear Nb
 generalize hw4:w3.alloc (.cells #[.slice lq yE.length cb,.slice vE mW.length wb] 29)=w4 at *
 clear hw4
 have kV:af (Calls Tryz.prog 9 #[.pointer (some ⟨g,0,none⟩),.int .i64 8] w4 fun e aZ=>∃r,e= .returned (.bool r)/\af (dV w0 aZ g d (b+1001))/\af (Below w0.heap.size w0 aZ)/\af (bF w2 aZ g none)/\af (aZ.heap[w.heap.size]?=some (.cells #[.slice A l0.length c,.slice A' l1.length c'] 29 (0,0)))/\af (aZ.heap[w.heap.size+1]?=some (.cells #[.slice none 0 0,.slice none 0 0] 29 (0,0)))/\af (aZ.heap[t5]?=some (.cells #[.slice lq yE.length cb,.slice vE mW.length wb] 29 (0,0)))/\af (Kd.F cu aZ (fun k=>na k) lq yE.length yE)/\af (Kd.N bc 33 aZ w0.heap.size na (.slice vE mW.length wb) mW)):=⟨(LI (K4.o.below OX.o) tA0 (cm bS.o bS.o.size OX.o) 8 tA0 tA0).mono fun e aZ ⟨r,he,h1,h2,h3⟩=>by
  have Tm:bF w3 aZ g none:=(bF.gF OX.o g none).trans h3 (.inl rfl)
  have Tl:bF w2 aZ g none:=fY.o.trans Tm (.inl rfl)
  have z2:=e5.o
  have z3:=agA.o
  have alW:=xo.o
  have Zc:=ahz.o
  exact⟨r,he,⟨h1⟩,⟨h2⟩,⟨Tl⟩,⟨(Tl.2 _ tA0 tA0 tA2).trans cJ.o⟩,⟨(Tl.2 _ tA0 tA0 tA2).trans rb.o⟩,⟨(h3.2 _ (az oA.o) tA0 tA2).trans oA.o⟩,⟨Kd.AW jK.o Tm (fun k hk e=>pc.o (e▸hk))⟩,⟨Kd.r6 ki.o (Jx Tm) (fun k hk e=>pc.o (by have e':k=g:=e;exact e'▸hk))⟩⟩⟩
 have WA:af (∀W,bF w2 W g none->Kd.F cu W (fun k=>mZ k/\k<w.heap.size) A l0.length l0/\Kd.F bc W (fun k=>mZ k/\k<w.heap.size) A' l1.length l1):=⟨fun W hk=>⟨Kd.AW lu.o hk (fun k hk e=>Hu.o (e▸hk.1)),Kd.AW ags.o hk (fun k hk e=>Hu.o (e▸hk.1))⟩⟩
 have Wy:af (∀aZ,Below w0.heap.size w0 aZ->bF w2 aZ g none->aZ.heap[w.heap.size]?=some (.cells #[.slice A l0.length c,.slice A' l1.length c'] 29 (0,0))->Kd.N bc 33 aZ w0.heap.size na (.slice vE mW.length wb) mW->Calls Tryz.prog 74 #[.slice vE mW.length wb,.func (.func 75) #[] #[.pointer (some ⟨w.heap.size,0,none⟩)]] aZ fun e w'=>∃A c,e= .returned (.slice A (fo (fun f=>gG (l0.map (·.f0)) f !=0) mW).length c)/\Kd.N bc 33 w' w0.heap.size na (.slice A (fo (fun f=>gG (l0.map (·.f0)) f !=0) mW).length c) (fo (fun f=>gG (l0.map (·.f0)) f !=0) mW)/\Kept aZ w' na/\Below w0.heap.size w0 w'):=⟨fun aZ ky hk hx hn=>afa (w0:=w0) (B:=w.heap.size) (pd:=(fun f=>gG (l0.map (·.f0)) f !=0)) hn (by have:=xv.o.2.2.1;omega) ky (fun x aoI aN c1 W' hc hC hW=>by
  have z2:=e5.o
  have hf:=WA.o aZ hk
  have q1:=Kd.gY (Kd.l4 hf.1 hW (fun k hk ho=>by have:=iL.o k ho;have:=hk.2;omega))
  have q2:=Kd.gY (Kd.l4 hf.2 hW (fun k hk ho=>by have:=iL.o k ho;have:=hk.2;omega))
  have aoZ:=(hW.2 _ (az hx) (fun ho=>by have:=iL.o _ ho;omega)).trans hx
  have hmx:=xv.o.2.2.2 x aoI
  exact aql aoZ (acr dC.o pg.o q1 q2) ⟨hC,hc,tA0,fun t ht=>bj (hmx.2 t ht) tA3⟩ tCe)⟩
 go_wp2_with (first|(go_at_call 9;refine kV.o.mono ?_;rintro e aZ ⟨r,rfl,PR,bq,Hg,Qi,zw,K9,KF,gw⟩;have HD:=ae (Wy.o aZ bq.o Hg.o Qi.o gw.o);have aK:aZ.cell? ⟨t5,0,none⟩=some (.slice lq yE.length cb):=(mj K9.o 0).trans rfl;have aC:aZ.cell? ⟨t5,1,none⟩=some (.slice vE mW.length wb):=(mj K9.o 1).trans rfl;have u0:aZ.cell? ⟨w.heap.size+1,0,none⟩=some (.slice none 0 0):=(mj zw.o 0).trans rfl;have u1:aZ.cell? ⟨w.heap.size+1,1,none⟩=some (.slice none 0 0):=(mj zw.o 1).trans rfl;have q0:=ar zw.o 0;have q1:=ar zw.o 1;have JA:=az zw.o;have eD:=az K9.o;clear kV Wy;cases r)|(go_at_call 74;refine HD.o.mono ?_;rintro e aY ⟨dn,c6,rfl,cd,SC,cG⟩;have dr:=ae cd;have Bg:=ae SC;have cP:=ae cG;have yz:=(SC.2 _ (az Qi.o) (fun ho=>by have h1:=iL.o _ ho;have h2:=e5.o;omega)).trans Qi.o;have v0:aY.cell? ⟨w.heap.size,0,none⟩=some (.slice A l0.length c):=(mj yz 0).trans rfl;have v1:aY.cell? ⟨w.heap.size,1,none⟩=some (.slice A' l1.length c'):=(mj yz 1).trans rfl;have vu:=az yz;have zv:=ae yz;clear aK aC u0 u1 q0 q1 JA eD cd SC cG yz))
 ·clear v0 v1 vu HD K9 KF gw
  have Hv:af (∀f∈(fo (fun f=>gG (l0.map (·.f0)) f !=0) mW),f∈mW):=⟨fun f hf=>aqn hf⟩
  have Pz:af ((fo (fun f=>gG (l0.map (·.f0)) f !=0) mW).length<=130):=⟨bj (aqm _ _) xv.o.2.2.1⟩
  generalize (fo (fun f=>gG (l0.map (·.f0)) f !=0) mW)=outs at *
  have A2:=ae (ax (Below.refl aY.heap.size aY) (.cells #[.slice none 0 0,(.slice dn outs.length c6)] 29))
  have PZ:=ae (a8 aY (.cells #[.slice none 0 0,(.slice dn outs.length c6)] 29))
  generalize abK:aY.heap.size=t6 at PZ ⊢
  have HJ:=ae abK
  clear abK
  generalize FO:aY.alloc (.cells #[.slice none 0 0,(.slice dn outs.length c6)] 29)=bt at *
  clear FO
  have Hh:=ae (Bg.o.below A2.o)
  have HM:af (w2.heap.size<=aZ.heap.size/\aZ.heap.size<=aY.heap.size):=⟨Hg.o.1,Bg.o.1⟩
  have KW:af (mf w0 bt g t6 d (b+1001) (.slice none 0 0) (.slice dn outs.length c6) [] bt):=⟨by
   have h1:=PR.o.lt
   have h2:=Hh.o.1
   have h3:=HM.o
   have h4:=HJ.o
   have h5:=cP.o.size
   exact⟨PR.o.kept Hh.o pc.o,cm cP.o cP.o.size A2.o,Kept.refl _ _,PZ.o,Kd.i1 _ _ _ _ _,tA0,az PZ.o,tA0,tA0⟩⟩
  have WI:af (∀W,Kept bt W (fun k=>k=g\/k=t6)->(Kd.F cu W (fun k=>mZ k/\k<w.heap.size) A l0.length l0/\Kd.F bc W (fun k=>mZ k/\k<w.heap.size) A' l1.length l1)/\(W.cell? ⟨w.heap.size,0,none⟩=some (.slice A l0.length c)/\W.cell? ⟨w.heap.size,1,none⟩=some (.slice A' l1.length c'))/\W.heap[w.heap.size+1]?=some (.cells #[.slice none 0 0,.slice none 0 0] 29 (0,0))/\Kd.N bc 33 W w0.heap.size (fun k=>na k/\k<aY.heap.size) (.slice dn outs.length c6) outs):=⟨fun W hW=>by
   have z2:=e5.o
   have z5:=HM.o
   have OA:=HJ.o
   have alW:=xo.o
   have hf:=WA.o aZ Hg.o
   have hno:∀k,(fun k=>mZ k/\k<w.heap.size) k->¬ na k:=fun k hk ho=>by have h1:=iL.o k ho;have h2:=hk.2;omega
   have abp:∀k,(fun k=>mZ k/\k<w.heap.size) k->¬ (fun k=>k=g\/k=t6) k:=fun k hk hs=>by
    rcases hs with e|e
    ·exact Hu.o (e▸hk.1)
    ·have h2:=hk.2;omega
   have hx1:=(hW.2 _ (by have h3:=az (av zv.o A2.o);exact h3) (fun e=>tA0)).trans (av zv.o A2.o)
   have abR:=(Bg.o.2 _ (az zw.o) (fun ho=>by have h1:=iL.o _ ho;omega)).trans zw.o
   have FQ:=(hW.2 _ (by have h3:=az (av abR A2.o);exact h3) (fun e=>tA0)).trans (av abR A2.o)
   exact⟨⟨Kd.l4 (Kd.l4 hf.1 Hh.o hno) hW abp,Kd.l4 (Kd.l4 hf.2 Hh.o hno) hW abp⟩,⟨ah hx1 0,ah hx1 1⟩,FQ,Kd.r6 (Kd.dz (Kd.tj dr.o) A2.o) hW (fun k hk hs=>by
    rcases hs with e|e
    ·exact pc.o (e▸hk.1)
    ·have h2:=hk.2;omega)⟩⟩
  have KP:af (∀W,Kept bt W (fun k=>k=g\/k=t6)->bF w W g none):=⟨fun W hW=>by
   have z2:=e5.o
   have z5:=HM.o
   have OA:=HJ.o
   exact Uf (Uf (xr.o aZ Hg.o) Hh.o (fun k ho=> .inr (by have h1:=iL.o k ho;omega))) hW (fun k hs=>hs.elim .inl (fun e=> .inr tA0))⟩
  have Tp:=dC.o.1
  go_loopg [8,22] l0.length (fun bL _ JV wr=>∃(kk:Nat) (v:Value) (ss:List aq),kk<=l0.length/\l0.length-kk<=bL/\JV= .int .i64 kk/\af (ss.length=kk)/\af (ss.map (·.f0)=(l0.take kk).map (·.f0))/\af (mf w0 bt g t6 d (b+1001+2 * kk) v (.slice dn outs.length c6) ss wr))
  case atStart=>exact⟨0,.slice none 0 0,[],Nat.zero_le _,tA0,rfl,⟨rfl⟩,⟨rfl⟩,KW⟩
  case round=>
   clear KW
   obtain⟨kk,v,ss,eO,wy,rfl,jf,vP,HO⟩:=hrel
   generalize mM:wr=aA at *
   clear mM
   obtain⟨b5,b6,rfl⟩:=Kd.c3 HO.o.ns
   by_cases hlt:kk<l0.length
   ·have cp:(kk:Int)< (l0.length:Int):=by omega
    obtain⟨ad,u6,x0,x1,x2⟩:=fe (Kd.gY (WI.o aA HO.o.rA).1.1) (kk:Int) tA0 tA0
    cases u6
    simp only[eQ]at x0 x1 x2
    have iM:af ((l0.take (kk+1)).map (·.f0)=(l0.take kk).map (·.f0)++[(aw l0 (kk:Int)).f0]):=⟨by rw[asF hlt,List.map_append];rfl⟩
    generalize aw l0 (kk:Int)=a at *
    go_wp2_with (fail)
    have ie:=ae (ax (Below.refl aA.heap.size aA) (.cells #[.string a.f0,.int .i64 a.f1,.int .i64 a.f2] 77))
    have dh:=ae (a8 aA (.cells #[.string a.f0,.int .i64 a.f1,.int .i64 a.f2] 77))
    have ahh:=ae (HO.o.below ie.o)
    have Px:af (some aA.heap.size≠(Value.slice b5 ss.length b6).ownBlock):=⟨fun e=>Nat.lt_irrefl _ (HO.o.own _ e).2⟩
    have bA:af (bt.heap.size<=aA.heap.size):=⟨HO.o.rA.1⟩
    have Pj:af (aA.heap.size≠g):=⟨fun e=>by have h1:=HO.o.gt.1;have h2:=HO.o.rA.1;omega⟩
    generalize qw:aA.heap.size=bx at dh Px bA Pj ⊢
    clear qw
    generalize qB:aA.alloc (.cells #[.string a.f0,.int .i64 a.f1,.int .i64 a.f2] 77)=cz at *
    clear qB x0 x1 x2
    refine wp_region_noPanic ?_
    refine Du (fun W=>W.cell? ⟨bx,1,none⟩=some (.int .i64 a.f1)) 7 tA1 ?_
    have K6:cz.drew.cell? ⟨bx,1,none⟩=some (.int .i64 a.f1):=ah (show cz.drew.heap[bx]?=_ from dh.o) 1
    refine cZ 0 _ (v:=?ayS) (aW rfl) tA1 (fun _ _ _ h=>h) tA5 K6 ?hy0p ?ayu
    case hy0p=>(intro W hSw;go_simp<;>with_reducible rfl)
    simp only[bV]
    refine cZ 1 _ (v:=?ayW) (aW rfl) tA1 (fun _ _ _ h=>h) tA5 K6 ?hy1p ?ayB
    case hy1p=>(intro W hSw;go_simp<;>with_reducible rfl)
    simp only[bV]
    refine cZ 2 _ (v:=?ay0) (aW rfl) tA1 (fun _ _ _ h=>h) tA5 K6 ?hy2p ?ayG
    case hy2p=>(intro W hSw;go_simp<;>with_reducible rfl)
    simp only[bV]
    refine gU 3 _ tA1 (aW rfl) (fun K hK=>?_)
    go_simp
    have W6:=ae (ahh.o.below (cB (ax (Below.refl cz.heap.size cz) (.cells #[.int .i64 0,.int .i64 0,.int .i64 1,.int .i64 (-1)] 3))))
    have Ll:af (((cz.alloc (.cells #[.int .i64 0,.int .i64 0,.int .i64 1,.int .i64 (-1)] 3)).drew).heap[bx]?=some (.cells #[.string a.f0,.int .i64 a.f1,.int .i64 a.f2] 77 (0,0))):=⟨aH dh.o _⟩
    have Xl:af (gL ((cz.alloc (.cells #[.int .i64 0,.int .i64 0,.int .i64 1,.int .i64 (-1)] 3)).drew) cz.heap.size [0,0,1,-1]):=⟨a8 cz _⟩
    refine hK.out _ _ (fun _=>ah Ll.o 1) ?_
    clear hK K
    try simp only[bV]
    refine gU 4 _ tA1 (aW rfl) (fun K hK=>?_)
    go_simp
    refine(W6.o.pick tA0 _ Xl.o).mono ?_
    rintro e Vq ⟨JT,rfl,W8,WL⟩
    have Em:=ae ((WL.o.2 _ (az Ll.o) Pj.o tA2).trans Ll.o)
    refine hK.out _ _ (fun _=>ah Em.o 1) ?_
    clear hK K
    try simp only[bV]
    have PT:Vq.cell? ⟨bx,1,none⟩=some (.int .i64 a.f1):=ah Em.o 1
    refine cZ 5 _ (v:=?ay4) (aW rfl) tA1 (fun _ _ _ h=>h) tA5 PT ?hy5p ?ayJ
    case hy5p=>(intro W hSw;go_simp<;>with_reducible rfl)
    simp only[bV]
    refine cZ 6 _ (v:=?ay6) (aW rfl) tA1 (fun _ _ _ h=>h) tA5 PT ?hy6p ?ayL
    case hy6p=>(intro W hSw;go_simp<;>with_reducible rfl)
    simp only[bV]
    refine gU 7 _ tA1 (aW rfl) (fun K hK=>?_)
    have alS:=ar Em.o 1
    have apB:=az Em.o
    go_simp
    refine hK.out _ _ (fun h=>absurd h tA3) ?_
    clear hK K
    refine DC tA1 ?_ _
    refine NoPanic.normal ?_
    clear K6 PT alS apB W6 Ll Xl
    have ahi:=ae (W8.o.far (p:=⟨bx,1,none⟩) bA.o Px.o (.int .i64 (IntKind.i64.wrap (a.f1+JT))))
    have XK:=ae (a6 Em.o 1 (.int .i64 (IntKind.i64.wrap (a.f1+JT))) rfl:(Vq.setCell ⟨bx,1,none⟩ (.int .i64 (IntKind.i64.wrap (a.f1+JT)))).heap[bx]?=some (.cells #[.string a.f0,.int .i64 (IntKind.i64.wrap (a.f1+JT)),.int .i64 a.f2] 77 (0,0)))
    generalize IntKind.i64.wrap (a.f1+JT)=lo at *
    generalize tL:Vq.setCell ⟨bx,1,none⟩ (.int .i64 lo)=cr at *
    clear tL W8 Em WL
    go_wp2_with (fail)
    refine wp_region_noPanic ?_
    refine Du (fun W=>W.cell? ⟨bx,2,none⟩=some (.int .i64 a.f2)) 7 tA1 ?_
    have K7:cr.drew.cell? ⟨bx,2,none⟩=some (.int .i64 a.f2):=ah (show cr.drew.heap[bx]?=_ from XK.o) 2
    refine cZ 0 _ (v:=?ayT) (aW rfl) tA1 (fun _ _ _ h=>h) tA5 K7 ?hy0q ?ayv
    case hy0q=>(intro W hSw;go_simp<;>with_reducible rfl)
    simp only[bV]
    refine cZ 1 _ (v:=?ayX) (aW rfl) tA1 (fun _ _ _ h=>h) tA5 K7 ?hy1q ?ayC
    case hy1q=>(intro W hSw;go_simp<;>with_reducible rfl)
    simp only[bV]
    refine cZ 2 _ (v:=?ay1) (aW rfl) tA1 (fun _ _ _ h=>h) tA5 K7 ?hy2q ?ayH
    case hy2q=>(intro W hSw;go_simp<;>with_reducible rfl)
    simp only[bV]
    refine gU 3 _ tA1 (aW rfl) (fun K hK=>?_)
    go_simp
    have W7:=ae (ahi.o.below (cB (ax (Below.refl cr.heap.size cr) (.cells #[.int .i64 0,.int .i64 0,.int .i64 1,.int .i64 (-1)] 3))))
    have Lm:af (((cr.alloc (.cells #[.int .i64 0,.int .i64 0,.int .i64 1,.int .i64 (-1)] 3)).drew).heap[bx]?=some (.cells #[.string a.f0,.int .i64 lo,.int .i64 a.f2] 77 (0,0))):=⟨aH XK.o _⟩
    have Xm:af (gL ((cr.alloc (.cells #[.int .i64 0,.int .i64 0,.int .i64 1,.int .i64 (-1)] 3)).drew) cr.heap.size [0,0,1,-1]):=⟨a8 cr _⟩
    refine hK.out _ _ (fun _=>ah Lm.o 2) ?_
    clear hK K
    try simp only[bV]
    refine gU 4 _ tA1 (aW rfl) (fun K hK=>?_)
    go_simp
    refine(W7.o.pick tA0 _ Xm.o).mono ?_
    rintro e Vr ⟨JU,rfl,W9,WM⟩
    have xJ:=ae ((WM.o.2 _ (az Lm.o) Pj.o tA2).trans Lm.o)
    refine hK.out _ _ (fun _=>ah xJ.o 2) ?_
    clear hK K
    try simp only[bV]
    have PU:Vr.cell? ⟨bx,2,none⟩=some (.int .i64 a.f2):=ah xJ.o 2
    refine cZ 5 _ (v:=?ay5) (aW rfl) tA1 (fun _ _ _ h=>h) tA5 PU ?hy5q ?ayK
    case hy5q=>(intro W hSw;go_simp<;>with_reducible rfl)
    simp only[bV]
    refine cZ 6 _ (v:=?ay7) (aW rfl) tA1 (fun _ _ _ h=>h) tA5 PU ?hy6q ?ayM
    case hy6q=>(intro W hSw;go_simp<;>with_reducible rfl)
    simp only[bV]
    refine gU 7 _ tA1 (aW rfl) (fun K hK=>?_)
    have alT:=ar xJ.o 2
    have apC:=az xJ.o
    go_simp
    refine hK.out _ _ (fun h=>absurd h tA3) ?_
    clear hK K
    refine DC tA1 ?_ _
    refine NoPanic.normal ?_
    clear K7 PU alT apC W7 Lm Xm
    have D8:=ae (W9.o.far (p:=⟨bx,2,none⟩) bA.o Px.o (.int .i64 (IntKind.i64.wrap (a.f2+JU))))
    have Qu:=ae (a6 xJ.o 2 (.int .i64 (IntKind.i64.wrap (a.f2+JU))) rfl:(Vr.setCell ⟨bx,2,none⟩ (.int .i64 (IntKind.i64.wrap (a.f2+JU)))).heap[bx]?=some (.cells #[.string a.f0,.int .i64 lo,.int .i64 (IntKind.i64.wrap (a.f2+JU))] 77 (0,0)))
    generalize IntKind.i64.wrap (a.f2+JU)=hi at *
    generalize tL:Vr.setCell ⟨bx,2,none⟩ (.int .i64 hi)=wc at *
    clear tL W9 xJ WM
    have e0:wc.cell? ⟨bx,0,none⟩=some (.string a.f0):=ah Qu.o 0
    have e1:wc.cell? ⟨bx,1,none⟩=some (.int .i64 lo):=ah Qu.o 1
    have e2:wc.cell? ⟨bx,2,none⟩=some (.int .i64 hi):=ah Qu.o 2
    have e3:wc.cell? ⟨t6,0,none⟩=some (.slice b5 ss.length b6):=ah D8.o.tb 0
    have iz:=ae D8.o.rA.1
    go_wp2_with (at_builtin;refine Kd.oF cu bt.heap.size rfl (.tmp 41) (.tmp 43) 26 77 (.agg #[.string ⟨#[]⟩,.int .i64 0,.int .i64 0]) 32 rfl Tryz.underlying26 FU rfl tA3 tA3 (.slice b5 ss.length b6) ss ⟨a.f0,lo,hi⟩ [.string a.f0,.int .i64 lo,.int .i64 hi] (fun k=>some k=(Value.slice b5 ss.length b6).ownBlock\/bt.heap.size<=k) (fun _=>False) rfl rfl (Sk _ _ _ _) (fun _ h=>h.elim) (fun k hk=> .inr (bj iz.o hk)) (Kd.et D8.o.ns (fun k h=> .inl h)) (Below.refl bt.heap.size _) iz.o (by have:=jf.o;omega) ?_;intro v8 fq fO gD eY iq;obtain⟨jJ,c8,rfl⟩:=Kd.c3 fO;have je:=ae (tk B3 fO);rw[j2]at je ⊢;have eh:=ae gD;have F4:=(gD.block _ D8.o.gt.2.1).trans D8.o.tb;have at4:fq.cell? ⟨t6,0,none⟩=some (.slice b5 ss.length b6):=(mj F4 0).trans rfl;have f8:=ar F4 0;have yD:=az F4;clear fO gD eY iq F4 e0 e1 e2 e3)
    have ahe:=ae (D8.o.more (x:=⟨a.f0,lo,hi⟩) eh.o je.o)
    go_roundg (l0.length- (kk+1))
    case measure=>omega
    case rel=>exact⟨kk+1,.slice jJ (ss.length+1) c8,ss++[⟨a.f0,lo,hi⟩],tA0,tA0,tA7,⟨by rw[j2,jf.o]⟩,⟨by rw[iM.o,List.map_append,vP.o];rfl⟩,⟨by
     rw[show b+1001+2 * (kk+1)=b+1001+2 * kk+1+1 by omega]
     exact ahe.o⟩⟩
   ·have cp:¬ (kk:Int)< (l0.length:Int):=by omega
    have di:kk=l0.length:=tA0
    have Ha:af (Calls Tryz.prog 9 #[.pointer (some ⟨g,0,none⟩),.int .i64 3] aA fun e dG=>∃r,e= .returned (.bool r)/\af (mf w0 bt g t6 d (b+1001+2 * kk+1) (.slice b5 ss.length b6) (.slice dn outs.length c6) ss dG)):=⟨(LI HO.o.st tA0 HO.o.c4 3 tA0 tA0).mono fun e dG ⟨r,he,h1,h2,h3⟩=>⟨r,he,⟨HO.o.keep h3 h1 h2⟩⟩⟩
    have PO:af (∀v∈ss,nZ v.f0):=⟨fun v hv=>by
     have h1:=vP.o
     rw[di,fJ]at h1
     have h2:v.f0∈l0.map (·.f0):=by rw[<- h1];exact List.mem_map_of_mem hv
     obtain⟨u,hu,e⟩:=List.mem_map.1 h2
     rw[<- e];exact dC.o.2.1 u hu⟩
    go_wp2_with (go_at_call 9;refine Ha.o.mono ?_;rintro e dG ⟨r,rfl,iX⟩;have o8:=ae (WI.o dG iX.o.rA);have p0:dG.cell? ⟨t6,0,none⟩=some (.slice b5 ss.length b6):=(mj iX.o.tb 0).trans rfl;have p1:dG.cell? ⟨t6,1,none⟩=some (.slice dn outs.length c6):=(mj iX.o.tb 1).trans rfl;have oa:=ar iX.o.tb 0;have lN:=ar iX.o.tb 1;have NJ:=az iX.o.tb;have q2:=ar o8.o.2.2.1 0;have q3:=ar o8.o.2.2.1 1;have q4:=az o8.o.2.2.1;have q0:dG.cell? ⟨w.heap.size+1,0,none⟩=some (.slice none 0 0):=(mj o8.o.2.2.1 0).trans rfl;have q1:dG.cell? ⟨w.heap.size+1,1,none⟩=some (.slice none 0 0):=(mj o8.o.2.2.1 1).trans rfl;clear Ha;cases r)
    ·have sP:=a6 (a6 o8.o.2.2.1 0 (.slice b5 ss.length b6) rfl) 1 (.slice dn outs.length c6) rfl
     refine bodyPost_ret (results_cell_row rfl _ _ (w.heap.size+1) 29 #[.slice b5 ss.length b6,.slice dn outs.length c6] (0,0) _ rfl sP Tryz.underlying29 rfl tA1) rfl ?_
     have MZ:=iX.o.ns
     have wz:=iX.o.gt
     have how:=iX.o.own
     have z2:=e5.o
     have z5:=HM.o
     have OA:=HJ.o
     exact ND iX.o.st tA0 iX.o.c4 (KP.o _ iX.o.rA) (Nat.le_succ _) Kw.o xo.o ⟨(Kd.ej MZ).2.1,(Kd.ej o8.o.2.2.2).2.1⟩ ⟨by have h1:=jf.o;omega,PO.o,by have h1:=Pz.o;omega,fun f hf=>xv.o.2.2.2 f (Hv.o f hf)⟩ (ok:=fun k=>some k=(Value.slice b5 ss.length b6).ownBlock\/(na k/\k<aY.heap.size)) (Kd.ur (Kd.mb MZ) (fun _ h=> .inl h)) (Kd.ur (Kd.mb o8.o.2.2.2) (fun _ h=> .inr h)) (fun ho=>ho.elim (fun h=>by have h1:=(how _ h).1;omega) (fun h=>pc.o h.1)) (fun ho=>ho.elim (fun h=>by have h1:=(how _ h).1;omega) (fun h=>by have h1:=iL.o _ h.1;omega))
    ·have zz:af (w.heap.size+2<=aZ.heap.size/\aZ.heap.size<=aY.heap.size/\aY.heap.size=t6/\t6<bt.heap.size/\g<w.heap.size/\bt.heap.size<=dG.heap.size):=⟨by
      have h1:=e5.o
      have h2:=HM.o
      have h3:=HJ.o
      have h4:=iX.o.gt
      have h5:=xo.o
      have h6:=iX.o.rA.1
      omega⟩
     have jU:af (l1.length<=130):=⟨dC.o.2.2.1⟩
     have er:af (∀W:World,Below dG.heap.size dG W->(W.cell? ⟨w.heap.size,0,none⟩=some (.slice A l0.length c)/\W.cell? ⟨w.heap.size,1,none⟩=some (.slice A' l1.length c'))):=⟨fun W hb=>⟨bw hb o8.o.2.1.1,bw hb o8.o.2.1.2⟩⟩
     have KO:af (∀(W:World) (u:Value),(W.cell? ⟨w.heap.size,0,none⟩=some (.slice A l0.length c)/\W.cell? ⟨w.heap.size,1,none⟩=some (.slice A' l1.length c'))->((W.setCell ⟨t6,1,none⟩ u).cell? ⟨w.heap.size,0,none⟩=some (.slice A l0.length c)/\(W.setCell ⟨t6,1,none⟩ u).cell? ⟨w.heap.size,1,none⟩=some (.slice A' l1.length c'))):=⟨fun W u ⟨h1,h2⟩=>by
      have hk:Kept W (W.setCell ⟨t6,1,none⟩ u) (fun k=>k=t6):=fN (p:=⟨t6,1,none⟩) (Kept.refl W (fun k=>k=t6)) (.inl rfl) u
      have iF:=zz.o
      exact⟨wj h1 hk tD0,wj h2 hk tD0⟩⟩
     have eJ:af (∀W:World,Below dG.heap.size dG W->Calls Tryz.prog 76 #[.slice A' l1.length c'] W fun e w'=>∃Y cap,e= .returned (.slice Y l1.length cap)/\Kd.N bc 33 w' dG.heap.size (fun k=>(mZ k/\k<w.heap.size)\/(na k/\k<aY.heap.size)\/dG.heap.size<=k) (.slice Y l1.length cap) l1/\Below dG.heap.size dG w'):=⟨fun W hb=>(aks (c:=c') (Kd.fH o8.o.1.2 hb) (fun k hk=>by have h1:=hk.2;have h2:=hb.size;have iF:=zz.o;omega) (by have:=jU.o;omega)).mono fun e w' ⟨Y,cap,he,hN,hb'⟩=>⟨Y,cap,he,eK (Kd.et hN (fun k hk=>hk.elim .inl (fun h=> .inr (.inr (bj hb.size h))))) hb.size,au hb hb'⟩⟩
     have WZ:af (∀W:World,Below dG.heap.size dG W->Kd.F bc W (fun k=>na k/\k<aY.heap.size) dn outs.length outs):=⟨fun W hb=>Kd.fH (Kd.mb o8.o.2.2.2) hb⟩
     have Bq:af (∀W:World,Below dG.heap.size dG W->W.heap[t6]?=some (.cells #[.slice b5 ss.length b6,(.slice dn outs.length c6)] 29 (0,0))):=⟨fun W hb=>av iX.o.tb hb⟩
     have pV:af ((l1.length+outs.length) * 32<=140737488355328):=⟨by have:=jU.o;have:=Pz.o;omega⟩
     obtain⟨all,oM⟩:∃all,l1++outs=all:=⟨_,rfl⟩
     have l6:=ae oM
     have pR:af (all.length<=260/\∀f∈all,f.f1.length<=10/\∀t∈f.f1,nZ t.f0):=⟨by
      rw[<- oM]
      refine⟨by rw[fZ];have:=jU.o;have:=Pz.o;omega,fun f hf=>?_⟩
      exact(List.mem_append.1 hf).elim (dC.o.2.2.2 f) (fun h=>xv.o.2.2.2 f (Hv.o f h))⟩
     clear oM p0 p1 oa lN NJ q0 q1 q2 q3 q4
     refine wp_region_noPanic ?_
     refine Du (fun W=>(W.cell? ⟨w.heap.size,0,none⟩=some (.slice A l0.length c)/\W.cell? ⟨w.heap.size,1,none⟩=some (.slice A' l1.length c'))) 10 tA1 ?_
     have dy:=er.o _ (cB (Below.refl dG.heap.size dG))
     refine cZ 0 _ (v:=?ayU) (aW rfl) tA1 (fun _ _ _ h=>h) tA5 dy ?hy0z ?ayw
     case hy0z=>(intro W hSw;go_simp<;>with_reducible rfl)
     simp only[bV]
     refine cZ 1 _ (v:=?ayY) (aW rfl) tA1 (fun _ _ _ h=>h) tA5 dy ?hy1z ?ayD
     case hy1z=>(intro W hSw;go_simp<;>with_reducible rfl)
     simp only[bV]
     refine cZ 3 _ (v:=?ay3) (aW rfl) tA1 (fun _ _ _ h=>h) tA5 dy ?hy3z ?ayI
     case hy3z=>(intro W hSw;go_simp<;>with_reducible rfl)
     simp only[bV]
     refine cZ 6 _ (v:=?ay8) (aW rfl) tA1 (fun _ _ _ h=>h) tA5 dy ?hy6z ?ayN
     case hy6z=>(intro W hSw;go_simp<;>with_reducible rfl)
     simp only[bV]
     refine cZ 7 _ (v:=?ay9) (aW rfl) tA1 (fun _ _ _ h=>h) tA5 dy ?hy7z ?ayO
     case hy7z=>(intro W hSw;go_simp<;>with_reducible rfl)
     simp only[bV]
     refine ad8 2 4 _ _ tA1 (aW rfl) (aW rfl) (fun K hK=>?onez) (fun K hK=>?twoz)
     case onez=>
      go_simp
      refine(eJ.o _ (cB (Below.refl dG.heap.size dG))).mono ?_
      rintro e DD ⟨Y,c0,rfl,hN,hb⟩
      have gw:=ae hN
      have bq:=ae hb
      clear hN hb
      refine hK.out _ _ (fun _=>er.o _ bq.o) ?_
      clear hK K
      try simp only[bV]
      refine gU 4 _ tA1 (aW rfl) (fun K hK=>?_)
      have g1:DD.cell? ⟨t6,1,none⟩=some (.slice dn outs.length c6):=ah (Bq.o _ bq.o) 1
      go_simp
      refine hK.out _ _ (fun _=>er.o _ bq.o) ?_
      clear hK K
      try simp only[bV]
      refine gU 5 _ tA1 (aW rfl) (fun K hK=>?_)
      refine Kd.Ew (w0:=dG) bc dG.heap.size tA5 (.tmp 51) (.tmp 53) 27 33 (.agg #[.int .i64 0,.slice none 0 0]) 32 tA5 Tryz.underlying27 jR rfl tA3 tA3 (.slice Y l1.length c0) l1 outs dn outs.length c6 (fun k=>(mZ k/\k<w.heap.size)\/(na k/\k<aY.heap.size)\/dG.heap.size<=k) (fun k=>na k/\k<aY.heap.size) tA5 tA5 gw.o (WZ.o _ bq.o) (fun k hk=>⟨.inr (.inl hk),fun e=>tDb⟩) (fun k hk=> .inr (.inr (bj bq.o.size hk))) bq.o bq.o.size pV.o ?_
      intro v11 gh cd cG dI fh
      rw[l6.o]at cd
      obtain⟨ic,c11,rfl⟩:=Kd.c3 cd
      have Hr:=ae cd
      have pS:=ae cG
      clear cd cG dI fh
      refine hK.out _ _ (fun _=>er.o _ pS.o) ?_
      clear hK K
      try simp only[bV]
      have p3:=Bq.o _ pS.o
      have xF:=er.o _ pS.o
      have x0:gh.cell? ⟨t6,0,none⟩=some (.slice b5 ss.length b6):=ah p3 0
      have x1:gh.cell? ⟨t6,1,none⟩=some (.slice dn outs.length c6):=ah p3 1
      have x2:=ar p3 0
      have x3:=ar p3 1
      have uf:=az p3
      refine cZ 8 _ (v:=?aza) (aW rfl) tA1 (fun _ _ _ h=>h) tA5 xF ?hy8a ?ayP
      case hy8a=>(intro W hSw;go_simp<;>with_reducible rfl)
      simp only[bV]
      refine gU 9 _ tA1 (aW rfl) (fun K hK=>?_)
      go_simp
      refine hK.out _ _ (fun _=>KO.o _ _ xF) ?_
      clear hK K
      try simp only[bV]
      refine gU 10 _ tA1 (aW rfl) (fun K hK=>?_)
      go_simp
      refine hK.out _ _ (fun h=>absurd h tA3) ?_
      clear hK K
      try simp only[bV]
      refine gU 11 _ tA1 (aW rfl) (fun K hK=>?_)
      go_simp
      refine hK.out _ _ (fun h=>absurd h tA3) ?_
      clear hK K
      refine DC tA1 ?_ _
      refine NoPanic.normal ?_
      have PV:=KO.o gh (.slice ic all.length c11) xF
      have rZ:af (((gh.setCell ⟨t6,1,none⟩ (.slice ic all.length c11)).setCell ⟨t6,0,none⟩ (.slice A l0.length c)).heap[w.heap.size+1]?=some (.cells #[.slice none 0 0,.slice none 0 0] 29 (0,0))):=⟨by
       have iF:=zz.o
       exact(jZ _ _ _ _ tBs).trans ((jZ _ _ _ _ tBs).trans (av o8.o.2.2.1 pS.o))⟩
      have Hi:af (Kept dG ((gh.setCell ⟨t6,1,none⟩ (.slice ic all.length c11)).setCell ⟨t6,0,none⟩ (.slice A l0.length c)) (fun k=>k=t6)):=⟨fN (p:=⟨t6,0,none⟩) (fN (p:=⟨t6,1,none⟩) (Kept.gF pS.o (fun k=>k=t6)) (.inl rfl) _) (.inl rfl) _⟩
      have ux:af (Below w0.heap.size w0 ((gh.setCell ⟨t6,1,none⟩ (.slice ic all.length c11)).setCell ⟨t6,0,none⟩ (.slice A l0.length c))):=⟨((iX.o.c4.trans (dM pS.o iX.o.c4.size)).setCell (p:=⟨t6,1,none⟩) iX.o.gt.2.2.2 _).setCell (p:=⟨t6,0,none⟩) iX.o.gt.2.2.2 _⟩
      have Hj:af (Kept gh ((gh.setCell ⟨t6,1,none⟩ (.slice ic all.length c11)).setCell ⟨t6,0,none⟩ (.slice A l0.length c)) (fun k=>k=t6)):=⟨fN (p:=⟨t6,0,none⟩) (fN (p:=⟨t6,1,none⟩) (S:=fun k=>k=t6) (Kept.refl gh _) (.inl rfl) _) (.inl rfl) _⟩
      have e4:((gh.setCell ⟨t6,1,none⟩ (.slice ic all.length c11)).setCell ⟨t6,0,none⟩ (.slice A l0.length c)).cell? ⟨w.heap.size+1,0,none⟩=some (.slice none 0 0):=ah rZ.o 0
      have Zc:((gh.setCell ⟨t6,1,none⟩ (.slice ic all.length c11)).setCell ⟨t6,0,none⟩ (.slice A l0.length c)).cell? ⟨w.heap.size+1,1,none⟩=some (.slice none 0 0):=ah rZ.o 1
      have akX:=ar rZ.o 0
      have akY:=ar rZ.o 1
      have akZ:=az rZ.o
      have Bt:((gh.setCell ⟨t6,1,none⟩ (.slice ic all.length c11)).setCell ⟨t6,0,none⟩ (.slice A l0.length c)).heap[t6]?=some (.cells #[.slice A l0.length c,.slice ic all.length c11] 29 (0,0)):=a6 (a6 p3 1 _ rfl) 0 _ rfl
      generalize Jj:(gh.setCell ⟨t6,1,none⟩ (.slice ic all.length c11)).setCell ⟨t6,0,none⟩ (.slice A l0.length c)=wf at *
      clear Jj x0 x1 x2 x3 uf p3 xF PV dy
      have d0:wf.cell? ⟨t6,0,none⟩=some (.slice A l0.length c):=ah Bt 0
      have d1:wf.cell? ⟨t6,1,none⟩=some (.slice ic all.length c11):=ah Bt 1
      clear Bt
      go_wp2
      have sP:=a6 (a6 rZ.o 0 (.slice A l0.length c) rfl) 1 (.slice ic all.length c11) rfl
      refine bodyPost_ret (results_cell_row rfl _ _ (w.heap.size+1) 29 #[.slice A l0.length c,.slice ic all.length c11] (0,0) _ rfl sP Tryz.underlying29 rfl tA1) rfl ?_
      have wz:=iX.o.gt
      have iF:=zz.o
      have hno:∀k,(mZ k/\k<w.heap.size)->¬ k=t6:=fun k hk=>by have h1:=hk.2;omega
      have TB:∀k,(fun k=>(mZ k/\k<w.heap.size)\/(na k/\k<aY.heap.size)\/dG.heap.size<=k) k->¬ k=t6:=fun k hk=>by
       rcases hk with h|h|h
       ·exact hno k h
       ·have h1:=h.2;omega
       ·omega
      exact ND ((iX.o.st.kept Hi.o (by show ¬ g=t6;omega))) tA0 ux.o (KP.o _ (iX.o.rA.yP Hi.o (fun k e=> .inl (.inr e)))) (Nat.le_succ _) Kw.o xo.o ⟨pg.o.1,(Kd.ej Hr.o).2.1⟩ ⟨dC.o.1,dC.o.2.1,pR.o⟩ (ok:=(fun k=>(mZ k/\k<w.heap.size)\/(na k/\k<aY.heap.size)\/dG.heap.size<=k)) (Kd.ur (Kd.l4 (Kd.fH o8.o.1.1 pS.o) Hj.o hno) (fun _ h=> .inl h)) (Kd.l4 (Kd.mb Hr.o) Hj.o (fun k hk=>TB k hk)) (fun ho=>by
       rcases ho with h|h|h
       ·exact Hu.o h.1
       ·exact pc.o h.1
       ·omega) (fun ho=>by
       rcases ho with h|h|h
       ·have h1:=h.2;omega
       ·have h1:=iL.o _ h.1;have h2:=e5.o;omega
       ·omega)
     case twoz=>
      have g1:dG.cell? ⟨t6,1,none⟩=some (.slice dn outs.length c6):=ah iX.o.tb 1
      go_simp
      refine hK.out _ _ (fun _=>er.o _ (cB (Below.refl dG.heap.size dG))) ?_
      clear hK K
      try simp only[bV]
      refine gU 2 _ tA1 (aW rfl) (fun K hK=>?_)
      go_simp
      refine(eJ.o _ (cB (Below.refl dG.heap.size dG))).mono ?_
      rintro e DD ⟨Y,c0,rfl,hN,hb⟩
      have gw:=ae hN
      have bq:=ae hb
      clear hN hb
      refine hK.out _ _ (fun _=>er.o _ bq.o) ?_
      clear hK K
      try simp only[bV]
      refine gU 5 _ tA1 (aW rfl) (fun K hK=>?_)
      refine Kd.Ew (w0:=dG) bc dG.heap.size tA5 (.tmp 51) (.tmp 53) 27 33 (.agg #[.int .i64 0,.slice none 0 0]) 32 tA5 Tryz.underlying27 jR rfl tA3 tA3 (.slice Y l1.length c0) l1 outs dn outs.length c6 (fun k=>(mZ k/\k<w.heap.size)\/(na k/\k<aY.heap.size)\/dG.heap.size<=k) (fun k=>na k/\k<aY.heap.size) tA5 tA5 gw.o (WZ.o _ bq.o) (fun k hk=>⟨.inr (.inl hk),fun e=>tDb⟩) (fun k hk=> .inr (.inr (bj bq.o.size hk))) bq.o bq.o.size pV.o ?_
      intro v11 gh cd cG dI fh
      rw[l6.o]at cd
      obtain⟨ic,c11,rfl⟩:=Kd.c3 cd
      have Hr:=ae cd
      have pS:=ae cG
      clear cd cG dI fh
      refine hK.out _ _ (fun _=>er.o _ pS.o) ?_
      clear hK K
      try simp only[bV]
      have p3:=Bq.o _ pS.o
      have xF:=er.o _ pS.o
      have x0:gh.cell? ⟨t6,0,none⟩=some (.slice b5 ss.length b6):=ah p3 0
      have x1:gh.cell? ⟨t6,1,none⟩=some (.slice dn outs.length c6):=ah p3 1
      have x2:=ar p3 0
      have x3:=ar p3 1
      have uf:=az p3
      refine cZ 8 _ (v:=?azb) (aW rfl) tA1 (fun _ _ _ h=>h) tA5 xF ?hy8b ?ayQ
      case hy8b=>(intro W hSw;go_simp<;>with_reducible rfl)
      simp only[bV]
      refine gU 9 _ tA1 (aW rfl) (fun K hK=>?_)
      go_simp
      refine hK.out _ _ (fun _=>KO.o _ _ xF) ?_
      clear hK K
      try simp only[bV]
      refine gU 10 _ tA1 (aW rfl) (fun K hK=>?_)
      go_simp
      refine hK.out _ _ (fun h=>absurd h tA3) ?_
      clear hK K
      try simp only[bV]
      refine gU 11 _ tA1 (aW rfl) (fun K hK=>?_)
      go_simp
      refine hK.out _ _ (fun h=>absurd h tA3) ?_
      clear hK K
      refine DC tA1 ?_ _
      refine NoPanic.normal ?_
      have PV:=KO.o gh (.slice ic all.length c11) xF
      have rZ:af (((gh.setCell ⟨t6,1,none⟩ (.slice ic all.length c11)).setCell ⟨t6,0,none⟩ (.slice A l0.length c)).heap[w.heap.size+1]?=some (.cells #[.slice none 0 0,.slice none 0 0] 29 (0,0))):=⟨by
       have iF:=zz.o
       exact(jZ _ _ _ _ tBs).trans ((jZ _ _ _ _ tBs).trans (av o8.o.2.2.1 pS.o))⟩
      have Hi:af (Kept dG ((gh.setCell ⟨t6,1,none⟩ (.slice ic all.length c11)).setCell ⟨t6,0,none⟩ (.slice A l0.length c)) (fun k=>k=t6)):=⟨fN (p:=⟨t6,0,none⟩) (fN (p:=⟨t6,1,none⟩) (Kept.gF pS.o (fun k=>k=t6)) (.inl rfl) _) (.inl rfl) _⟩
      have ux:af (Below w0.heap.size w0 ((gh.setCell ⟨t6,1,none⟩ (.slice ic all.length c11)).setCell ⟨t6,0,none⟩ (.slice A l0.length c))):=⟨((iX.o.c4.trans (dM pS.o iX.o.c4.size)).setCell (p:=⟨t6,1,none⟩) iX.o.gt.2.2.2 _).setCell (p:=⟨t6,0,none⟩) iX.o.gt.2.2.2 _⟩
      have Hj:af (Kept gh ((gh.setCell ⟨t6,1,none⟩ (.slice ic all.length c11)).setCell ⟨t6,0,none⟩ (.slice A l0.length c)) (fun k=>k=t6)):=⟨fN (p:=⟨t6,0,none⟩) (fN (p:=⟨t6,1,none⟩) (S:=fun k=>k=t6) (Kept.refl gh _) (.inl rfl) _) (.inl rfl) _⟩
      have e4:((gh.setCell ⟨t6,1,none⟩ (.slice ic all.length c11)).setCell ⟨t6,0,none⟩ (.slice A l0.length c)).cell? ⟨w.heap.size+1,0,none⟩=some (.slice none 0 0):=ah rZ.o 0
      have Zc:((gh.setCell ⟨t6,1,none⟩ (.slice ic all.length c11)).setCell ⟨t6,0,none⟩ (.slice A l0.length c)).cell? ⟨w.heap.size+1,1,none⟩=some (.slice none 0 0):=ah rZ.o 1
      have akX:=ar rZ.o 0
      have akY:=ar rZ.o 1
      have akZ:=az rZ.o
      have Bt:((gh.setCell ⟨t6,1,none⟩ (.slice ic all.length c11)).setCell ⟨t6,0,none⟩ (.slice A l0.length c)).heap[t6]?=some (.cells #[.slice A l0.length c,.slice ic all.length c11] 29 (0,0)):=a6 (a6 p3 1 _ rfl) 0 _ rfl
      generalize Jj:(gh.setCell ⟨t6,1,none⟩ (.slice ic all.length c11)).setCell ⟨t6,0,none⟩ (.slice A l0.length c)=wf at *
      clear Jj x0 x1 x2 x3 uf p3 xF PV dy
      have d0:wf.cell? ⟨t6,0,none⟩=some (.slice A l0.length c):=ah Bt 0
      have d1:wf.cell? ⟨t6,1,none⟩=some (.slice ic all.length c11):=ah Bt 1
      clear Bt
      go_wp2
      have sP:=a6 (a6 rZ.o 0 (.slice A l0.length c) rfl) 1 (.slice ic all.length c11) rfl
      refine bodyPost_ret (results_cell_row rfl _ _ (w.heap.size+1) 29 #[.slice A l0.length c,.slice ic all.length c11] (0,0) _ rfl sP Tryz.underlying29 rfl tA1) rfl ?_
      have wz:=iX.o.gt
      have iF:=zz.o
      have hno:∀k,(mZ k/\k<w.heap.size)->¬ k=t6:=fun k hk=>by have h1:=hk.2;omega
      have TB:∀k,(fun k=>(mZ k/\k<w.heap.size)\/(na k/\k<aY.heap.size)\/dG.heap.size<=k) k->¬ k=t6:=fun k hk=>by
       rcases hk with h|h|h
       ·exact hno k h
       ·have h1:=h.2;omega
       ·omega
      exact ND ((iX.o.st.kept Hi.o (by show ¬ g=t6;omega))) tA0 ux.o (KP.o _ (iX.o.rA.yP Hi.o (fun k e=> .inl (.inr e)))) (Nat.le_succ _) Kw.o xo.o ⟨pg.o.1,(Kd.ej Hr.o).2.1⟩ ⟨dC.o.1,dC.o.2.1,pR.o⟩ (ok:=(fun k=>(mZ k/\k<w.heap.size)\/(na k/\k<aY.heap.size)\/dG.heap.size<=k)) (Kd.ur (Kd.l4 (Kd.fH o8.o.1.1 pS.o) Hj.o hno) (fun _ h=> .inl h)) (Kd.l4 (Kd.mb Hr.o) Hj.o (fun k hk=>TB k hk)) (fun ho=>by
       rcases ho with h|h|h
       ·exact Hu.o h.1
       ·exact pc.o h.1
       ·omega) (fun ho=>by
       rcases ho with h|h|h
       ·have h1:=h.2;omega
       ·have h1:=iL.o _ h.1;have h2:=e5.o;omega
       ·omega)
 ·have sP:=a6 (a6 zw.o 0 (.slice lq yE.length cb) rfl) 1 (.slice vE mW.length wb) rfl
  refine bodyPost_ret (results_cell_row rfl _ _ (w.heap.size+1) 29 #[.slice lq yE.length cb,.slice vE mW.length wb] (0,0) _ rfl sP Tryz.underlying29 rfl tA1) rfl ?_
  exact ND PR.o tA0 bq.o (xr.o _ Hg.o) (Nat.le_succ _) Kw.o xo.o KR.o (Modest.two xv.o) KF.o (Kd.mb gw.o) pc.o (fun ho=>by have h1:=iL.o _ ho;have z2:=e5.o;omega)
end Go.Proofs.YtjgakaembhmhpaaGreatDoor.PA.Two
namespace Go.Proofs.YtjgakaembhmhpaaGreatDoor.PA
open Go.RowKit Go.Proofs.YtjgakaembhmhpaaGreatDoorW.PrintWords Go.Proofs.YtjgakaembhmhpaaGreatDoorW.PrintLast Go.Proofs.YtjgakaembhmhpaaGreatDoorW.PrintMore Go.Proofs.YtjgakaembhmhpaaGreatDoorM
def Ls (cA lr:Nat)(cells:Array Value)(s:Bool)(F:Nat->Prop)(W:World):Prop:=
 (∀k,F k->k=cA\/k=lr)/\F cA/\F lr/\cA≠lr/\W.heap[cA]?=some (.cells #[.bool s] 4 (0,0))/\W.heap[lr]?=some (.cells cells 114 (0,0))
theorem ar4 (cA lr:Nat)(cells:Array Value):AV (Ls cA lr cells):=
 ⟨fun n F W W' ⟨h0,h1,h2,d1,b1,b2⟩ _ hs=>⟨h0,h1,h2,d1,(hs cA h1).trans b1,(hs lr h2).trans b2⟩,
  fun n F W ⟨h0,h1,h2,d1,b1,b2⟩ k hk=>by
   rcases h0 k hk with e|e<;>rw[e]
   ·exact az b1
   ·exact az b2⟩
def DA (r0:List aq)(r1:List aj)(s:Bool)(x:List Int):Bool×Bool:=(s&&lf r0 r1 x,s&&lf r0 r1 x)
theorem ar5 (w0:World)(r0:List aq)(r1:List aj)(u0 u1:Value)(X X':Option Addr)(cx cx' cA lr m:Nat)
  (g:cD X cx r0 X' cx' r1 w0) (bX:∀x:List Int,x.length=r0.length->wK r0 x r1=true) (hm:m=r0.length) (h8:m<=8):
  GP w0 81 #[.pointer (some ⟨cA,0,none⟩),.pointer (some ⟨lr,0,none⟩)] (fun _=>Ls cA lr #[u0,u1,.slice X r0.length cx,.slice X' r1.length cx']) (DA r0 r1) m:=by
 intro W s F Y x hI hF hB hY axl hx
 subst hx
 have cv:=ae (hY.reads tA0)
 have uH:=ae (zB.calls X cx r0 X' cx' r1 (some ⟨Y,0,none⟩) x.length x (lf r0 r1 x) W (Kd.bN g.hs hB) g.hc (Kd.bN g.ks hB) g.kc cv.o (bl _) (by
  unfold zB.f
  rw[bX x hm]
  simp[hm]))
 have nE:=ae hI
 have o9:=ae hF
 have ak:=ae hB
 have l7:=ae hI.2.2.2.2.1
 obtain⟨h0,h1,h2,d1,b1,b2⟩:=hI
 have s0:W.cell? ⟨cA,0,none⟩=some (.bool s):=ah b1 0
 have s1:W.cell? ⟨lr,2,none⟩=some (.slice X r0.length cx):=ah b2 2
 have s2:W.cell? ⟨lr,3,none⟩=some (.slice X' r1.length cx'):=ah b2 3
 have f0:=ar b1 0
 have lb:=az b1
 clear hF hB hY g h0 h1 h2 d1 b1 b2 bX hm
 unfold DA
 generalize lf r0 r1 x=hP at *
 cases s with
 | true=>
  go_enter Tryz.func81,Tryz.ntmps81
  go_wp2_with (go_at_call 82;with_reducible(refine uH.o.mono ?_);rintro e w1 ⟨rfl,hb⟩;have dX:=ae hb;have c1:w1.cell? ⟨cA,0,none⟩=some (.bool true):=bw hb s0;have g1:=ar (av l7.o hb) 0;clear hb)
  go_ret
  obtain⟨h0,h1,h2,d1,b1,b2⟩:=nE.o
  have k1:=av b1 dX.o
  have k2:=av b2 dX.o
  refine⟨tA2,F,⟨h0,h1,h2,d1,?_,?_⟩,fun k hk=> .inl hk,(Kept.gF dX.o F).setCell (p:=⟨cA,0,none⟩) (.inl h1) _,(cm ak.o ak.o.size dX.o).setCell (o9.o _ h1) _⟩
  ·simpa using a6 k1 0 (.bool hP) rfl
  ·exact lH k2 d1.symm _
 | false=>
  go_enter Tryz.func81,Tryz.ntmps81
  go_wp2
  go_ret
  obtain⟨h0,h1,h2,d1,b1,b2⟩:=nE.o
  refine⟨tA2,F,⟨h0,h1,h2,d1,?_,?_⟩,fun k hk=> .inl hk,(Kept.refl W F).setCell (p:=⟨cA,0,none⟩) (.inl h1) _,ak.o.setCell (o9.o _ h1) _⟩
  ·simpa using a6 b1 0 (.bool false) rfl
  ·exact lH b2 d1.symm _
def wP (l0:List aq)(l1:List aj)(r0:List aq)(r1:List aj)(s:Bool):Bool:=qF (fun _=>true) (DA r0 r1) s (j6 l0 l1)
def Gc (l0:List aq)(l1:List aj)(r0:List aq)(r1:List aj):Bool:=wP r0 r1 l0 l1 (wP l0 l1 r0 r1 true)
def JX (l0:List aq)(l1:List aj)(r0:List aq)(r1:List aj):Bool:=decide (np l0 l1 r0 r1=0)&&Gc l0 l1 r0 r1
section
variable {A A' X X':Option Addr}{c c' cx cx':Nat}{l0 r0:List aq}{l1 r1:List aj}{w:World}
theorem ads (w2 W:World)(cA lr:Nat)(s:Bool)(h:cD A c l0 A' c' l1 w2)(g:cD X cx r0 X' cx' r1 w2)(hv0:Valid l0 l1)(nU:Valid r0 r1)(hlen:l0.length=r0.length)
  (hB:Below w2.heap.size w2 W) (hI:Ls cA lr #[.slice A l0.length c,.slice A' l1.length c',.slice X r0.length cx,.slice X' r1.length cx'] s (fun k=>k=cA\/k=lr) W) (ho:w2.heap.size<=cA) (hq:w2.heap.size<=lr):
  Calls Tryz.prog 53 #[.agg #[.slice A l0.length c,.slice A' l1.length c'],.func (.func 81) #[] #[.pointer (some ⟨cA,0,none⟩),.pointer (some ⟨lr,0,none⟩)]] W fun e w'=>e= .returned (.tuple #[])/\w'.heap[cA]?=some (.cells #[.bool (wP l0 l1 r0 r1 s)] 4 (0,0))/\Kept W w' (fun k=>k=cA\/k=lr)/\Below w2.heap.size w2 w':=by
 have eg:=enters_of Tryz.func81 tA1 rfl
 refine(Zd 300000 81 _ (fun _=>Ls cA lr #[.slice A l0.length c,.slice A' l1.length c',.slice X r0.length cx,.slice X' r1.length cx']) (DA r0 r1) l0 l1 _ _ _ _ s (wP l0 l1 r0 r1 s) (fun k=>k=cA\/k=lr) w2 _ h.hs h.hc h.ks h.kc hB hI (fun b hk=>by rcases hk with e|e<;>omega) (ar5 w2 r0 r1 _ _ X X' cx cx' cA lr l0.length g (Uz (acL nU)).2 hlen hv0.len) (ar4 _ _ _) (fun _ _ _ h=>h) eg hv0.len (Uz (acL hv0)).2 (ak3 hv0 (DA r0 r1) s 300000 tA0)).mono ?_
 rintro e w3 ⟨rfl,F',⟨i0,iv,i2,d1,b1,b2⟩,i4,i5,Jq⟩
 exact⟨rfl,b1,i5,Jq⟩
theorem aja (h:cD A c l0 A' c' l1 w)(g:cD X cx r0 X' cx' r1 w){b:Bool}{r:Int}(j0:JX l0 l1 r0 r1=b)(fW:np l0 l1 r0 r1=r):
  Calls Tryz.prog 27 #[.agg #[.slice A l0.length c,.slice A' l1.length c'],.agg #[.slice X r0.length cx,.slice X' r1.length cx']] w fun e w'=>e= .returned (.tuple #[.bool b,.int .i64 r])/\Below w.heap.size w w':=by
 have bI:=ae (ax (ax (Below.refl w.heap.size w) (.cells #[.slice A l0.length c,.slice A' l1.length c'] 29)) (.cells #[.slice X r0.length cx,.slice X' r1.length cx'] 29))
 have cJ:=ae (aH (a8 w (.cells #[.slice A l0.length c,.slice A' l1.length c'] 29)) (.cells #[.slice X r0.length cx,.slice X' r1.length cx'] 29))
 have cq:=ae (by simpa using a8 (w.alloc (.cells #[.slice A l0.length c,.slice A' l1.length c'] 29)) (.cells #[.slice X r0.length cx,.slice X' r1.length cx'] 29):((w.alloc (.cells #[.slice A l0.length c,.slice A' l1.length c'] 29)).alloc (.cells #[.slice X r0.length cx,.slice X' r1.length cx'] 29)).heap[w.heap.size+1]?=some (.cells #[.slice X r0.length cx,.slice X' r1.length cx'] 29 (0,0)))
 have G5:=ae (YP (h.below bI.o) (g.below bI.o) fW)
 have a7:=ae h
 have HG:=ae g
 have A9:=ae fW
 have G7:=ae j0
 clear h g fW j0
 unfold JX at G7
 rw[A9.o]at G7
 go_enter Tryz.func27,Tryz.ntmps27
 by_cases e0:r=0
 ·subst e0
  have vP:af (Gc l0 l1 r0 r1=b):=⟨by simpa using G7.o⟩
  obtain⟨hv0,nU,hv2⟩:=Gt A9.o
  have hlen:l0.length=r0.length:=tD4
  have pg:=ae hlen
  have jL:=ae (iT hv0)
  have nH:=ae (iT nU)
  clear hv0 nU hv2 hlen G7
  go_wp2_with (go_at_call 77;with_reducible(refine G5.o.mono ?_);rintro e w2 ⟨rfl,hb⟩;have aI:=ae (au bI.o hb);have jW:=ae (av cJ.o hb);have l9:=ae (av cq.o hb);have aK:(w2.alloc (.cells #[.bool true] 4)).cell? ⟨w.heap.size,0,none⟩=some (.slice A l0.length c):=(mj (aH jW.o _) 0).trans rfl;have aC:(w2.alloc (.cells #[.bool true] 4)).cell? ⟨w.heap.size,1,none⟩=some (.slice A' l1.length c'):=(mj (aH jW.o _) 1).trans rfl;have bM:(w2.alloc (.cells #[.bool true] 4)).cell? ⟨w.heap.size+1,0,none⟩=some (.slice X r0.length cx):=(mj (aH l9.o _) 0).trans rfl;have eH:(w2.alloc (.cells #[.bool true] 4)).cell? ⟨w.heap.size+1,1,none⟩=some (.slice X' r1.length cx'):=(mj (aH l9.o _) 1).trans rfl;clear hb)
  have vG:=ae (a7.o.below aI.o)
  have WC:=ae (HG.o.below aI.o)
  have jU:af (((w2.alloc (.cells #[.bool true] 4)).alloc (.cells #[(.slice A l0.length c),(.slice A' l1.length c'),(.slice X r0.length cx),(.slice X' r1.length cx'),(.slice X r0.length cx),(.slice X' r1.length cx'),(.slice A l0.length c),(.slice A' l1.length c')] 114)).heap[w2.heap.size]?=some (.cells #[.bool true] 4 (0,0))):=⟨aH (a8 w2 (.cells #[.bool true] 4)) _⟩
  have iW:af (((w2.alloc (.cells #[.bool true] 4)).alloc (.cells #[(.slice A l0.length c),(.slice A' l1.length c'),(.slice X r0.length cx),(.slice X' r1.length cx'),(.slice X r0.length cx),(.slice X' r1.length cx'),(.slice A l0.length c),(.slice A' l1.length c')] 114)).heap[w2.heap.size+1]?=some (.cells #[(.slice A l0.length c),(.slice A' l1.length c'),(.slice X r0.length cx),(.slice X' r1.length cx'),(.slice X r0.length cx),(.slice X' r1.length cx'),(.slice A l0.length c),(.slice A' l1.length c')] 114 (0,0))):=⟨by simpa using a8 (w2.alloc (.cells #[.bool true] 4)) (.cells #[(.slice A l0.length c),(.slice A' l1.length c'),(.slice X r0.length cx),(.slice X' r1.length cx'),(.slice X r0.length cx),(.slice X' r1.length cx'),(.slice A l0.length c),(.slice A' l1.length c')] 114)⟩
  have Hk:=ae (ax (ax (Below.refl w2.heap.size w2) (.cells #[.bool true] 4)) (.cells #[(.slice A l0.length c),(.slice A' l1.length c'),(.slice X r0.length cx),(.slice X' r1.length cx'),(.slice X r0.length cx),(.slice X' r1.length cx'),(.slice A l0.length c),(.slice A' l1.length c')] 114))
  clear aK aC bM eH
  go_loopg [9,24] 2 (fun bL _ Dy wr=>∃(kk:Nat) (s:Bool),kk<=2/\2-kk<=bL/\Dy= .int .i64 kk/\af ((kk=0/\s=true)\/(kk=1/\s=wP l0 l1 r0 r1 true)\/(kk=2/\s=Gc l0 l1 r0 r1))/\af (wr.heap[w2.heap.size]?=some (.cells #[.bool s] 4 (0,0)))/\af (wr.heap[w2.heap.size+1]?=some (.cells #[(.slice A l0.length c),(.slice A' l1.length c'),(.slice X r0.length cx),(.slice X' r1.length cx'),(.slice X r0.length cx),(.slice X' r1.length cx'),(.slice A l0.length c),(.slice A' l1.length c')] 114 (0,0)))/\af (Below w2.heap.size w2 wr))
  case atStart=>exact⟨0,true,tA0,tA0,rfl,⟨.inl ⟨rfl,rfl⟩⟩,jU,iW,Hk⟩
  case round=>
   clear jU iW Hk
   obtain⟨kk,s,eO,wy,rfl,HC,vT,td,bA⟩:=hrel
   generalize mM:wr=aA at *
   clear mM
   rcases HC.o with⟨rfl,rfl⟩|⟨rfl,rfl⟩|⟨rfl,rfl⟩
   ·have aK:aA.cell? ⟨w2.heap.size+1,0,none⟩=some (.slice A l0.length c):=ah td.o 0
    have aC:aA.cell? ⟨w2.heap.size+1,1,none⟩=some (.slice A' l1.length c'):=ah td.o 1
    have bM:aA.cell? ⟨w2.heap.size+1,2,none⟩=some (.slice X r0.length cx):=ah td.o 2
    have eH:aA.cell? ⟨w2.heap.size+1,3,none⟩=some (.slice X' r1.length cx'):=ah td.o 3
    have Pb:=ae (ads (c:=c) (c':=c') (cx:=cx) (cx':=cx') w2 (aA.alloc (.cells #[.slice A l0.length c,.slice A' l1.length c',.slice X r0.length cx,.slice X' r1.length cx'] 114)) w2.heap.size aA.heap.size true vG.o WC.o jL.o nH.o pg.o (ax bA.o _) ⟨fun k hk=>hk,.inl rfl,.inr rfl,Nat.ne_of_lt (az vT.o),aH vT.o _,a8 aA _⟩ (bl _) bA.o.size)
    go_wp2_with (go_at_call 53;with_reducible(refine Pb.o.mono ?_);rintro e w3 ⟨rfl,IQ,hk,hb⟩;have O3:=ae IQ;have bS:=ae hb;have Qm:=ae (iD (aH td.o _) hk (fun e=>by have:=az td.o;omega));clear IQ hk hb)
    go_roundg (1)
    case measure=>omega
    case rel=>exact⟨1,wP l0 l1 r0 r1 true,tA0,tA0,tA7,⟨.inr (.inl ⟨rfl,rfl⟩)⟩,O3,Qm,bS⟩
   ·have aK:aA.cell? ⟨w2.heap.size+1,4,none⟩=some (.slice X r0.length cx):=ah td.o 4
    have aC:aA.cell? ⟨w2.heap.size+1,5,none⟩=some (.slice X' r1.length cx'):=ah td.o 5
    have bM:aA.cell? ⟨w2.heap.size+1,6,none⟩=some (.slice A l0.length c):=ah td.o 6
    have eH:aA.cell? ⟨w2.heap.size+1,7,none⟩=some (.slice A' l1.length c'):=ah td.o 7
    have Pb:=ae (ads (c:=cx) (c':=cx') (cx:=c) (cx':=c') w2 (aA.alloc (.cells #[.slice X r0.length cx,.slice X' r1.length cx',.slice A l0.length c,.slice A' l1.length c'] 114)) w2.heap.size aA.heap.size (wP l0 l1 r0 r1 true) WC.o vG.o nH.o jL.o pg.o.symm (ax bA.o _) ⟨fun k hk=>hk,.inl rfl,.inr rfl,Nat.ne_of_lt (az vT.o),aH vT.o _,a8 aA _⟩ (bl _) bA.o.size)
    go_wp2_with (go_at_call 53;with_reducible(refine Pb.o.mono ?_);rintro e w3 ⟨rfl,IQ,hk,hb⟩;have O3:=ae IQ;have bS:=ae hb;have Qm:=ae (iD (aH td.o _) hk (fun e=>by have:=az td.o;omega));clear IQ hk hb)
    go_roundg (0)
    case measure=>omega
    case rel=>exact⟨2,wP r0 r1 l0 l1 (wP l0 l1 r0 r1 true),tA0,tA0,tA7,⟨.inr (.inr ⟨rfl,rfl⟩)⟩,O3,Qm,bS⟩
   ·have aK:aA.cell? ⟨w2.heap.size,0,none⟩=some (.bool (Gc l0 l1 r0 r1)):=ah vT.o 0
    rw[vP.o]at aK
    go_wp2
    go_ret2
    exact⟨rfl,au aI.o bA.o⟩
 ·have zZ:(r !=0)=true:=bne_iff_ne.2 e0
  obtain rfl:b=false:=by simpa[e0]using G7.o.symm
  go_wp2_with (go_at_call 77;with_reducible(refine G5.o.mono ?_);rintro e w2 ⟨rfl,hb⟩;have aI:=ae (au bI.o hb);clear hb)
  go_ret2
  exact⟨rfl,aI.o⟩
end
theorem Kl (g:Nat)(lb:Array Value)(A:Option Addr)(c:Nat)(l:List aq)(p:aq->Bool)(w:World)(hr:Kd.C cu w A l.length l)
  (eg:∀args w,(callFunc g args).run Tryz.prog w= .ok (.enter g args) w)
  (hp:∀(W:World) (x:aq),x∈l->Below w.heap.size w W->Calls Tryz.prog g (#[.agg #[.string x.f0,.int .i64 x.f1,.int .i64 x.f2]]++lb) W fun e w'=>e= .returned (.bool (p x))/\Below w.heap.size w w'):
  Calls Tryz.prog 64 #[.slice A l.length c,.func (.func g) #[] lb] w fun e w'=>e= .returned (.bool (l.any p))/\Below w.heap.size w w':=by
 have HG:=ae (FR p l 0 tA0)
 have mo:=XR g lb A c l p w hr eg hp
 clear hr hp
 generalize idxFrom p l 0=Jv at *
 go_enter Tryz.func64,Tryz.ntmps64
 go_wp2_with (go_at_call 120;refine mo.mono ?_;rintro e w' ⟨rfl,hb'⟩)
 go_ret
 exact⟨by rw[<- HG.o];rfl,hb'⟩
theorem Nz (a:ByteArray)(f1 f2:Int)(name:ByteArray)(B:Nat)(W:World)(hb:W.heap[B]?=some (.cells #[.string name] 9 (0,0))):
  Calls Tryz.prog 65 #[.agg #[.string a,.int .i64 f1,.int .i64 f2],.pointer (some ⟨B,0,none⟩)] W fun e w'=>e= .returned (.bool (a.toList==name.toList))/\Below W.heap.size W w':=by
 have hc:W.cell? ⟨B,0,none⟩=some (.string name):=ah hb 0
 have hlt:=az hb
 go_enter Tryz.func65,Tryz.ntmps65
 go_wp2
 go_ret
 exact⟨rfl,ax (Below.refl _ _) _⟩
def mY (sides:List aq):List ByteArray->List ByteArray->Int
 | _,[]=>0
 | done,n::r=>if eE n=true then(if(sides.any fun s=>s.f0.toList==n.toList)=true then(if(done.any fun x=>decide (n=x))=true then 6 else mY sides (done++[n]) r)else 8)else 5
theorem ap1 {A A' AN:Option Addr}{c c' cN:Nat}{l0:List aq}{l1:List aj}{L:List ByteArray}{w:World}(h:cD A c l0 A' c' l1 w)(hL:Kd.C Kd.string w AN L.length L)(hc:L.length<=cN)(hl:L.length<=1000)(hs:∀n∈L,n.size<=100):
  Calls Tryz.prog 18 #[.agg #[.slice A l0.length c,.slice A' l1.length c'],.slice AN L.length cN] w fun e w'=>e= .returned (.int .i64 (mY l0 [] L))/\Below w.heap.size w w':=by
 have a7:=ae h
 have br:=ae hL
 have HS:=ae hs
 have B5:=ae (ax (Below.refl w.heap.size w) (.cells #[.slice A l0.length c,.slice A' l1.length c'] 29))
 have hb1:=ae (a8 w (.cells #[.slice A l0.length c,.slice A' l1.length c'] 29))
 have eg:=enters_of Tryz.func65 tA1 rfl
 clear h hL hs
 go_enter Tryz.func18,Tryz.ntmps18
 go_wp2
 generalize w.alloc (.cells #[.slice A l0.length c,.slice A' l1.length c'] 29)=w1 at *
 go_loopg [5,6,9,14,18,24] L.length (fun bL _ _ lj _ _ _ wr=>∃kk:Nat,kk<=L.length/\L.length-kk<=bL/\lj= .int .i64 kk/\af (Below w.heap.size w wr/\Below w1.heap.size w1 wr)/\af (mY l0 [] L=mY l0 (L.take kk) (L.drop kk)))
 case atStart=>exact⟨0,Nat.zero_le _,tA0,rfl,⟨B5.o,Below.refl _ _⟩,⟨tA2⟩⟩
 case round=>
  obtain⟨kk,eO,hg,rfl,ak,fL⟩:=hrel
  by_cases hlt:kk<L.length
  ·have cp:(kk:Int)< (L.length:Int):=by omega
   obtain⟨ad,e,hx0⟩:=Kd.EM br.o (kk:Int) tA0 tA0
   cases e
   replace hx0:=bw ak.o.1 hx0
   simp only[eQ]at hx0
   have hy:gg ByteArray.empty L (kk:Int)=L[kk]:=by simp[gg,List.getD,b8 hlt]
   have km:=ae (HS.o (gg ByteArray.empty L (kk:Int)) tB0)
   have Ku:af (mY l0 [] L=mY l0 (L.take kk) (gg ByteArray.empty L (kk:Int)::L.drop (kk+1))):=⟨by rw[fL.o,hy,lF hlt]⟩
   have iM:af (L.take (kk+1)=L.take kk++[gg ByteArray.empty L (kk:Int)]):=⟨by rw[hy,kr hlt]⟩
   clear hy
   generalize gg ByteArray.empty L (kk:Int)=n at *
   have bm:=ae (Uo n tCm 1000 tCm)
   have qW:af (Az.f 1000 n=some (if eE n=true then 0 else 5)):=⟨by
    unfold Az.f
    rw[bm.o,Option.bind_some]
    by_cases h1:eE n=true
    ·rw[if_pos h1,if_pos h1]
    ·rw[if_neg h1,if_neg h1]⟩
   have kg:=ae (a8 wr (.cells #[.string n] 9))
   have ie:=ae (ax (Below.refl wr.heap.size wr) (.cells #[.string n] 9))
   have xi:=ae (ax ak.o.1 (.cells #[.string n] 9))
   have jz:=ae (av hb1.o ak.o.2)
   cases hn:eE n with
   | false=>
    rw[hn]at qW
    have fx:af (mY l0 [] L=5):=⟨by rw[Ku.o,mY,hn];rfl⟩
    simp only[Bool.false_eq_true,if_false]at qW
    go_wp2_with (go_at_call 63;refine(Az.calls 1000 n _ _ qW.o).mono ?_;rintro e w2 ⟨rfl,hb⟩;have aI:=ae (au ie.o hb);have cq:=ae (av kg.o hb);have fV:=ae (av jz.o aI.o);have z0:w2.cell? ⟨w.heap.size,0,none⟩=some (.slice A l0.length c):=(mj fV.o 0).trans rfl;have z2:w2.cell? ⟨wr.heap.size,0,none⟩=some (.string n):=(mj cq.o 0).trans rfl;have uy:=ae (au xi.o hb);have jd:=ae (Kl 65 #[.pointer (some ⟨wr.heap.size,0,none⟩)] A c l0 (fun s=>s.f0.toList==n.toList) w2 (a7.o.below uy.o).hs eg (fun W x hx hB=>(Nz x.f0 x.f1 x.f2 n wr.heap.size W (av cq.o hB)).mono fun e w' ⟨he,hb⟩=>⟨he,au hB hb⟩));clear hb)
    go_ret
    rw[fx.o]
    exact⟨rfl,uy.o⟩
   | true=>
    rw[hn]at qW
    simp only[if_true]at qW
    cases ha:l0.any (fun s=>s.f0.toList==n.toList)with
    | false=>
     have Kt:=ae ha
     have fx:af (mY l0 [] L=8):=⟨by rw[Ku.o,mY,hn,ha];rfl⟩
     clear ha
     go_wp2_with (first|(go_at_call 63;refine(Az.calls 1000 n _ _ qW.o).mono ?_;rintro e w2 ⟨rfl,hb⟩;have aI:=ae (au ie.o hb);have cq:=ae (av kg.o hb);have fV:=ae (av jz.o aI.o);have z0:w2.cell? ⟨w.heap.size,0,none⟩=some (.slice A l0.length c):=(mj fV.o 0).trans rfl;have z2:w2.cell? ⟨wr.heap.size,0,none⟩=some (.string n):=(mj cq.o 0).trans rfl;have uy:=ae (au xi.o hb);have jd:=ae (Kl 65 #[.pointer (some ⟨wr.heap.size,0,none⟩)] A c l0 (fun s=>s.f0.toList==n.toList) w2 (a7.o.below uy.o).hs eg (fun W x hx hB=>(Nz x.f0 x.f1 x.f2 n wr.heap.size W (av cq.o hB)).mono fun e w' ⟨he,hb⟩=>⟨he,au hB hb⟩));clear hb)|(go_at_call 64;refine jd.o.mono ?_;rintro e w3 ⟨rfl,hb⟩;rw[Kt.o];have bS:=ae (au aI.o hb);have A4:=ae (au uy.o hb);have z3:w3.cell? ⟨wr.heap.size,0,none⟩=some (.string n):=(mj (av cq.o hb) 0).trans rfl;clear hb))
     go_ret
     rw[fx.o]
     exact⟨rfl,A4.o⟩
    | true=>
     have Kt:=ae ha
     have D1:=ae (Mf (L.take kk) n 2000 tAg tAg)
     have zb:af ((L.take kk).length=kk):=⟨tAg⟩
     cases hd:(L.take kk).any (fun x=>decide (n=x))with
     | true=>
      have fx:af (mY l0 [] L=6):=⟨by rw[Ku.o,mY,hn,ha,hd];rfl⟩
      rw[hd]at D1
      clear ha hd
      go_wp2_with (first|(go_at_call 63;refine(Az.calls 1000 n _ _ qW.o).mono ?_;rintro e w2 ⟨rfl,hb⟩;have aI:=ae (au ie.o hb);have cq:=ae (av kg.o hb);have fV:=ae (av jz.o aI.o);have z0:w2.cell? ⟨w.heap.size,0,none⟩=some (.slice A l0.length c):=(mj fV.o 0).trans rfl;have z2:w2.cell? ⟨wr.heap.size,0,none⟩=some (.string n):=(mj cq.o 0).trans rfl;have uy:=ae (au xi.o hb);have jd:=ae (Kl 65 #[.pointer (some ⟨wr.heap.size,0,none⟩)] A c l0 (fun s=>s.f0.toList==n.toList) w2 (a7.o.below uy.o).hs eg (fun W x hx hB=>(Nz x.f0 x.f1 x.f2 n wr.heap.size W (av cq.o hB)).mono fun e w' ⟨he,hb⟩=>⟨he,au hB hb⟩));clear hb)|(go_at_call 64;refine jd.o.mono ?_;rintro e w3 ⟨rfl,hb⟩;rw[Kt.o];have bS:=ae (au aI.o hb);have A4:=ae (au uy.o hb);have z3:w3.cell? ⟨wr.heap.size,0,none⟩=some (.string n):=(mj (av cq.o hb) 0).trans rfl;clear hb))
      have G3:af (∀q,Calls Tryz.prog 48 #[.slice (some ad) kk cN,.string n] (w3.drewN q) fun e w'=>e= .returned (.bool true)/\aR (w3.drewN q) w'):=⟨fun q=>by
       have:=kF.calls 2000 (some ad) cN (L.take kk) n true (w3.drewN q) (Kd.bN (Kd.V1 (Kd.bN br.o A4.o) eO) (eG (Below.refl _ _) q)) tAg D1.o
       rw[zb.o]at this
       exact this⟩
      have aa1:(kk:Int)<=(cN:Int):=tA0
      have qA:(0:Int)<=(kk:Int):=tA0
      go_quiet (first|(go_at_call 48;(refine(G3.o _).mono ?_);rintro e w' ⟨rfl,⟨cg,rfl⟩⟩;(try first|exact⟨rfl,_,dt _ _ _⟩|exact⟨rfl,_,Eq.trans (dt _ _ _) (congrArg (World.drewN _) (Nat.add_assoc _ _ _))⟩)))
      go_wp2
      go_ret
      rw[fx.o]
      exact⟨rfl,eG A4.o _⟩
     | false=>
      have fx:af (mY l0 [] L=mY l0 (L.take (kk+1)) (L.drop (kk+1))):=⟨by rw[Ku.o,mY,hn,ha,hd,iM.o];rfl⟩
      rw[hd]at D1
      clear ha hd
      go_wp2_with (first|(go_at_call 63;refine(Az.calls 1000 n _ _ qW.o).mono ?_;rintro e w2 ⟨rfl,hb⟩;have aI:=ae (au ie.o hb);have cq:=ae (av kg.o hb);have fV:=ae (av jz.o aI.o);have z0:w2.cell? ⟨w.heap.size,0,none⟩=some (.slice A l0.length c):=(mj fV.o 0).trans rfl;have z2:w2.cell? ⟨wr.heap.size,0,none⟩=some (.string n):=(mj cq.o 0).trans rfl;have uy:=ae (au xi.o hb);have jd:=ae (Kl 65 #[.pointer (some ⟨wr.heap.size,0,none⟩)] A c l0 (fun s=>s.f0.toList==n.toList) w2 (a7.o.below uy.o).hs eg (fun W x hx hB=>(Nz x.f0 x.f1 x.f2 n wr.heap.size W (av cq.o hB)).mono fun e w' ⟨he,hb⟩=>⟨he,au hB hb⟩));clear hb)|(go_at_call 64;refine jd.o.mono ?_;rintro e w3 ⟨rfl,hb⟩;rw[Kt.o];have bS:=ae (au aI.o hb);have A4:=ae (au uy.o hb);have z3:w3.cell? ⟨wr.heap.size,0,none⟩=some (.string n):=(mj (av cq.o hb) 0).trans rfl;clear hb))
      have G3:af (∀q,Calls Tryz.prog 48 #[.slice (some ad) kk cN,.string n] (w3.drewN q) fun e w'=>e= .returned (.bool false)/\aR (w3.drewN q) w'):=⟨fun q=>by
       have:=kF.calls 2000 (some ad) cN (L.take kk) n false (w3.drewN q) (Kd.bN (Kd.V1 (Kd.bN br.o A4.o) eO) (eG (Below.refl _ _) q)) tAg D1.o
       rw[zb.o]at this
       exact this⟩
      have aa1:(kk:Int)<=(cN:Int):=tA0
      have qA:(0:Int)<=(kk:Int):=tA0
      go_quiet (first|(go_at_call 48;(refine(G3.o _).mono ?_);rintro e w' ⟨rfl,⟨cg,rfl⟩⟩;(try first|exact⟨rfl,_,dt _ _ _⟩|exact⟨rfl,_,Eq.trans (dt _ _ _) (congrArg (World.drewN _) (Nat.add_assoc _ _ _))⟩)))
      go_wp2
      go_roundg (L.length- (kk+1))
      case measure=>omega
      case rel=>exact⟨kk+1,tA0,tA0,tA7,⟨eG A4.o _,eG (cm ak.o.2 ak.o.2.size bS.o) _⟩,fx⟩
  ·have cp:¬ (kk:Int)< (L.length:Int):=by omega
   have di:kk=L.length:=tA0
   subst di
   have fx:af (mY l0 [] L=0):=⟨by rw[fL.o,List.drop_length];rfl⟩
   go_wp2
   go_ret
   rw[fx.o]
   exact⟨rfl,ak.o.1⟩
end Go.Proofs.YtjgakaembhmhpaaGreatDoor.PA
