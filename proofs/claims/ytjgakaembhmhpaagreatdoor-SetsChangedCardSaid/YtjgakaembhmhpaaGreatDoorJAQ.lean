/- Part of the proof of SetsChanged: the walk and the plain laws. It holds without further conditions. -/
import Derived.Test.YtjgakaembhmhpaaGreatDoorJAP
set_option linter.unusedVariables false
set_option linter.unusedSimpArgs false
set_option maxHeartbeats 16000000
set_option maxRecDepth 100000
namespace Go.Proofs.YtjgakaembhmhpaaGreatDoor.PA
open Go.RowKit Go.Proofs.YtjgakaembhmhpaaGreatDoorW.PrintWords Go.Proofs.YtjgakaembhmhpaaGreatDoorW.PrintLast Go.Proofs.YtjgakaembhmhpaaGreatDoorW.PrintMore Go.Proofs.YtjgakaembhmhpaaGreatDoorM
theorem Sl {W:World}{ok:Nat->Prop}{x:aj}{cs:List Value}(h:Kd.eI bc W ok x cs):∃A c,cs=[.int .i64 x.f0,.slice A x.f1.length c]/\x.f1.length<=c/\Kd.F cf W ok A x.f1.length x.f1:=by
 obtain⟨A,c,e,hl,hC⟩:=FV (Kd.o6 h)
 subst e
 refine⟨A,c,rfl,hl,fun W' hW=>?_⟩
 obtain⟨A',c',e',hl',al5⟩:=FV (h W' hW)
 simp only[List.cons.injEq,Value.slice.injEq,and_true,true_and]at e'
 obtain⟨rfl,rfl⟩:=e'
 exact al5
theorem X4 {g n cap:Nat}{W:World}{base:Nat}{ok:Nat->Prop}{xs:List aj}(HO:Kd.N bc 33 W base ok (.slice (some ⟨g,0,none⟩) n cap) xs)(i:Nat)(hi:i<xs.length)(m:Int):
  Kd.N bc 33 (W.setCell ⟨g,i * 2,none⟩ (.int .i64 m)) base ok (.slice (some ⟨g,0,none⟩) n cap) (xs.set i ⟨m,(xs.getD i z33).f1⟩):=by
 have hn:=(Kd.ej HO).1
 have hC:=(Kd.ej HO).2.2
 obtain⟨hown,rows,hl,hR,hf⟩:=HO
 have hx:xs[i]?=some (xs.getD i z33):=by simp[List.getD,b8 hi]
 have hc:rows[i]?=some (rows.getD i []):=by simp[List.getD,b8 (show i<rows.length by omega)]
 have amV:=hf i _ _ hx hc
 obtain⟨A,c,ec,hle,hF⟩:=Sl amV
 obtain⟨ad,aN,c1,e1,x0,x1,_⟩:=rh hC (i:Int) tA0 tA0
 have qx:∀j u,(rows.getD i [])[j]?=some u->W.cell? ⟨g,((i:Int)).toNat * 2+j,none⟩=some u:=fun j u hj=>by
  obtain⟨_,inner,ho,Je⟩:=hR
  have hr:=Je.2 i _ hc
  have gO:=hr.1
  rcases ho.2 with⟨e0,_⟩|⟨g',cap',cur,e0,h2,h3,h4,h5,h6,h7⟩
  ·cases e0
  ·cases e0
   rw[mj h3]
   have vd:j<2:=by
    have:=(iC.1 hj).1
    rw[ec]at this
    simpa using this
   have e2:(inner.drop (i * 2)).take 2=rows.getD i []:=gO
   rw[<- e2,jC vd,List.getElem?_drop]at hj
   have hlen:i * 2+j<rows.length * 2:=tA0
   have Sy:cur.toList.take (rows.length * 2)=inner:=h7
   rw[<- Sy,jC hlen,Array.getElem?_toList]at hj
   simpa using hj
 have hF':Kd.F cf W (fun k=>ok k/\k≠g) A (xs.getD i z33).f1.length (xs.getD i z33).f1:=Kd.ur hF (fun k hk=>⟨hk.1,fun e=>hk.2 (by rw[e];simp[Value.ownBlock])⟩)
 have hM:Kd.eI bc W (fun k=>ok k/\k≠g) ⟨m,(xs.getD i z33).f1⟩ ((rows.getD i []).take 0++[.int .i64 m]++(rows.getD i []).drop (0+ [Value.int .i64 m].length)):=by
  rw[ec]
  exact zI hle hF'
 have amd:(Kd.raw bc.sz).M W base (fun _=>False) ((rows.getD i []).take 0++[Value.int .i64 m]++(rows.getD i []).drop (0+ [Value.int .i64 m].length)) ((rows.getD i []).take 0++[Value.int .i64 m]++(rows.getD i []).drop (0+ [Value.int .i64 m].length)):=Kd.GR hM
 obtain⟨hr2,hg2⟩:=Kd.ai0 (Kd.yJ hR) (i:Int) tA0 tA0 (c:=rows.getD i []) (seg:=[Value.int .i64 m]) (j:=0) (by rw[ec];rfl) qx (by show 0+1<=2;omega) (okp:=fun _=>False) amd (fun _ h=>h.elim)
 have:=Kd.aiG (i:=(i:Int)) hown hl hf hr2 hg2 hM (fun k hk=>hk)
 exact(by simpa[World.setCells]using this:Kd.N bc 33 (W.setCell ⟨g,i * (Kd.raw bc.sz).sz,none⟩ (.int .i64 m)) base ok (.slice (some ⟨g,0,none⟩) n cap) (xs.set i ⟨m,(xs.getD i z33).f1⟩))
theorem UR:∀{out:List aj} {f:aj} {i:Nat},i<out.length->(∀x∈out.take i,x.f1≠f.f1)->(out.getD i z33).f1=f.f1->mr out f=out.set i ⟨min (out.getD i z33).f0 f.f0,(out.getD i z33).f1⟩
 | [],_,_,h,_,_=>absurd h tA2
 | x::r,f,0,_,_,h=>by
  have h':x.f1=f.f1:=h
  rw[mr,if_pos h']
  rfl
 | x::r,f,i+1,hi,hn,h=>by
  have h0:x.f1≠f.f1:=hn x tA2
  rw[mr,if_neg h0,List.set_cons_succ,UR (by simpa using hi) (fun y hy=>hn y tB4) (show(r.getD i z33).f1=f.f1 from h)]
  rfl
section
variable {A X:Option Addr}{c cX B:Nat}{f:aj}{W:World}
theorem asH (hB:W.heap[B]?=some (.cells #[.int .i64 f.f0,.slice A f.f1.length c] 33 (0,0)))(hf:Kd.C cf W A f.f1.length f.f1)(hc:f.f1.length<=c){A':Option Addr}{c':Nat}{x:aj}(hx:Kd.C cf W A' x.f1.length x.f1)(hc':x.f1.length<=c'):
  Calls Tryz.prog 136 #[.agg #[.int .i64 x.f0,.slice A' x.f1.length c'],.pointer (some ⟨B,0,none⟩)] W fun e w'=>e= .returned (.bool (pC x.f1 f.f1))/\Below W.heap.size W w':=by
 have ak:=ae (ax (Below.refl W.heap.size W) (.cells #[.int .i64 x.f0,.slice A' x.f1.length c'] 33))
 have hm:=hx.2.1
 have HC:=ae (nM.calls _ A' c' x.f1 A c f.f1 _ _ (Kd.bN hx ak.o) hc' (Kd.bN hf ak.o) hc (Zn x.f1 f.f1 hm))
 have aC:W.cell? ⟨B,1,none⟩=some (.slice A f.f1.length c):=ah hB 1
 have Nv:=az hB
 have hne:¬ B=W.heap.size:=tA0
 have rv:¬ W.heap.size=B:=tA0
 clear hB hf hx
 go_enter Tryz.func136,Tryz.ntmps136
 go_wp2_with (go_at_call 137;with_reducible(refine HC.o.mono ?_);rintro e w2 ⟨rfl,hd⟩;have aI:=ae (py ak.o hd))
 go_ret
 exact⟨rfl,aI.o⟩
theorem ah1 {out:List aj}(hr:Kd.C bc W X out.length out)(hB:W.heap[B]?=some (.cells #[.int .i64 f.f0,.slice A f.f1.length c] 33 (0,0)))(hf:Kd.C cf W A f.f1.length f.f1)(hc:f.f1.length<=c):
  Calls Tryz.prog 129 #[.slice X out.length cX,.func (.func 136) #[] #[.pointer (some ⟨B,0,none⟩)]] W fun e w'=>∃r:Int,e= .returned (.int .i64 r)/\((r= -1/\∀x∈out,x.f1≠f.f1)\/∃i:Nat,r=(i:Int)/\i<out.length/\(∀x∈out.take i,x.f1≠f.f1)/\(out.getD i z33).f1=f.f1)/\Below W.heap.size W w':=by
 have bT:=ae hr
 have dh:=ae hB
 have fX:=ae hf
 have Ba:=ae hc
 have hm:=hr.2.1
 have eg:=enters_of Tryz.func136 tA1 rfl
 clear hr hB hf hc
 go_enter Tryz.func129,Tryz.ntmps129
 go_wp2
 go_loopg [5,8] out.length (fun bL _ kE wr=>∃kk:Nat,kk<=out.length/\out.length-kk<=bL/\kE= .int .i64 kk/\af (∀x∈out.take kk,x.f1≠f.f1)/\af (Below W.heap.size W wr))
 case atStart=>exact⟨0,Nat.zero_le _,tA0,rfl,⟨tA2⟩,⟨Below.refl _ _⟩⟩
 case round=>
  obtain⟨kk,eO,hg,rfl,gm,ak⟩:=hrel
  by_cases hlt:kk<out.length
  ·have cp:(kk:Int)< (out.length:Int):=by omega
   obtain⟨ad,aN,c1,e,x0,x1,fF,yT⟩:=rh bT.o (kk:Int) tA0 tA0
   cases e
   simp only[eQ]at x0 x1
   replace x0:=bw ak.o x0
   replace x1:=bw ak.o x1
   have HC:=ae (asH (av dh.o ak.o) (Kd.bN fX.o ak.o) Ba.o (Kd.bN yT ak.o) fF)
   have dQ:af (out.take (kk+1)=out.take kk++[bH out (kk:Int)]):=⟨by
    rw[kr hlt]
    simp[bH,List.getD,b8 hlt]⟩
   have ahV:af (out.getD kk z33=bH out (kk:Int)):=⟨by simp[bH]⟩
   clear fF yT
   generalize bH out (kk:Int)=y at *
   obtain⟨aK,aC⟩:=y
   have heq:=Mr aC f.f1
   obtain⟨q,dK⟩:∃q,af (pC aC f.f1=q):=⟨_,⟨rfl⟩⟩
   rw[show pC (⟨aK,aC⟩:aj).f1 f.f1=q from dK.o]at HC
   rw[dK.o]at heq
   have KE:=ae heq
   clear heq
   cases q with
   | true=>
    go_wp2_with (go_at_fn 136)
    refine HC.o.mono ?_
    rintro e w2 ⟨rfl,hb⟩
    have aI:=ae (au ak.o hb)
    clear hb
    go_wp2
    go_ret
    exact⟨_,rfl,Or.inr ⟨kk,rfl,hlt,gm.o,by rw[ahV.o];exact KE.o.1 (by trivial)⟩,aI.o⟩
   | false=>
    go_wp2_with (go_at_fn 136)
    refine HC.o.mono ?_
    rintro e w2 ⟨rfl,hb⟩
    have aI:=ae (au ak.o hb)
    clear hb
    go_wp2
    go_roundg (out.length- (kk+1))
    case measure=>omega
    case rel=>exact⟨kk+1,tA0,tA0,tA7,⟨fun x hx=>by
     rw[dQ.o]at hx
     rcases List.mem_append.1 hx with hx|hx
     ·exact gm.o x hx
     ·rw[il.1 hx];exact fun e=>absurd (KE.o.2 e) tA2⟩,aI⟩
  ·have cp:¬ (kk:Int)< (out.length:Int):=by omega
   have di:kk=out.length:=tA0
   have p6:=gm.o
   rw[di,fJ]at p6
   have e5:=ae p6
   clear p6 di
   go_wp2
   go_ret
   exact⟨_,rfl,Or.inl ⟨rfl,e5.o⟩,ak.o⟩
end
theorem sT {l:List aj}{k:Nat}(h:k<l.length):l.take (k+1)=l.take k++[bH l (k:Int)]:=by
 rw[kr h]
 simp[bH,List.getD,b8 h]
theorem sL (l:List aj)(k:Nat)(h:k<l.length):bH l (k:Int)∈l:=by
 have:bH l (k:Int)=l[k]:=by simp[bH,List.getD,b8 h]
 rw[this]
 exact List.getElem_mem h
theorem Vp (l:List aj)(f:aj):dT (l++[f])=tS (dT l) f:=by
 unfold dT
 rw[List.foldl_append]
 rfl
theorem ac5:∀(out:List aj) (f:aj),(mr out f).length<=out.length+1
 | [],f=>bl _
 | x::r,f=>by
  have:=ac5 r f
  unfold mr
  split
  ·simp
  ·simp only[i6];omega
theorem ad3 (l:List aj):(dT l).length<=l.length:=by
 refine wR (p:=fun l=>(dT l).length<=l.length) (bl _) (fun l f ih=>?_) l
 rw[Vp,tS,fZ]
 have:=ac5 (dT l) (rC f)
 split
 ·simp only[i6,List.length_nil];omega
 ·simp only[i6,List.length_nil];omega
def GU (f:aj):Prop:=f.f0.natAbs<=4611686018427387904/\fR 4611686018427387904 f.f1/\f.f1.length<=1000/\∀t∈f.f1,t.f0.size<=100
theorem Sq {B:Nat}:∀{l:List ay},fR B l->kN l<=B:=by
 intro l
 refine wR (p:=fun l=>fR B l->kN l<=B) (fun _=>Nat.zero_le _) (fun l t ih h=>?_) l
 have ih':=ih (fun u hu=>h u (by simp[hu]))
 have ht:=h t tA2
 rw[Mv]
 by_cases e:t.f1=0
 ·rw[e]
  simpa using ih'
 ·exact bj (Nat.le_of_dvd tA0 (Int.gcd_dvd_natAbs_right _ _)) ht
theorem Qy {A X:Option Addr}{c cX B:Nat}{f:aj}{W:World}{out:List aj}(hr:Kd.C bc W X out.length out)(hB:W.heap[B]?=some (.cells #[.int .i64 f.f0,.slice A f.f1.length c] 33 (0,0)))(hf:Kd.C cf W A f.f1.length f.f1)(hc:f.f1.length<=c):
  Calls Tryz.prog 129 #[.slice X out.length cX,.func (.func 136) #[] #[.pointer (some ⟨B,0,none⟩)]] W fun e w'=>∃r:Int,e= .returned (.int .i64 r)/\((r= -1/\af (∀x∈out,x.f1≠f.f1))\/∃i:Nat,r=(i:Int)/\i<out.length/\af (∀x∈out.take i,x.f1≠f.f1)/\af ((out.getD i z33).f1=f.f1))/\Below W.heap.size W w':=
 (ah1 hr hB hf hc).mono fun e w' ⟨r,he,hr,hb⟩=>⟨r,he,hr.imp (fun h=>⟨h.1,⟨h.2⟩⟩) (fun⟨i,h1,h2,h3,h4⟩=>⟨i,h1,h2,⟨h3⟩,⟨h4⟩⟩),hb⟩
theorem Y5 {W W':World}(hd:aR W W'):Below W.heap.size W W':=py (Below.refl _ _) hd
def tv (g:Nat)(l:List ay)(j:Nat):List ay:=(l.take j).map (fun t=>⟨t.f0,t.f1.tdiv (g:Int)⟩)++l.drop j
theorem akR (g:Nat)(l:List ay)(j:Nat):(tv g l j).length=l.length:=by
 unfold tv
 rw[fZ,fc,<- fZ,List.take_append_drop]
theorem Za (g:Nat)(l:List ay)(j:Nat)(h:j<l.length):(tv g l j).getD j z79=l.getD j z79:=by
 have hl:((l.take j).map (fun t:ay=>(⟨t.f0,t.f1.tdiv (g:Int)⟩:ay))).length=j:=by rw[fc,bQ];omega
 unfold tv
 simp only[List.getD]
 rw[List.getElem?_append_right tA0,hl,Nat.sub_self,List.getElem?_drop,Nat.add_zero]
theorem akS (g:Nat)(l:List ay)(j:Nat)(h:j<l.length):(tv g l j).set j ⟨(l.getD j z79).f0,(l.getD j z79).f1.tdiv (g:Int)⟩=tv g l (j+1):=by
 have hl:((l.take j).map (fun t:ay=>(⟨t.f0,t.f1.tdiv (g:Int)⟩:ay))).length=j:=by rw[fc,bQ];omega
 have e1:l.getD j z79=l[j]:=by simp[List.getD,b8 h]
 unfold tv
 rw[List.set_append_right _ _ tA0,hl,Nat.sub_self,lF h,List.set_cons_zero,kr h,List.map_append,e1]
 simp
theorem ad4 {A:Option Addr}{c:Nat}{l:List aj}{w:World}(h:Kd.C bc w A l.length l)(hl:l.length<=1000)(hf:∀f∈l,GU f):
  Calls Tryz.prog 84 #[.slice A l.length c] w fun e w'=>∃X cap,e= .returned (.slice X (dT l).length cap)/\Kd.N bc 33 w' w.heap.size (fun k=>w.heap.size<=k) (.slice X (dT l).length cap) (dT l)/\Below w.heap.size w w':=by
 have bT:=ae h
 have br:=ae hl
 have fX:=ae hf
 clear h hl hf
 go_enter Tryz.func84,Tryz.ntmps84
 go_wp2
 go_loopg [3,5,6,8,9,10,13,20,41,62,70] l.length (fun bL kD _ _ _ _ _ yL _ _ _ _ wr=>∃kk:Nat,kk<=l.length/\l.length-kk<=bL/\yL= .int .i64 kk/\af (Kd.N bc 33 wr w.heap.size (fun k=>w.heap.size<=k) kD (dT (l.take kk)))/\af (Below w.heap.size w wr))
 case atStart=>exact⟨0,Nat.zero_le _,tA0,rfl,⟨Kd.i1 _ _ _ _ _⟩,⟨Below.refl _ _⟩⟩
 case round=>
  obtain⟨kk,eO,hg,rfl,bm,bA⟩:=hrel
  generalize mM:wr=aA at *
  clear mM
  obtain⟨fu,eo,rfl⟩:=Kd.c3 bm.o
  have hsw:=bA.o.size
  have axd:=br.o
  have iL:af (∀k,(Value.slice fu (dT (l.take kk)).length eo).ownBlock=some k->k<aA.heap.size):=⟨fun k hk=>by
   obtain⟨cells,hc⟩:=Kd.tq bm.o k hk
   exact az hc⟩
  have jB:af ((dT (l.take kk)).length<=1000):=⟨by have:=ad3 (l.take kk);rw[bQ]at this;have:=br.o;omega⟩
  by_cases hlt:kk<l.length
  ·have cp:(kk:Int)< (l.length:Int):=by omega
   obtain⟨ad,aN,c1,e,x0,x1,fF,yT⟩:=rh bT.o (kk:Int) tA0 tA0
   cases e
   simp only[eQ]at x0 x1
   replace x0:=bw bA.o x0
   replace x1:=bw bA.o x1
   have b9:af (dT (l.take (kk+1))=tS (dT (l.take kk)) (bH l (kk:Int))):=⟨by rw[sT hlt,Vp]⟩
   have jK:=ae (fX.o _ (sL l kk hlt))
   have XE:=ae (Kd.bN yT bA.o)
   have iA:=ae fF
   clear yT fF
   generalize bH l (kk:Int)=f at *
   generalize dT (l.take kk)=out at *
   have bR:=ae (ax (Below.refl aA.heap.size aA) (.cells #[.int .i64 f.f0,.slice aN f.f1.length c1] 33))
   have dh:=ae (a8 aA (.cells #[.int .i64 f.f0,.slice aN f.f1.length c1] 33))
   go_wp2
   generalize z1:aA.alloc (.cells #[.int .i64 f.f0,.slice aN f.f1.length c1] 33)=w1 at *
   clear z1
   go_loopg [6,8,20] f.f1.length (fun bL qG _ U6 w2=>∃jj:Nat,jj<=f.f1.length/\f.f1.length-jj<=bL/\U6= .int .i64 jj/\qG= .int .i64 (kN (f.f1.take jj):Nat)/\af (Below w1.heap.size w1 w2))
   case atStart=>exact⟨0,Nat.zero_le _,tA0,rfl,rfl,⟨Below.refl _ _⟩⟩
   case round=>
    obtain⟨jj,yt,hg2,rfl,rfl,aI⟩:=hrel
    generalize hw2:wr=w2 at *
    clear hw2
    have S6:=jK.o.2.2.1
    have cq:=ae (av dh.o aI.o)
    have uv:=ae (au bR.o aI.o)
    by_cases nR:jj<f.f1.length
    ·have vg:(jj:Int)< (f.f1.length:Int):=by omega
     obtain⟨Rh,e,z0,c2⟩:=jD (Kd.bN XE.o uv.o) (jj:Int) tA0 tA0
     cases e
     simp only[eQ]at z0 c2
     have iM:=ae (N9 nR)
     have q9:=ae (jK.o.2.1 _ (Ah f.f1 jj nR))
     have pc:af (kN (f.f1.take jj)<=4611686018427387904):=⟨Sq (fun t ht=>jK.o.2.1 t (List.mem_of_mem_take ht))⟩
     generalize aJ f.f1 (jj:Int)=t at *
     obtain⟨t0,t1⟩:=t
     have uD:af (∀W:World,Calls Tryz.prog 134 #[.int .i64 (kN (f.f1.take jj):Nat),.int .i64 t1] W _):=⟨fun W=>sI.calls _ _ _ _ W (akz _ _ (by have:=pc.o;omega) q9.o)⟩
     go_wp2_with (go_at_call 134;with_reducible(refine(uD.o _).mono ?_);rintro e w3 ⟨rfl,hd⟩;have bS:=ae (au (ax aI.o (.cells #[.string t0,.int .i64 t1] 79)) hd))
     go_roundg (f.f1.length- (jj+1))
     case measure=>omega
     case rel=>exact⟨jj+1,tA0,tA0,tA7,by rw[iM.o,Mv],bS⟩
    ·have mG:jj=f.f1.length:=by omega
     subst mG
     rw[fJ]
     have vg:¬ (f.f1.length:Int)< (f.f1.length:Int):=tA0
     have aK:w2.cell? ⟨aA.heap.size,0,none⟩=some (.int .i64 f.f0):=ah cq.o 0
     have aC:w2.cell? ⟨aA.heap.size,1,none⟩=some (.slice aN f.f1.length c1):=ah cq.o 1
     have eJ:=ae (Uj (f:=f) (c:=c1) (w:=w2) ⟨Kd.bN XE.o uv.o,iA.o,jK.o.2.2.1,jK.o.2.2.2⟩)
     obtain⟨g,HG⟩:∃g,af (kN f.f1=g):=⟨_,⟨rfl⟩⟩
     rw[HG.o]
     by_cases hg0:g=0
     ·have MP:¬ (0:Int)< (g:Int):=by omega
      have aw5:((g:Int)==0)=true:=by rw[hg0];rfl
      subst hg0
      by_cases hc0:0<=f.f0
      ·have Bc:af (dT (l.take (kk+1))=out):=⟨by rw[b9.o,tS,if_pos (show tB f=true from bn ⟨HG.o,hc0⟩)]⟩
       go_wp2_with (first|(go_at_call 79;with_reducible(refine eJ.o.mono ?_);rintro e w3 ⟨X,cap,rfl,hN,hb⟩;have bS:=ae (au uv.o hb);have b3:=av cq.o hb;have z0:w3.cell? ⟨aA.heap.size,0,none⟩=some (.int .i64 f.f0):=(mj b3 0).trans rfl;have c2:w3.cell? ⟨aA.heap.size,1,none⟩=some (.slice aN f.f1.length c1):=(mj b3 1).trans rfl;have g0:=ar b3 0;have g1:=ar b3 1;have l3:=az b3;have dL:=ae (a6 (a6 b3 0 (.int .i64 f.f0) rfl) 1 (.slice X f.f1.length cap) rfl);have s5:=ae ((bS.o.setCell (p:=⟨aA.heap.size,0,none⟩) (bl _) (.int .i64 f.f0)).setCell (p:=⟨aA.heap.size,1,none⟩) (bl _) (.slice X f.f1.length cap));have ki:=ae (fun(k:Nat) (hk:some k=(Value.slice X f.f1.length cap).ownBlock)=>fy (az cq.o) (Kd.eK hN k hk.symm));have nG:=ae (Kd.cw (p:=⟨aA.heap.size,1,none⟩) (Kd.cw (p:=⟨aA.heap.size,0,none⟩) hN (fun k hk=>Nat.ne_of_gt (ki.o k hk)) (.int .i64 f.f0)) (fun k hk=>Nat.ne_of_gt (ki.o k hk)) (.slice X f.f1.length cap));clear hN hb b3)|(go_at_call 129;with_reducible(refine(Qy (f:=f) (c:=cap) (cX:=eo) (Kd.ej (Kd.dz bm.o s5.o)).2.2 dL.o (Kd.ej nG.o).2.2 (Kd.ej nG.o).2.1).mono ?_);rintro e aY ⟨r,rfl,hr,hb⟩;have hE:=ae (av dL.o hb);have cP:=ae (au s5.o hb);have dr:=ae (Kd.dz nG.o hb);have rY:=ae (Kd.dz bm.o cP.o);have qN:=ae (au bA.o cP.o);have aeE:aY.cell? ⟨aA.heap.size,0,none⟩=some (.int .i64 f.f0):=(mj hE.o 0).trans rfl;have aeF:aY.cell? ⟨aA.heap.size,1,none⟩=some (.slice X f.f1.length cap):=(mj hE.o 1).trans rfl;clear hb;clear hr))
       go_roundg (l.length- (kk+1))
       case measure=>omega
       case rel=>exact⟨kk+1,tA0,tA0,tA7,⟨by rw[Bc.o];exact rY.o⟩,qN⟩
      ·have HST:af (tS out f=mr out ⟨f.f0,f.f1⟩):=⟨by
        rw[tS,if_neg (fun h:tB f=true=>hc0 (bg h).2),rC,if_neg (by rw[HG.o];omega)]⟩
       have hc1:¬ f.f0>=0:=hc0
       go_wp2_with (first|(go_at_call 79;with_reducible(refine eJ.o.mono ?_);rintro e w3 ⟨X,cap,rfl,hN,hb⟩;have bS:=ae (au uv.o hb);have b3:=av cq.o hb;have z0:w3.cell? ⟨aA.heap.size,0,none⟩=some (.int .i64 f.f0):=(mj b3 0).trans rfl;have c2:w3.cell? ⟨aA.heap.size,1,none⟩=some (.slice aN f.f1.length c1):=(mj b3 1).trans rfl;have g0:=ar b3 0;have g1:=ar b3 1;have l3:=az b3;have dL:=ae (a6 (a6 b3 0 (.int .i64 f.f0) rfl) 1 (.slice X f.f1.length cap) rfl);have s5:=ae ((bS.o.setCell (p:=⟨aA.heap.size,0,none⟩) (bl _) (.int .i64 f.f0)).setCell (p:=⟨aA.heap.size,1,none⟩) (bl _) (.slice X f.f1.length cap));have ki:=ae (fun(k:Nat) (hk:some k=(Value.slice X f.f1.length cap).ownBlock)=>fy (az cq.o) (Kd.eK hN k hk.symm));have nG:=ae (Kd.cw (p:=⟨aA.heap.size,1,none⟩) (Kd.cw (p:=⟨aA.heap.size,0,none⟩) hN (fun k hk=>Nat.ne_of_gt (ki.o k hk)) (.int .i64 f.f0)) (fun k hk=>Nat.ne_of_gt (ki.o k hk)) (.slice X f.f1.length cap));clear hN hb b3)|(go_at_call 129;with_reducible(refine(Qy (f:=f) (c:=cap) (cX:=eo) (Kd.ej (Kd.dz bm.o s5.o)).2.2 dL.o (Kd.ej nG.o).2.2 (Kd.ej nG.o).2.1).mono ?_);rintro e aY ⟨r,rfl,hr,hb⟩;have hE:=ae (av dL.o hb);have cP:=ae (au s5.o hb);have dr:=ae (Kd.dz nG.o hb);have rY:=ae (Kd.dz bm.o cP.o);have qN:=ae (au bA.o cP.o);have aeE:aY.cell? ⟨aA.heap.size,0,none⟩=some (.int .i64 f.f0):=(mj hE.o 0).trans rfl;have aeF:aY.cell? ⟨aA.heap.size,1,none⟩=some (.slice X f.f1.length cap):=(mj hE.o 1).trans rfl;clear hb;obtain⟨rfl,hno⟩|⟨i,rfl,hi,hno,hat⟩:=hr)|(at_builtin;(refine Kd.oF bc w.heap.size rfl (.tmp 58) (.tmp 60) 27 33 (.agg #[.int .i64 0,.slice none 0 0]) 32 rfl Tryz.underlying27 jR rfl tA3 tA3 (.slice fu out.length eo) out ⟨f.f0,f.f1⟩ [.int .i64 (f.f0),.slice X (f.f1).length cap] (fun k=>w.heap.size<=k) (fun k=>aA.heap.size<=k) rfl rfl (Kd.nx (tz dr.o) (fun k hk=>bj uv.o.size hk)) (fun k hk=>⟨bj hsw hk,fun e=>by have:=iL.o k e.symm;omega⟩) (fun k hk=>bj qN.o.size hk) rY.o qN.o qN.o.size tAp ?_;intro v7 bt iG oL qy u7;have je:=ae iG;have eh:=ae oL;clear iG oL qy u7)))
       ·go_roundg (l.length- (kk+1))
        case measure=>omega
        case rel=>exact⟨kk+1,tA0,tA0,tA7,⟨tE1⟩,eh⟩
       ·obtain⟨G,rfl,SB,al6,al7,al8⟩:=LA rY.o (fun e=>tE6)
        obtain⟨cur,oO,_⟩:=Lv rY.o
        have alA:=ar oO (i * 2)
        obtain⟨ajH,aeN,aj9,IB,VK,_,_,_⟩:=rh (Kd.ej rY.o).2.2 (i:Int) tA0 tA0
        simp only[Option.some.injEq]at IB
        subst IB
        simp only[eQ,add_plain]at VK
        have Ph:af (G≠aA.heap.size):=⟨fun e=>tDu⟩
        have al9:¬ G=aA.heap.size:=Ph.o
        have lv:af (bH out (i:Int)=out.getD i z33):=⟨by simp[bH]⟩
        have zk:=ae (fun(m:Int) (q:Nat)=>X4 (Kd.Lx rY.o q) i hi m)
        rw[<- lv.o]at zk
        have vM:=ae (UR (f:=⟨f.f0,f.f1⟩) hi hno.o hat.o)
        rw[<- lv.o]at vM
        generalize bH out (i:Int)=y at *
        have IY:(i:Int)< (out.length:Int):=tA0
        have ru:(0:Int)<=(i:Int):=tA0
        clear oO
        go_wp2
        go_region_law (fail)
        all_goals
         go_wp2
         go_roundg (l.length- (kk+1))
         case measure=>omega
         case rel=>exact⟨kk+1,tA0,tA0,tA7,⟨by rw[b9.o,HST.o,vM.o];exact zk.o _ _⟩,⟨(eG qN.o _).setCell (p:=⟨G,i * 2,none⟩) SB _⟩⟩
     ·have MP:(0:Int)< (g:Int):=by omega
      have Td:¬ (g:Int)=0:=tA0
      have hgb:((g:Int)==0)=false:=ey.2 Td
      have pW:af (f.f1≠[]):=⟨fun e=>hg0 (by rw[<- HG.o,e];rfl)⟩
      obtain⟨q,dK⟩:∃q,af (f.f0 / (g:Int)=q):=⟨_,⟨rfl⟩⟩
      obtain⟨kH,kV⟩:∃kH,af (f.f1.map (fun t=>(⟨t.f0,t.f1.tdiv (g:Int)⟩:ay))=kH):=⟨_,⟨rfl⟩⟩
      have HST:af (tS out f=mr out ⟨q,kH⟩):=⟨by
       rw[tS,if_neg (fun h:tB f=true=>hg0 (HG.o.symm.trans (bg h).1)),rC,if_pos (by rw[HG.o];omega),HG.o,dK.o,kV.o]⟩
      have O8:=ae (fun(W:World)=>Jz.calls f.f0 (g:Int) q W ((akP f.f0 (g:Int) jK.o.1 MP).trans (congrArg some dK.o)))
      go_wp2_with (first|(go_at_call 79;with_reducible(refine eJ.o.mono ?_);rintro e w3 ⟨X,cap,rfl,hN,hb⟩;have bS:=ae (au uv.o hb);have b3:=av cq.o hb;have z0:w3.cell? ⟨aA.heap.size,0,none⟩=some (.int .i64 f.f0):=(mj b3 0).trans rfl;have c2:w3.cell? ⟨aA.heap.size,1,none⟩=some (.slice aN f.f1.length c1):=(mj b3 1).trans rfl;have g0:=ar b3 0;have g1:=ar b3 1;have l3:=az b3;have dL:=ae (a6 (a6 b3 0 (.int .i64 f.f0) rfl) 1 (.slice X f.f1.length cap) rfl);have s5:=ae ((bS.o.setCell (p:=⟨aA.heap.size,0,none⟩) (bl _) (.int .i64 f.f0)).setCell (p:=⟨aA.heap.size,1,none⟩) (bl _) (.slice X f.f1.length cap));have ki:=ae (fun(k:Nat) (hk:some k=(Value.slice X f.f1.length cap).ownBlock)=>fy (az cq.o) (Kd.eK hN k hk.symm));have nG:=ae (Kd.cw (p:=⟨aA.heap.size,1,none⟩) (Kd.cw (p:=⟨aA.heap.size,0,none⟩) hN (fun k hk=>Nat.ne_of_gt (ki.o k hk)) (.int .i64 f.f0)) (fun k hk=>Nat.ne_of_gt (ki.o k hk)) (.slice X f.f1.length cap));clear hN hb b3)|(go_at_call 135;with_reducible(refine(O8.o _).mono ?_);rintro e w4 ⟨rfl,hd⟩;have zO:=Y5 hd;have hE:=ae (a6 (av dL.o zO) 0 (.int .i64 q) rfl);have Wv:=ae ((au s5.o zO).setCell (p:=⟨aA.heap.size,0,none⟩) (bl _) (.int .i64 q));have je:=ae (Kd.cw (p:=⟨aA.heap.size,0,none⟩) (Kd.dz nG.o zO) (fun k hk=>Nat.ne_of_gt (ki.o k hk)) (.int .i64 q));have atc:w4.cell? ⟨aA.heap.size,0,none⟩=some (.int .i64 f.f0):=(mj (av dL.o zO) 0).trans rfl;have atd:w4.cell? ⟨aA.heap.size,1,none⟩=some (.slice X f.f1.length cap):=(mj (av dL.o zO) 1).trans rfl;have f40:=ar (av dL.o zO) 0;have apt:=az (av dL.o zO);clear hd zO))
      obtain⟨Y,akd,IC,_,amk,yl⟩:=cn.FZ je.o pW.o
      simp only[Value.slice.injEq]at IC
      obtain⟨rfl,_,rfl⟩:=IC
      have nJ:af (aA.heap.size<Y):=⟨ki.o Y tBw⟩
      have Xv:=ae yl
      clear yl amk atc atd f40 apt aK aC
      go_loopg [9,41] f.f1.length (fun bL _ Va wr=>∃jj:Nat,jj<=f.f1.length/\f.f1.length-jj<=bL/\Va= .int .i64 jj/\af (cn wr Y cap (tv g f.f1 jj))/\af (wr.heap[aA.heap.size]?=some (.cells #[.int .i64 q,.slice (some ⟨Y,0,none⟩) f.f1.length cap] 33 (0,0)))/\af (Below aA.heap.size aA wr))
      case atStart=>exact⟨0,Nat.zero_le _,tA0,rfl,Xv,hE,Wv⟩
      case round=>
       clear dL hE s5 Wv nG je Xv
       obtain⟨jj,yt,hg3,rfl,zq,dL,s5⟩:=hrel
       generalize aoy:wr=aZ at *
       clear aoy
       have azo:aZ.cell? ⟨aA.heap.size,0,none⟩=some (.int .i64 q):=ah dL.o 0
       have azp:aZ.cell? ⟨aA.heap.size,1,none⟩=some (.slice (some ⟨Y,0,none⟩) f.f1.length cap):=ah dL.o 1
       have eD:=az dL.o
       by_cases ve:jj<f.f1.length
       ·have Tr:(jj:Int)< (f.f1.length:Int):=by omega
        have c1:=zq.o.cell1 (j:=jj) (by rw[akR];exact ve)
        have IH:=zq.o.frozen (jj * 2+1)
        have apu:=zq.o.lt
        rw[Za _ _ _ ve]at c1
        have ahw:af (∀W:World,cn W Y cap (tv g f.f1 jj)->cn (W.setCell ⟨Y,jj * 2+1,none⟩ (.int .i64 ((f.f1.getD jj z79).f1.tdiv (g:Int)))) Y cap (tv g f.f1 (jj+1))):=⟨fun W h=>by
         have h1:=h.adv jj ((f.f1.getD jj z79).f1.tdiv (g:Int))
         rw[Za _ _ _ ve,akS _ _ _ ve]at h1
         exact h1⟩
        have yu:f.f1.getD jj z79∈f.f1:=by
         simp only[List.getD,b8 ve,Option.getD_some]
         exact List.getElem_mem ve
        have q9:=ae (Oa _ (g:Int) (jK.o.2.1 _ yu))
        clear yu
        generalize f.f1.getD jj z79=t at *
        obtain⟨t0,t1⟩:=t
        have Bv:af (wrap64 (t1.tdiv (g:Int))=t1.tdiv (g:Int)):=⟨eM _ tBk⟩
        have aml:¬ aA.heap.size=Y:=by have:=nJ.o;omega
        have aur:¬ Y=aA.heap.size:=by have:=nJ.o;omega
        go_wp2
        go_roundg (f.f1.length- (jj+1))
        case measure=>omega
        case rel=>exact⟨jj+1,tA0,tA0,tA7,⟨by rw[Bv.o];exact ahw.o _ zq.o⟩,⟨(jZ _ ⟨Y,jj * 2+1,none⟩ _ _ aml).trans dL.o⟩,⟨s5.o.setCell (p:=⟨Y,jj * 2+1,none⟩) (Nat.le_of_lt nJ.o) _⟩⟩
       ·have R9:jj=f.f1.length:=by omega
        subst R9
        have Z1:tv g f.f1 f.f1.length=kH:=by
         rw[<- kV.o]
         unfold tv
         rw[fJ,List.drop_length,List.append_nil]
        have hT:=zq.o
        rw[Z1]at hT
        have KS:af (kH.length=f.f1.length):=⟨by rw[<- kV.o,fc]⟩
        have iG:=cn.Gs hT (Nat.le_of_lt nJ.o)
        rw[<- JJ (n:=kH.length) (c:=cap)]at iG
        have SK:=dL.o
        rw[<- KS.o]at SK
        have nG:=ae iG
        have KJ:=ae (Qy (f:=⟨q,kH⟩) (c:=cap) (cX:=eo) (Kd.ej (Kd.dz bm.o s5.o)).2.2 SK (Kd.ej iG).2.2 (Kd.ej iG).2.1)
        have Tr:¬ (f.f1.length:Int)< (f.f1.length:Int):=tA0
        clear Z1 hT iG SK zq
        go_wp2_with (first|(go_at_call 129;with_reducible(refine KJ.o.mono ?_);rintro e aY ⟨r,rfl,hr,hb⟩;have hE:=ae (av dL.o hb);have cP:=ae (au s5.o hb);have dr:=ae (Kd.dz nG.o hb);have e8:=ae (tz (a:=q) dr.o);rw[KS.o]at e8;have rY:=ae (Kd.dz bm.o cP.o);have qN:=ae (au bA.o cP.o);have aeE:aY.cell? ⟨aA.heap.size,0,none⟩=some (.int .i64 q):=(mj hE.o 0).trans rfl;have aeF:aY.cell? ⟨aA.heap.size,1,none⟩=some (.slice (some ⟨Y,0,none⟩) f.f1.length cap):=(mj hE.o 1).trans rfl;clear hb;obtain⟨rfl,hno⟩|⟨i,rfl,hi,hno,hat⟩:=hr)|(at_builtin;(refine Kd.oF bc w.heap.size rfl (.tmp 58) (.tmp 60) 27 33 (.agg #[.int .i64 0,.slice none 0 0]) 32 rfl Tryz.underlying27 jR rfl tA3 tA3 (.slice fu out.length eo) out ⟨q,kH⟩ [.int .i64 (q),.slice (some ⟨Y,0,none⟩) f.f1.length cap] (fun k=>w.heap.size<=k) (fun k=>aA.heap.size<=k) rfl rfl e8.o (fun k hk=>⟨bj hsw hk,fun e=>by have:=iL.o k e.symm;omega⟩) (fun k hk=>bj qN.o.size hk) rY.o qN.o qN.o.size tAp ?_;intro v7 bt iG oL qy u7;have je:=ae iG;have eh:=ae oL;clear iG oL qy u7)))
        ·go_roundg (l.length- (kk+1))
         case measure=>omega
         case rel=>exact⟨kk+1,tA0,tA0,tA7,⟨tE1⟩,eh⟩
        ·obtain⟨G,rfl,SB,al6,al7,al8⟩:=LA rY.o (fun e=>tE6)
         obtain⟨cur,oO,_⟩:=Lv rY.o
         have alA:=ar oO (i * 2)
         obtain⟨ajH,aeN,aj9,IB,VK,_,_,_⟩:=rh (Kd.ej rY.o).2.2 (i:Int) tA0 tA0
         simp only[Option.some.injEq]at IB
         subst IB
         simp only[eQ,add_plain]at VK
         have Ph:af (G≠aA.heap.size):=⟨fun e=>tDu⟩
         have al9:¬ G=aA.heap.size:=Ph.o
         have lv:af (bH out (i:Int)=out.getD i z33):=⟨by simp[bH]⟩
         have zk:=ae (fun(m:Int) (q:Nat)=>X4 (Kd.Lx rY.o q) i hi m)
         rw[<- lv.o]at zk
         have vM:=ae (UR (f:=⟨q,kH⟩) hi hno.o hat.o)
         rw[<- lv.o]at vM
         generalize bH out (i:Int)=y at *
         have IY:(i:Int)< (out.length:Int):=tA0
         have ru:(0:Int)<=(i:Int):=tA0
         clear oO
         go_wp2
         go_region_law (fail)
         all_goals
          go_wp2
          go_roundg (l.length- (kk+1))
          case measure=>omega
          case rel=>exact⟨kk+1,tA0,tA0,tA7,⟨by rw[b9.o,HST.o,vM.o];exact zk.o _ _⟩,⟨(eG qN.o _).setCell (p:=⟨G,i * 2,none⟩) SB _⟩⟩
  ·have cp:¬ (kk:Int)< (l.length:Int):=by omega
   have di:kk=l.length:=tA0
   have jA:=bm.o
   rw[di,fJ]at jA
   have qW:=ae jA
   clear bm jA jB
   subst di
   rw[fJ]
   go_wp2
   go_ret
   exact⟨fu,eo,rfl,qW.o,bA.o⟩
section
variable {A A':Option Addr}{c c':Nat}{l0:List aq}{l1:List aj}{w:World}
theorem arB (h:cD A c l0 A' c' l1 w)(e0:cQ l0 l1=0):
  Calls Tryz.prog 80 #[.agg #[.slice A l0.length c,.slice A' l1.length c']] w fun e w'=>e= .returned (.tuple #[.agg #[.slice A l0.length c,.slice A' l1.length c'],.int .i64 0])/\Below w.heap.size w w':=by
 have bI:=ae (ax (ax (Below.refl w.heap.size w) (.cells #[.slice A l0.length c,.slice A' l1.length c'] 29)) (.cells #[.slice none 0 0,.slice none 0 0] 29))
 have cJ:=ae (aH (a8 w (.cells #[.slice A l0.length c,.slice A' l1.length c'] 29)) (.cells #[.slice none 0 0,.slice none 0 0] 29))
 have cq:=ae (by simpa using a8 (w.alloc (.cells #[.slice A l0.length c,.slice A' l1.length c'] 29)) (.cells #[.slice none 0 0,.slice none 0 0] 29):((w.alloc (.cells #[.slice A l0.length c,.slice A' l1.length c'] 29)).alloc (.cells #[.slice none 0 0,.slice none 0 0] 29)).heap[w.heap.size+1]?=some (.cells #[.slice none 0 0,.slice none 0 0] 29))
 have HC:=ae (Ep (h.below bI.o))
 have a7:=ae h
 rw[e0]at HC
 clear h e0
 go_enter Tryz.func80,Tryz.ntmps80
 go_wp2_with (go_at_call 51;refine HC.o.mono ?_;rintro e w2 ⟨rfl,hb⟩;have aI:=ae (au bI.o hb);have b1:=av cJ.o hb;have b2:=av cq.o hb;have aK:w2.cell? ⟨w.heap.size,0,none⟩=some (.slice A l0.length c):=(mj b1 0).trans rfl;have aC:w2.cell? ⟨w.heap.size,1,none⟩=some (.slice A' l1.length c'):=(mj b1 1).trans rfl;have x0:w2.cell? ⟨w.heap.size+1,0,none⟩=some (.slice none 0 0):=(mj b2 0).trans rfl;have x1:w2.cell? ⟨w.heap.size+1,1,none⟩=some (.slice none 0 0):=(mj b2 1).trans rfl;have IG:=ar b2 0;have IH:=ar b2 1;have l8:=ae b2;clear b1 b2 hb HC)
 have q1:=a6 (a6 l8.o 0 (.slice A l0.length c) rfl) 1 (.slice A' l1.length c') rfl
 refine bodyPost_ret (sQ rfl _ _ (w.heap.size+1) 29 #[.slice A l0.length c,.slice A' l1.length c'] (0,0) _ rfl q1 Tryz.underlying29 rfl tA1) rfl ?_
 have hb:=(aI.o.setCell (p:=⟨w.heap.size+1,0,none⟩) (Nat.le_succ _) (.slice A l0.length c)).setCell (p:=⟨w.heap.size+1,1,none⟩) (Nat.le_succ _) (.slice A' l1.length c')
 exact⟨rfl,hb⟩
theorem arA (h:cD A c l0 A' c' l1 w)(e0:¬ cQ l0 l1=0):
  Calls Tryz.prog 80 #[.agg #[.slice A l0.length c,.slice A' l1.length c']] w fun e w'=>e= .returned (.tuple #[.agg #[.slice none 0 0,.slice none 0 0],.int .i64 (cQ l0 l1)])/\Below w.heap.size w w':=by
 have bI:=ae (ax (ax (Below.refl w.heap.size w) (.cells #[.slice A l0.length c,.slice A' l1.length c'] 29)) (.cells #[.slice none 0 0,.slice none 0 0] 29))
 have cJ:=ae (aH (a8 w (.cells #[.slice A l0.length c,.slice A' l1.length c'] 29)) (.cells #[.slice none 0 0,.slice none 0 0] 29))
 have cq:=ae (by simpa using a8 (w.alloc (.cells #[.slice A l0.length c,.slice A' l1.length c'] 29)) (.cells #[.slice none 0 0,.slice none 0 0] 29):((w.alloc (.cells #[.slice A l0.length c,.slice A' l1.length c'] 29)).alloc (.cells #[.slice none 0 0,.slice none 0 0] 29)).heap[w.heap.size+1]?=some (.cells #[.slice none 0 0,.slice none 0 0] 29))
 have HC:=ae (Ep (h.below bI.o))
 have a7:=ae h
 obtain⟨r,e2⟩:∃r,cQ l0 l1=r:=⟨_,rfl⟩
 rw[e2]at HC ⊢
 have hr:r≠0:=fun h=>e0 (e2.trans h)
 have zZ:(r !=0)=true:=bne_iff_ne.2 hr
 clear h e0 e2
 go_enter Tryz.func80,Tryz.ntmps80
 go_wp2_with (go_at_call 51;refine HC.o.mono ?_;rintro e w2 ⟨rfl,hb⟩;have aI:=ae (au bI.o hb);have b2:=av cq.o hb;have x0:w2.cell? ⟨w.heap.size+1,0,none⟩=some (.slice none 0 0):=(mj b2 0).trans rfl;have x1:w2.cell? ⟨w.heap.size+1,1,none⟩=some (.slice none 0 0):=(mj b2 1).trans rfl;have IG:=ar b2 0;have IH:=ar b2 1;have l8:=ae b2;clear b2 hb HC)
 have q1:=a6 (a6 l8.o 0 (.slice none 0 0) rfl) 1 (.slice none 0 0) rfl
 refine bodyPost_ret (sQ rfl _ _ (w.heap.size+1) 29 #[.slice none 0 0,.slice none 0 0] (0,0) _ rfl q1 Tryz.underlying29 rfl tA1) rfl ?_
 have hb:=(aI.o.setCell (p:=⟨w.heap.size+1,0,none⟩) (Nat.le_succ _) (.slice none 0 0)).setCell (p:=⟨w.heap.size+1,1,none⟩) (Nat.le_succ _) (.slice none 0 0)
 exact⟨rfl,hb⟩
def Names (l0:List aq)(l1:List aj):Prop:=(∀s∈l0,s.f0.size<=100)/\l1.length<=1000/\∀f∈l1,f.f1.length<=1000/\∀t∈f.f1,t.f0.size<=100
theorem Names.nil:Names [] []:=⟨tA2,tA2,tA2⟩
theorem cD.names (h:cD A c l0 A' c' l1 w):Names l0 l1:=⟨h.n1,h.n2,h.n3⟩
theorem yN {base:Nat}{ok ok':Nat->Prop}(h0:Kd.N cu 77 w base ok (.slice A l0.length c) l0)(h1:Kd.N bc 33 w base ok' (.slice A' l1.length c') l1)(hn:Names l0 l1):cD A c l0 A' c' l1 w:=
 ⟨(Kd.ej h0).2.2,(Kd.ej h0).2.1,(Kd.ej h1).2.2,(Kd.ej h1).2.1,hn.1,hn.2.1,hn.2.2⟩
theorem NW {r0:List aq}{r1:List aj}{r:Int}(hn:Names l0 l1)(e:lO l0 l1=(r0,r1,r)):Names r0 r1:=by
 unfold lO at e
 by_cases e0:cQ l0 l1=0
 ·rw[if_pos e0]at e
  simp only[Prod.mk.injEq]at e
  rw[<- e.1,<- e.2.1]
  exact hn
 ·rw[if_neg e0]at e
  simp only[Prod.mk.injEq]at e
  rw[<- e.1,<- e.2.1]
  exact Names.nil
theorem NV {base:Nat}{ok ok':Nat->Prop}(h0:Kd.N cu 77 w base ok (.slice A l0.length c) l0)(h1:Kd.N bc 33 w base ok' (.slice A' l1.length c') l1)(hn:Names l0 l1){r0:List aq}{r1:List aj}{r:Int}(e:lO l0 l1=(r0,r1,r)):
  Calls Tryz.prog 80 #[.agg #[.slice A l0.length c,.slice A' l1.length c']] w fun e w'=>∃X cx X' cx',e= .returned (.tuple #[.agg #[.slice X r0.length cx,.slice X' r1.length cx'],.int .i64 r])/\af (Kd.N cu 77 w' base ok (.slice X r0.length cx) r0)/\af (Kd.N bc 33 w' base ok' (.slice X' r1.length cx') r1)/\af (Below w.heap.size w w'):=by
 have h:=yN h0 h1 hn
 unfold lO at e
 by_cases e0:cQ l0 l1=0
 ·rw[if_pos e0]at e
  simp only[Prod.mk.injEq]at e
  obtain⟨rfl,rfl,rfl⟩:=e
  exact(arB h e0).mono fun e w' ⟨he,hb⟩=>⟨A,c,A',c',he,⟨Kd.dz h0 hb⟩,⟨Kd.dz h1 hb⟩,⟨hb⟩⟩
 ·rw[if_neg e0]at e
  simp only[Prod.mk.injEq]at e
  obtain⟨rfl,rfl,rfl⟩:=e
  exact(arA h e0).mono fun e w' ⟨he,hb⟩=>⟨none,0,none,0,he,⟨Kd.i1 _ _ _ _ _⟩,⟨Kd.i1 _ _ _ _ _⟩,⟨hb⟩⟩
end
theorem ap6 (f:aj):(rC f).f1.map (·.f0)=f.f1.map (·.f0):=by
 unfold rC
 split
 ·rw[List.map_map];rfl
 ·rfl
theorem ac6:∀(out:List aj) (f x:aj),x∈mr out f->x.f1=f.f1\/∃y∈out,y.f1=x.f1
 | [],f,x,h=>by
  unfold mr at h
  exact Or.inl (by rw[il.1 h])
 | y::r,f,x,h=>by
  unfold mr at h
  split at h
  ·rcases List.mem_cons.1 h with rfl|h
   ·exact Or.inr ⟨y,List.mem_cons_self,rfl⟩
   ·exact Or.inr ⟨x,jk _ h,rfl⟩
  ·rcases List.mem_cons.1 h with rfl|h
   ·exact Or.inr ⟨x,List.mem_cons_self,rfl⟩
   ·rcases ac6 r f x h with e|⟨z,hz,e⟩
    ·exact Or.inl e
    ·exact Or.inr ⟨z,jk _ hz,e⟩
theorem asI (l:List aj):∀x∈dT l,∃f∈l,x.f1.map (·.f0)=f.f1.map (·.f0):=by
 refine wR (p:=fun l=>∀x∈dT l,∃f∈l,x.f1.map (·.f0)=f.f1.map (·.f0)) (by simp[dT]) (fun l f ih x hx=>?_) l
 rw[Vp,tS]at hx
 split at hx
 ·obtain⟨g,hg,e⟩:=ih x hx
  exact⟨g,List.mem_append_left _ hg,e⟩
 ·rcases ac6 _ _ _ hx with e|⟨y,hy,e⟩
  ·exact⟨f,tA2,by rw[e,ap6]⟩
  ·obtain⟨g,hg,e'⟩:=ih y hy
   exact⟨g,List.mem_append_left _ hg,by rw[<- e,e']⟩
theorem ap3 {a b:List ay}(h:a.map (·.f0)=b.map (·.f0))(hl:b.length<=1000)(hn:∀t∈b,t.f0.size<=100):a.length<=1000/\∀t∈a,t.f0.size<=100:=by
 refine⟨?_,fun t ht=>?_⟩
 ·have:=congrArg List.length h
  simp only[fc]at this
  omega
 ·have:t.f0∈b.map (·.f0):=h▸List.mem_map_of_mem ht
  obtain⟨u,hu,e⟩:=List.mem_map.1 this
  rw[<- e]
  exact hn u hu
theorem J3 {l0:List aq}{l:List aj}(h:Names l0 l):Names l0 (dT l):=
 ⟨h.1,bj (ad3 l) h.2.1,fun x hx=>by
  obtain⟨f,hf,e⟩:=asI l x hx
  exact ap3 e (h.2.2 f hf).1 (h.2.2 f hf).2⟩
theorem asR {l0:List aq}{l1:List aj}(h:cQ l0 l1=0)(hn:Names l0 l1):∀f∈l1,GU f:=fun f hf=>by
 obtain⟨h1,h2,h3⟩:=(iT h).L8 f hf
 exact⟨tA0,fun t ht=>by have:=(h3 t ht).1;omega,(hn.2.2 f hf).1,(hn.2.2 f hf).2⟩
def J2 (l0:List aq)(l1:List aj):List aq×List aj×Int:=if cQ l0 l1=0 then lO l0 (dT l1)else([],[],cQ l0 l1)
def zA (w:World)(r0:List aq)(r1:List aj)(r:Int)(e:Ending)(w':World):Prop:=∃X cx X' cx',e= .returned (.tuple #[.agg #[.slice X r0.length cx,.slice X' r1.length cx'],.int .i64 r])/\cD X cx r0 X' cx' r1 w'/\Below w.heap.size w w'
section
variable {A A':Option Addr}{c c':Nat}{l0:List aq}{l1:List aj}{w:World}
theorem ajn (h:cD A c l0 A' c' l1 w){r0:List aq}{r1:List aj}{r:Int}(e:J2 l0 l1=(r0,r1,r)):
  Calls Tryz.prog 28 #[.agg #[.slice A l0.length c,.slice A' l1.length c']] w (zA w r0 r1 r):=by
 have bI:=ae (ax (ax (Below.refl w.heap.size w) (.cells #[.slice A l0.length c,.slice A' l1.length c'] 29)) (.cells #[.slice none 0 0,.slice none 0 0] 29))
 have cJ:=ae (aH (a8 w (.cells #[.slice A l0.length c,.slice A' l1.length c'] 29)) (.cells #[.slice none 0 0,.slice none 0 0] 29))
 have cq:=ae (by simpa using a8 (w.alloc (.cells #[.slice A l0.length c,.slice A' l1.length c'] 29)) (.cells #[.slice none 0 0,.slice none 0 0] 29):((w.alloc (.cells #[.slice A l0.length c,.slice A' l1.length c'] 29)).alloc (.cells #[.slice none 0 0,.slice none 0 0] 29)).heap[w.heap.size+1]?=some (.cells #[.slice none 0 0,.slice none 0 0] 29 (0,0)))
 have HC:=ae (Ep (h.below bI.o))
 have a7:=ae h
 have jV:=ae h.names
 unfold J2 at e
 by_cases e0:cQ l0 l1=0
 ·rw[if_pos e0]at e
  have bT:=ae e
  have uN:=ae (iT e0)
  have jK:=ae (asR e0 h.names)
  rw[e0]at HC
  clear h e0 e
  go_enter Tryz.func28,Tryz.ntmps28
  go_wp2_with (go_at_call 51;with_reducible(refine HC.o.mono ?_);rintro e w2 ⟨rfl,hb⟩;have aI:=ae (au bI.o hb);have jW:=ae (av cJ.o hb);have l9:=ae (av cq.o hb);have km:af (w.heap.size+2<=w2.heap.size):=⟨by have:=hb.size;simp at this;omega⟩;clear hb)
  have v0:w2.cell? ⟨w.heap.size,0,none⟩=some (.slice A l0.length c):=ah jW.o 0
  have v1:w2.cell? ⟨w.heap.size,1,none⟩=some (.slice A' l1.length c'):=ah jW.o 1
  have fY:af (∀W W':World,(W.cell? ⟨w.heap.size,0,none⟩=some (.slice A l0.length c)/\W.cell? ⟨w.heap.size,1,none⟩=some (.slice A' l1.length c')/\af (Below w.heap.size w W/\w.heap.size+2<=W.heap.size))->Below W.heap.size W W'->(W'.cell? ⟨w.heap.size,0,none⟩=some (.slice A l0.length c)/\W'.cell? ⟨w.heap.size,1,none⟩=some (.slice A' l1.length c')/\af (Below w.heap.size w W'/\w.heap.size+2<=W'.heap.size))):=⟨fun W W' ⟨a,b,e⟩ hb=>⟨bw hb a,bw hb b,⟨au e.o.1 hb,bj e.o.2 hb.size⟩⟩⟩
  have er:af (∀(W:World) (v0 v1:Value),(W.cell? ⟨w.heap.size,0,none⟩=some (.slice A l0.length c)/\W.cell? ⟨w.heap.size,1,none⟩=some (.slice A' l1.length c')/\af (Below w.heap.size w W/\w.heap.size+2<=W.heap.size))->(((W.setCell ⟨w.heap.size+1,0,none⟩ v0).setCell ⟨w.heap.size+1,1,none⟩ v1).cell? ⟨w.heap.size,0,none⟩=some (.slice A l0.length c)/\((W.setCell ⟨w.heap.size+1,0,none⟩ v0).setCell ⟨w.heap.size+1,1,none⟩ v1).cell? ⟨w.heap.size,1,none⟩=some (.slice A' l1.length c')/\af (Below w.heap.size w ((W.setCell ⟨w.heap.size+1,0,none⟩ v0).setCell ⟨w.heap.size+1,1,none⟩ v1)/\w.heap.size+2<=((W.setCell ⟨w.heap.size+1,0,none⟩ v0).setCell ⟨w.heap.size+1,1,none⟩ v1).heap.size))):=⟨fun W v0 v1 ⟨a,b,e⟩=>by
   have hk:Kept W ((W.setCell ⟨w.heap.size+1,0,none⟩ v0).setCell ⟨w.heap.size+1,1,none⟩ v1) (fun k=>k=w.heap.size+1):=fN (p:=⟨w.heap.size+1,1,none⟩) (fN (p:=⟨w.heap.size+1,0,none⟩) (Kept.refl W (fun k=>k=w.heap.size+1)) (.inl rfl) v0) (.inl rfl) v1
   exact⟨wj a hk tCv,wj b hk tCv,⟨(e.o.1.setCell (p:=⟨w.heap.size+1,0,none⟩) (Nat.le_succ _) v0).setCell (p:=⟨w.heap.size+1,1,none⟩) (Nat.le_succ _) v1,bj e.o.2 hk.1⟩⟩⟩
  have kW:af (∀W:World,(W.cell? ⟨w.heap.size,0,none⟩=some (.slice A l0.length c)/\W.cell? ⟨w.heap.size,1,none⟩=some (.slice A' l1.length c')/\af (Below w.heap.size w W/\w.heap.size+2<=W.heap.size))->Below w.heap.size w W):=⟨fun W h=>h.2.2.o.1⟩
  have KP:af (∀W:World,(W.cell? ⟨w.heap.size,0,none⟩=some (.slice A l0.length c)/\W.cell? ⟨w.heap.size,1,none⟩=some (.slice A' l1.length c')/\af (Below w.heap.size w W/\w.heap.size+2<=W.heap.size))->w.heap.size+2<=W.heap.size):=⟨fun W h=>h.2.2.o.2⟩
  have eJ:af (∀W:World,(W.cell? ⟨w.heap.size,0,none⟩=some (.slice A l0.length c)/\W.cell? ⟨w.heap.size,1,none⟩=some (.slice A' l1.length c')/\af (Below w.heap.size w W/\w.heap.size+2<=W.heap.size))->Calls Tryz.prog 83 #[.slice A l0.length c] W fun e w'=>∃X cap,e= .returned (.slice X l0.length cap)/\Kd.N cu 77 w' (w.heap.size+2) (fun k=>w.heap.size+2<=k) (.slice X l0.length cap) l0/\Below W.heap.size W w'):=⟨fun W h=>(L9 (Kd.bN a7.o.hs h.2.2.o.1) (by have:=uN.o.len;omega)).mono fun e w' ⟨X,cap,he,hN,hb⟩=>⟨X,cap,he,Kd.gp (Kd.et (tk B3 hN) (fun k hk=>bj h.2.2.o.2 (Kd.eK hN k hk.symm))) h.2.2.o.2,hb⟩⟩
  have P0:af (∀W:World,(W.cell? ⟨w.heap.size,0,none⟩=some (.slice A l0.length c)/\W.cell? ⟨w.heap.size,1,none⟩=some (.slice A' l1.length c')/\af (Below w.heap.size w W/\w.heap.size+2<=W.heap.size))->Calls Tryz.prog 84 #[.slice A' l1.length c'] W fun e w'=>∃X cap,e= .returned (.slice X (dT l1).length cap)/\Kd.N bc 33 w' (w.heap.size+2) (fun k=>w.heap.size+2<=k) (.slice X (dT l1).length cap) (dT l1)/\Below W.heap.size W w'):=⟨fun W h=>(ad4 (Kd.bN a7.o.ks h.2.2.o.1) a7.o.n2 jK.o).mono fun e w' ⟨X,cap,he,hN,hb⟩=>⟨X,cap,he,Kd.gp (Kd.et hN (fun k hk=>bj h.2.2.o.2 hk)) h.2.2.o.2,hb⟩⟩
  go_region_held3 (fun W=>(W.cell? ⟨w.heap.size,0,none⟩=some (.slice A l0.length c)/\W.cell? ⟨w.heap.size,1,none⟩=some (.slice A' l1.length c')/\af (Below w.heap.size w W/\w.heap.size+2<=W.heap.size))) (first|exact⟨v0,v1,⟨cB aI.o,km.o⟩⟩|assumption|exact er.o _ _ _ tAc) (first|(go_at_call 83;with_reducible(refine(eJ.o _ tAc).mono ?_);intro e w3 hI;obtain⟨Q5,cap0,rfl,hN,hb⟩:=hI;have bS:=ae hb;have Ei:=ae (av (bz l9.o) hb);have SH:=fY.o _ _ tAc hb;have oy:=ae hN;clear hN hb)|(go_at_call 84;with_reducible(refine(P0.o _ tAc).mono ?_);intro e w4 hI;obtain⟨EB,YL,rfl,hN,hb⟩:=hI;have Li:=ae (av Ei.o hb);have HE:=ae (fY.o _ _ tAc hb);have SI:=HE.o;have jA:=ae hN;have agY:=ae (Kd.dz oy.o hb);clear hN hb)|(go_at_call 80;with_reducible(refine(NV agY.o jA.o (J3 jV.o) bT.o).mono ?_);intro e aZ hI;obtain⟨X,cx,X',cx',rfl,h0,h1,hb⟩:=hI;have bq:=ae (au (kW.o _ HE.o) hb.o);have aum:=fY.o _ _ HE.o hb.o;have aX:=av Li.o hb.o;have z0:aZ.cell? ⟨w.heap.size+1,0,none⟩=some (.slice none 0 0):=(mj aX 0).trans rfl;have c2:aZ.cell? ⟨w.heap.size+1,1,none⟩=some (.slice none 0 0):=(mj aX 1).trans rfl;have g0:=ar aX 0;have g1:=ar aX 1;have eD:=az aX;have dL:=ae aX;clear aX;clear hb))
  all_goals
   rename_i hh
   clear hh
   go_wp2
   have q1:=a6 (a6 dL.o 0 (.slice X r0.length cx) rfl) 1 (.slice X' r1.length cx') rfl
   refine bodyPost_ret (sQ rfl _ _ (w.heap.size+1) 29 #[.slice X r0.length cx,.slice X' r1.length cx'] (0,0) _ rfl q1 Tryz.underlying29 rfl tA1) rfl ?_
   have hb:=(bq.o.setCell (p:=⟨w.heap.size+1,0,none⟩) (Nat.le_succ _) (.slice X r0.length cx)).setCell (p:=⟨w.heap.size+1,1,none⟩) (Nat.le_succ _) (.slice X' r1.length cx')
   have hne:∀k,w.heap.size+2<=k->k≠w.heap.size+1:=fun k hk=>tA0
   exact⟨X,cx,X',cx',rfl,yN (Kd.cw (p:=⟨w.heap.size+1,1,none⟩) (Kd.cw (p:=⟨w.heap.size+1,0,none⟩) h0.o hne _) hne _) (Kd.cw (p:=⟨w.heap.size+1,1,none⟩) (Kd.cw (p:=⟨w.heap.size+1,0,none⟩) h1.o hne _) hne _) (NW (J3 jV.o) bT.o),hb⟩
 ·rw[if_neg e0]at e
  simp only[Prod.mk.injEq]at e
  obtain⟨rfl,rfl,e2⟩:=e
  rw[e2]at HC
  have hr:r≠0:=fun h=>e0 (e2.trans h)
  have zZ:(r !=0)=true:=bne_iff_ne.2 hr
  clear h e0 e2
  go_enter Tryz.func28,Tryz.ntmps28
  go_wp2_with (go_at_call 51;with_reducible(refine HC.o.mono ?_);rintro e w2 ⟨rfl,hb⟩;have bq:=ae (au bI.o hb);have aX:=av cq.o hb;have z0:w2.cell? ⟨w.heap.size+1,0,none⟩=some (.slice none 0 0):=(mj aX 0).trans rfl;have c2:w2.cell? ⟨w.heap.size+1,1,none⟩=some (.slice none 0 0):=(mj aX 1).trans rfl;have g0:=ar aX 0;have g1:=ar aX 1;have eD:=az aX;have dL:=ae aX;clear aX;clear hb)
  have q1:=a6 (a6 dL.o 0 (.slice none 0 0) rfl) 1 (.slice none 0 0) rfl
  refine bodyPost_ret (sQ rfl _ _ (w.heap.size+1) 29 #[.slice none 0 0,.slice none 0 0] (0,0) _ rfl q1 Tryz.underlying29 rfl tA1) rfl ?_
  exact⟨none,0,none,0,rfl,cD.none _,(bq.o.setCell (p:=⟨w.heap.size+1,0,none⟩) (Nat.le_succ _) _).setCell (p:=⟨w.heap.size+1,1,none⟩) (Nat.le_succ _) _⟩
end
theorem Yv:∀(x y:List UInt8),Op.bytesLess x y=decide (x<y)
 | [],[]=>tD2
 | _::_,[]=>tD2
 | [],_::_=>tD2
 | a::x,b::y=>by
  rw[Op.bytesLess,Yv x y]
  simp only[List.cons_lt_cons_iff]
  by_cases h1:a<b<;>by_cases h2:a=b<;>by_cases h3:x<y<;>simp[h1,h2,h3]
theorem ad1:∀(l:List ay) (prev:ByteArray),tX prev l=0->(∀t∈l,prev.data.toList<t.f0.data.toList)/\fI l/\∀t∈l,t.f1≠0
 | [],_,_=>⟨tA2,List.Pairwise.nil,tA2⟩
 | t::r,prev,h=>by
  rw[tX]at h
  by_cases c1:eE t.f0=true
  ·rw[if_pos c1]at h
   cases bb:(decide (t.f1=0)|| !lK t.f1 (-1000) 1000)with
   | true=>rw[bb]at h;simp at h
   | false=>
    rw[bb]at h
    simp only[Bool.false_eq_true,if_false]at h
    simp only[Bool.or_eq_false_iff,decide_eq_false_iff_not,Bool.not_eq_false']at bb
    by_cases aM:Op.bytesLess prev.toList t.f0.toList=true
    ·rw[if_pos aM]at h
     obtain⟨h1,h2,h3⟩:=ad1 r t.f0 h
     rw[Yv,decide_eq_true_eq,ByteArray.toList_eq,ByteArray.toList_eq]at aM
     refine⟨fun y hy=>?_,List.pairwise_cons.2 ⟨h1,h2⟩,fun y hy=>?_⟩
     ·rcases List.mem_cons.1 hy with rfl|hy
      ·exact aM
      ·exact List.lt_trans aM (h1 y hy)
     ·rcases List.mem_cons.1 hy with rfl|hy
      ·exact bb.1
      ·exact h3 y hy
    ·rw[if_neg aM]at h;simp at h
  ·rw[if_neg c1]at h;simp at h
theorem acB {α:Type}:∀{a b:List α},a.Nodup->(∀x∈a,x∈b)->a.length<=b.length
 | [],_,_,_=>Nat.zero_le _
 | x::t,b,hn,hs=>by
  obtain⟨h1,h2⟩:=List.nodup_cons.1 hn
  obtain⟨b1,b2,rfl⟩:=List.append_of_mem (hs x tA2)
  have:=acB (b:=b1++b2) h2 (fun y hy=>by
   have hm:=hs y (jk _ hy)
   rcases List.mem_append.1 hm with hm|hm
   ·exact List.mem_append_left _ hm
   ·rcases List.mem_cons.1 hm with rfl|hm
    ·exact absurd hy h1
    ·exact List.mem_append_right _ hm)
  simp only[fZ,i6]at this ⊢
  omega
theorem asP {l:List ay}(h:fI l):(l.map (·.f0)).Nodup:=by
 unfold List.Nodup
 rw[List.pairwise_map]
 exact h.imp fun hlt=>wJ hlt
structure Good (ns:List ByteArray)(f:aj):Prop where
 c: -1000000<=f.f0/\f.f0<=1000000
 up:fI f.f1
 qD:∀t∈f.f1,t.f1≠0
 b:fR 1000 f.f1
 ok:∀t∈f.f1,eE t.f0=true/\t.f0∈ns
 len:f.f1.length<=ns.length
theorem UC {ns:List ByteArray}{f:aj}(h:gG ns f=0):Good ns f:=by
 unfold gG at h
 by_cases c1:su f.f0 f.f1=0
 ·rw[if_pos c1]at h
  cases bb:f.f1.all (fun t=>ns.any fun x=>decide (t.f0=x))with
  | false=>rw[bb]at h;simp at h
  | true=>
   unfold su at c1
   by_cases aM:lK f.f0 (-1000000) 1000000=true
   ·rw[if_pos aM]at c1
    by_cases aV:f.f1.length>12
    ·rw[if_pos aV]at c1;simp at c1
    ·rw[if_neg aV]at c1
     obtain⟨_,hu,hn⟩:=ad1 _ _ c1
     have bX:∀t∈f.f1,eE t.f0=true/\t.f0∈ns:=fun t ht=>⟨(Od _ _ c1 t ht).1,by
      have:=List.all_eq_true.1 bb t ht
      obtain⟨x,hx,he⟩:=List.any_eq_true.1 this
      rw[decide_eq_true_eq]at he
      rw[he]
      exact hx⟩
     refine⟨Jr.1 aM,hu,hn,fun t ht=>by have:=(Od _ _ c1 t ht).2;omega,bX,?_⟩
     have:=acB (b:=ns) (asP hu) (fun x hx=>by
      obtain⟨t,ht,rfl⟩:=List.mem_map.1 hx
      exact(bX t ht).2)
     simpa using this
   ·rw[if_neg aM]at c1;simp at c1
 ·rw[if_neg c1]at h
  exact absurd h c1
theorem J5 {l0:List aq}{l1:List aj}(h:cQ l0 l1=0):∀f∈l1,Good (l0.map (·.f0)) f:=by
 unfold cQ at h
 by_cases hs:l0.length>8
 ·rw[if_pos hs]at h;simp at h
 ·rw[if_neg hs]at h
  obtain⟨h1,h2,h3⟩:=Vh l0 l1 l0 [] h
  unfold Ga at h3
  by_cases hc:l1.length>60
  ·rw[if_pos hc]at h3;simp at h3
  ·rw[if_neg hc]at h3
   exact fun f hf=>UC ((RL _ l0 l1 h3).1 f hf)
theorem Vf {l:List aq}{s:ByteArray}(h:s∈l.map (·.f0)):eV l s∈l/\(eV l s).f0=s:=by
 unfold eV
 cases e:l.find? (fun x=>decide (x.f0=s))with
 | none=>
  have:=List.find?_eq_none.1 e
  obtain⟨x,hx,hs⟩:=List.mem_map.1 h
  exact absurd hs (by simpa using this x hx)
 | some x=>exact⟨List.mem_of_find?_eq_some e,by have:=List.find?_some e;simpa using this⟩
theorem NS (l:List aq)(s:ByteArray):∀x∈dE l s,x∈l:=fun x hx=>(List.mem_filter.1 hx).1
theorem adk {l:List aq}{s:ByteArray}(h:s∈l.map (·.f0)):(dE l s).length<l.length:=by
 obtain⟨x,hx,e⟩:=List.mem_map.1 h
 unfold dE
 have h1:=List.length_filter_lt_length_iff_exists (p:=fun x:aq=> !decide (x.f0=s)) (l:=l)
 exact h1.2 ⟨x,hx,by simp[e]⟩
def JC (l0:List aq)(l1:List aj)(s:ByteArray)(g:aj):List aq×List aj×Int:=
 if(mq l0 l1 s).2.2=0 then(if gG ((mq l0 l1 s).2.1.map (·.f0)) g=0 then lO (mq l0 l1 s).2.1 (ku (mq l0 l1 s).1 g++l1.map fun f=>fp f s g)else([],[],gG ((mq l0 l1 s).2.1.map (·.f0)) g))else([],[],(mq l0 l1 s).2.2)
theorem acQ {l0:List aq}{l1:List aj}{s:ByteArray}{x:aq}{rest:List aq}(e:mq l0 l1 s=(x,rest,0)):cQ l0 l1=0/\s∈l0.map (·.f0)/\x=eV l0 s/\rest=dE l0 s:=by
 unfold mq at e
 by_cases h0:cQ l0 l1=0
 ·rw[if_neg (fun h=>h h0)]at e
  by_cases h1:eE s=false
  ·rw[if_pos h1]at e;simp at e
  ·rw[if_neg h1]at e
   by_cases h2:(l0.any fun y=>decide (y.f0=s))=true
   ·rw[if_pos h2]at e
    simp only[Prod.mk.injEq,and_true]at e
    exact⟨h0,LN.1 h2,e.1.symm,e.2.symm⟩
   ·rw[if_neg h2]at e;simp at e
 ·rw[if_pos h0]at e
  simp only[Prod.mk.injEq]at e
  exact absurd e.2.2 h0
theorem asC (f:aj)(a:Int)(g:aj)(b:Int):∀t∈(dY f a g b).f1,∃u∈f.f1++g.f1,u.f0=t.f0:=fun t ht=>by
 obtain⟨v,hv,e⟩:=NA _ t ht
 rcases List.mem_append.1 hv with hv|hv
 ·obtain⟨u,hu,rfl⟩:=List.mem_map.1 hv
  exact⟨u,List.mem_append_left _ hu,e⟩
 ·obtain⟨u,hu,rfl⟩:=List.mem_map.1 hv
  exact⟨u,List.mem_append_right _ hu,e⟩
theorem adQ (f:aj)(a:Int)(g:aj)(b:Int):(dY f a g b).f1.length<=f.f1.length+g.f1.length:=by
 refine bj (acD _) ?_
 rw[fZ,tR,tR]
 exact bl _
def jy (n:Nat)(f:aj):Prop:=f.f1.length<=n/\∀t∈f.f1,t.f0.size<=100
theorem jy.sum {n m:Nat}{f g:aj}(hf:jy n f)(hg:jy m g)(a b:Int):jy (n+m) (dY f a g b):=
 ⟨bj (adQ f a g b) (Nat.add_le_add hf.1 hg.1),fun t ht=>by
  obtain⟨u,hu,e⟩:=asC f a g b t ht
  rw[<- e]
  exact(List.mem_append.1 hu).elim (hf.2 u) (hg.2 u)⟩
theorem jy.mono {n m:Nat}{f:aj}(hf:jy n f)(h:n<=m):jy m f:=⟨bj hf.1 h,hf.2⟩
theorem jy.num (n:Int):jy 0 ⟨n,[]⟩:=⟨bl _,fun t ht=>tBc⟩
theorem jy.ends {n:Nat}{g:aj}(hg:jy n g)(x:aq):∀f∈ku x g,jy n f:=fun f hf=>by
 unfold ku at hf
 rcases List.mem_cons.1 hf with rfl|hf
 ·exact hg.sum (jy.num _) 1 1
 ·rw[il.1 hf]
  exact((jy.num _).sum hg 1 (-1)).mono tA0
theorem jy.put {n m:Nat}{f g:aj}(hf:jy n f)(hg:jy m g)(s:ByteArray):jy (n+m) (fp f s g):=
 jy.sum (f:=⟨f.f0,dm f.f1 s⟩) ⟨bj (Dw _ _) hf.1,fun t ht=>hf.2 t (wO _ _ t ht)⟩ hg 1 _
theorem Good.few {ns:List ByteArray}{f:aj}(h:Good ns f):jy ns.length f:=⟨h.len,fun t ht=>by have:=CR (h.ok t ht).1;omega⟩
theorem Good.fb {ns:List ByteArray}{f:aj}(h:Good ns f):fR 1000000 f.f1:=fun t ht=>bj (h.b t ht) tA0
section
variable {A A' ix:Option Addr}{c c' iE:Nat}{l0:List aq}{l1:List aj}{g:aj}{w:World}
theorem ait (h:cD A c l0 A' c' l1 w)(hg:gl ix iE g w)(s:ByteArray)(hs:s.size<=100){r0:List aq}{r1:List aj}{r:Int}(e:JC l0 l1 s g=(r0,r1,r)):
  Calls Tryz.prog 30 #[.agg #[.slice A l0.length c,.slice A' l1.length c'],.string s,.agg #[.int .i64 g.f0,.slice ix g.f1.length iE]] w (zA w r0 r1 r):=by
 have bI:=ae (ax (ax (ax (Below.refl w.heap.size w) (.cells #[.slice A l0.length c,.slice A' l1.length c'] 29)) (.cells #[.int .i64 g.f0,.slice ix g.f1.length iE] 33)) (.cells #[.slice none 0 0,.slice none 0 0] 29))
 have cJ:=ae (aH (aH (a8 w (.cells #[.slice A l0.length c,.slice A' l1.length c'] 29)) (.cells #[.int .i64 g.f0,.slice ix g.f1.length iE] 33)) (.cells #[.slice none 0 0,.slice none 0 0] 29))
 have cq:=ae (aH (by simpa using a8 (w.alloc (.cells #[.slice A l0.length c,.slice A' l1.length c'] 29)) (.cells #[.int .i64 g.f0,.slice ix g.f1.length iE] 33):((w.alloc (.cells #[.slice A l0.length c,.slice A' l1.length c'] 29)).alloc (.cells #[.int .i64 g.f0,.slice ix g.f1.length iE] 33)).heap[w.heap.size+1]?=some (.cells #[.int .i64 g.f0,.slice ix g.f1.length iE] 33 (0,0))) (.cells #[.slice none 0 0,.slice none 0 0] 29))
 have eC:=ae (by simpa using a8 ((w.alloc (.cells #[.slice A l0.length c,.slice A' l1.length c'] 29)).alloc (.cells #[.int .i64 g.f0,.slice ix g.f1.length iE] 33)) (.cells #[.slice none 0 0,.slice none 0 0] 29):(((w.alloc (.cells #[.slice A l0.length c,.slice A' l1.length c'] 29)).alloc (.cells #[.int .i64 g.f0,.slice ix g.f1.length iE] 33)).alloc (.cells #[.slice none 0 0,.slice none 0 0] 29)).heap[w.heap.size+1+1]?=some (.cells #[.slice none 0 0,.slice none 0 0] 29 (0,0)))
 have xK:af ((((w.alloc (.cells #[.slice A l0.length c,.slice A' l1.length c'] 29)).alloc (.cells #[.int .i64 g.f0,.slice ix g.f1.length iE] 33)).alloc (.cells #[.slice none 0 0,.slice none 0 0] 29)).heap.size=w.heap.size+3):=⟨tA2⟩
 have a7:=ae h
 have HG:=ae hg
 obtain⟨x,rest,ro,yq⟩:∃x rest ro,mq l0 l1 s=(x,rest,ro):=⟨_,_,_,rfl⟩
 have qY:=ae (acO (h.below bI.o) s hs yq)
 unfold JC at e
 rw[yq]at e
 simp only at e
 have Pc:=ae yq
 clear h hg hs yq
 go_enter Tryz.func30,Tryz.ntmps30
 go_wp2_with (fail)
 have e0:=(mj cJ.o 0)
 clear e0
 generalize ((w.alloc (.cells #[.slice A l0.length c,.slice A' l1.length c'] 29)).alloc (.cells #[.int .i64 g.f0,.slice ix g.f1.length iE] 33)).alloc (.cells #[.slice none 0 0,.slice none 0 0] 29)=w1 at *
 have e0:w1.cell? ⟨w.heap.size,0,none⟩=some (.slice A l0.length c):=ah cJ.o 0
 have e1:w1.cell? ⟨w.heap.size,1,none⟩=some (.slice A' l1.length c'):=ah cJ.o 1
 by_cases fW:ro=0
 ·rw[if_pos fW]at e
  subst fW
  obtain⟨hv0,nU,hv2,hv3⟩:=acQ Pc.o
  have jL:=ae hv0
  have nH:=ae nU
  have Lj:af (x∈l0):=⟨by rw[hv2];exact(Vf nU).1⟩
  have K3:af (∀y∈rest,y.f0.size<=100):=⟨fun y hy=>a7.o.n1 y (NS l0 s y (hv3▸hy))⟩
  have HA:af (rest.length<l0.length):=⟨by rw[hv3];exact adk nU⟩
  clear hv0 nU hv2 hv3
  obtain⟨sM,TE⟩:∃sM,gG (rest.map (·.f0)) g=sM:=⟨_,rfl⟩
  rw[TE]at e
  have W4:=ae TE
  clear TE
  have W5:af (∀(W:World) (X:Option Addr) (cx base:Nat) (ok:Nat->Prop),Kd.N cu 77 W base ok (.slice X rest.length cx) rest->Below w.heap.size w W->Calls Tryz.prog 52 #[.agg #[.slice X rest.length cx,.slice none 0 0],.agg #[.int .i64 g.f0,.slice ix g.f1.length iE]] W fun e w'=>e= .returned (.int .i64 sM)/\Below W.heap.size W w'):=⟨fun W X cx base ok hN hb=>by
   have iF:=aio (l0:=rest) (l1:=[]) (A':=none) (c':=0) (c:=cx) (A:=X) (w:=W) ⟨(Kd.ej hN).2.2,(Kd.ej hN).2.1,Kd.yY _ _,bl _,K3.o,tA2,tA2⟩ (HG.o.below hb)
   rw[W4.o]at iF
   exact iF⟩
  by_cases Mq:sM=0
  ·rw[if_pos Mq]at e
   subst Mq
   have Bb:=ae (UC W4.o)
   have bT:=ae e
   go_wp2_with (first|(go_at_call 85;with_reducible(refine qY.o.mono ?_);rintro e w2 ⟨X,cx,rfl,hN,hb⟩;have aI:=ae (au bI.o hb);have jW:=ae (aH (av cJ.o hb) (.cells #[.string x.f0,.int .i64 x.f1,.int .i64 x.f2] 77));have l9:=ae (aH (av cq.o hb) (.cells #[.string x.f0,.int .i64 x.f1,.int .i64 x.f2] 77));have nI:=ae (aH (av eC.o hb) (.cells #[.string x.f0,.int .i64 x.f1,.int .i64 x.f2] 77));have xH:=ae (a8 w2 (.cells #[.string x.f0,.int .i64 x.f1,.int .i64 x.f2] 77));have e5:=ae (bj (Nat.le_of_eq xK.o.symm) hb.size);have bS:=ae (ax aI.o (.cells #[.string x.f0,.int .i64 x.f1,.int .i64 x.f2] 77));have mD:=ae (Kd.dz (Kd.gp hN (Nat.le_of_eq xK.o.symm)) (ax (Below.refl _ _) (.cells #[.string x.f0,.int .i64 x.f1,.int .i64 x.f2] 77)));have s7:=ae (W5.o _ _ _ _ _ mD.o bS.o);have d1:(w2.alloc (.cells #[.string x.f0,.int .i64 x.f1,.int .i64 x.f2] 77)).cell? ⟨w.heap.size+1,0,none⟩=some (.int .i64 g.f0):=(mj l9.o 0).trans rfl;have d2:(w2.alloc (.cells #[.string x.f0,.int .i64 x.f1,.int .i64 x.f2] 77)).cell? ⟨w.heap.size+1,1,none⟩=some (.slice ix g.f1.length iE):=(mj l9.o 1).trans rfl;clear hb hN)|(go_at_call 52;with_reducible(refine s7.o.mono ?_);rintro e w4 ⟨rfl,hb⟩;have cO:=ae hb;have d3:=bw hb d1;have d4:=bw hb d2;have d5:w4.cell? ⟨w2.heap.size,0,none⟩=some (.string x.f0):=(mj (av xH.o hb) 0).trans rfl;have d6:w4.cell? ⟨w2.heap.size,1,none⟩=some (.int .i64 x.f1):=(mj (av xH.o hb) 1).trans rfl;have d7:w4.cell? ⟨w2.heap.size,2,none⟩=some (.int .i64 x.f2):=(mj (av xH.o hb) 2).trans rfl;have A8:=ae (Zj (x:=x) (HG.o.below (au bS.o hb)) tE8 tE8 (by have:=Bb.o.c;omega) Bb.o.fb (by have h1:=Bb.o.len;have h2:=HA.o;have h3:=(iT jL.o).len;simp only[fc]at h1;omega));clear hb)|(go_at_call 86;with_reducible(refine A8.o.mono ?_);rintro e aZ ⟨E,rfl,hN,hb⟩;have bq:=ae (au cO.o hb);have pW:=ae hN;have O9:=ae (bj cO.o.size hb.size);have d8:(aZ.alloc (.cells #[.slice X rest.length cx,.slice E 2 2] 29)).cell? ⟨w.heap.size,1,none⟩=some (.slice A' l1.length c'):=bw (ax (Below.refl _ _) _) ((mj (av jW.o bq.o) 1).trans rfl);clear hb hN))
   have kn:af (w.heap.size+3<=(w2.alloc (.cells #[.string x.f0,.int .i64 x.f1,.int .i64 x.f2] 77)).heap.size):=⟨by have:=e5.o;simp;omega⟩
   generalize hw3:w2.alloc (.cells #[.string x.f0,.int .i64 x.f1,.int .i64 x.f2] 77)=w3 at *
   clear hw3
   have y9:af (Kd.N bc 33 (aZ.alloc (.cells #[.slice X rest.length cx,.slice E 2 2] 29)) w3.heap.size (fun k=>w3.heap.size<=k/\k≠aZ.heap.size) (.slice E 2 2) (ku x g)):=⟨Kd.dz (Kd.et (Kd.tj (Kd.gp pW.o cO.o.size)) (fun k hk=>⟨bj cO.o.size hk.1,Nat.ne_of_lt hk.2⟩)) (ax (Below.refl _ _) _)⟩
   have jU:=ae (a8 aZ (.cells #[.slice X rest.length cx,.slice E 2 2] 29))
   have iW:=ae (ax bq.o (.cells #[.slice X rest.length cx,.slice E 2 2] 29))
   have ag0:=ae (Kd.et mD.o (ok':=fun k=>w.heap.size+3<=k) (fun k hk=>Kd.eK mD.o k hk.symm))
   have KQ:af ((iT jL.o).len=(iT jL.o).len):=⟨rfl⟩
   have Fz:=(iT jL.o).len
   have axb:=(iT jL.o).cl
   clear pW mD cO d3 d4 d5 d6 d7 d1 d2 s7 A8 qY KQ
   go_loopg [14,42] l1.length (fun bL _ arU wr=>∃(kk:Nat) (xs:List aj) (v:Value),kk<=l1.length/\l1.length-kk<=bL/\arU= .int .i64 kk/\af (ku x g++(l1.take kk).map (fun f=>fp f s g)=xs)/\af (Kd.N bc 33 wr w3.heap.size (fun k=>w3.heap.size<=k/\k≠aZ.heap.size) v xs)/\af (wr.heap[aZ.heap.size]?=some (.cells #[.slice X rest.length cx,v] 29 (0,0)))/\af (Below w3.heap.size w3 wr))
   case atStart=>exact⟨0,ku x g,.slice E 2 2,Nat.zero_le _,tA0,rfl,⟨tA2⟩,y9,jU,iW⟩
   case round=>
    clear y9 jU iW d8
    obtain⟨kk,xs,v,eO,wy,rfl,ly,bm,gA,bA⟩:=hrel
    generalize mM:wr=aA at *
    clear mM
    obtain⟨b5,b6,rfl⟩:=Kd.c3 bm.o
    have l7:=ae (cm bS.o bS.o.size bA.o)
    have iL:af (∀k,(Value.slice b5 xs.length b6).ownBlock=some k->k<aA.heap.size):=⟨fun k hk=>by
     obtain⟨cells,hc⟩:=Kd.tq bm.o k hk
     exact az hc⟩
    have iA:af (xs.length=kk+2):=⟨by rw[<- ly.o,fZ,fc,bQ];show 2+_=_;omega⟩
    by_cases hlt:kk<l1.length
    ·have cp:(kk:Int)< (l1.length:Int):=by omega
     obtain⟨ad,aN,c1,e,x0,x1,fF,yT⟩:=rh (Kd.bN a7.o.ks l7.o) (kk:Int) tA0 tA0
     cases e
     simp only[eQ]at x0 x1
     have b9:af (ku x g++(l1.take (kk+1)).map (fun f=>fp f s g)=xs++[fp (bH l1 (kk:Int)) s g]):=⟨by rw[sT hlt,List.map_append,<- List.append_assoc,ly.o];rfl⟩
     have vI:=ae (sL l1 kk hlt)
     generalize bH l1 (kk:Int)=f at *
     have Hb:=ae (J5 jL.o f vI.o)
     have lu:af (gl aN c1 f aA):=⟨⟨yT,fF,(a7.o.n3 f vI.o).1,(a7.o.n3 f vI.o).2⟩⟩
     clear fF yT
     have bR:=ae (ax (Below.refl aA.heap.size aA) (.cells #[.int .i64 f.f0,.slice aN f.f1.length c1] 33))
     have dh:=ae (a8 aA (.cells #[.int .i64 f.f0,.slice aN f.f1.length c1] 33))
     have Wq:=ae (av (av l9.o bA.o) bR.o)
     have xi:=ae (av gA.o bR.o)
     have Bl:af (∀W:World,Below aA.heap.size aA W->Calls Tryz.prog 90 #[.agg #[.int .i64 f.f0,.slice aN f.f1.length c1],.string s,.agg #[.int .i64 g.f0,.slice ix g.f1.length iE]] W (oB W (fp f s g))):=⟨fun W hb=>aiM (lu.o.below hb) (HG.o.below (au l7.o hb)) Hb.o.up Hb.o.qD Hb.o.fb Bb.o.fb (by have:=Hb.o.c;omega) (by have:=Bb.o.c;omega) (by have h1:=Hb.o.len;have h2:=Bb.o.len;have h3:=HA.o;simp only[fc]at h1 h2;omega) s⟩
     go_wp2
     generalize qB:aA.alloc (.cells #[.int .i64 f.f0,.slice aN f.f1.length c1] 33)=cz at *
     clear qB
     have aK:cz.cell? ⟨aA.heap.size,0,none⟩=some (.int .i64 f.f0):=ah dh.o 0
     have aC:cz.cell? ⟨aA.heap.size,1,none⟩=some (.slice aN f.f1.length c1):=ah dh.o 1
     have bM:cz.cell? ⟨w.heap.size+1,0,none⟩=some (.int .i64 g.f0):=ah Wq.o 0
     have eH:cz.cell? ⟨w.heap.size+1,1,none⟩=some (.slice ix g.f1.length iE):=ah Wq.o 1
     have jr:cz.cell? ⟨aZ.heap.size,1,none⟩=some (.slice b5 xs.length b6):=ah xi.o 1
     have agX:=ae (Kd.dz bm.o bR.o)
     have uz:=ae (cm bA.o bA.o.size bR.o)
     go_region_law (first|(refine Kd.th bc w3.heap.size tA5 (.tmp 47) (.tmp 52) 27 33 (.agg #[.int .i64 0,.slice none 0 0]) 32 tA5 Tryz.underlying27 jR rfl tA3 tA3 (.slice b5 xs.length b6) xs (fp f s g) [.int .i64 (fp f s g).f0,.slice p9 (fp f s g).f1.length qi] (fun k=>w3.heap.size<=k/\k≠aZ.heap.size) (fun k=>cz.heap.size<=k) tA5 ?hx e8.o (fun k hk=>⟨⟨by have h1:=bR.o.size;have h2:=bA.o.size;omega,by have h1:=bR.o.size;have h2:=az gA.o;omega⟩,fun e=>by have h1:=iL.o k e.symm;have h2:=bR.o.size;omega⟩) (fun k hk=>⟨by have h1:=bR.o.size;have h2:=bA.o.size;have h3:=Xp.o;omega,by have h1:=bR.o.size;have h2:=az gA.o;have h3:=Xp.o;omega⟩) (Kd.dz agX.o eZ.o) (cm uz.o uz.o.size eZ.o) (cm uz.o uz.o.size eZ.o).size tBi ?_;(case hx=>go_simp);intro v8 fq fO gD eY iq;obtain⟨jJ,c8,rfl⟩:=Kd.c3 fO;have qd:=gf Ww.o eY (fun e=>(bm.o.1 _ e.symm).2 rfl);have uO:=ae qd;have d8:fq.cell? ⟨aZ.heap.size,1,none⟩=some (.slice b5 xs.length b6):=(mj qd 1).trans rfl;have f8:=ar qd 1;have yD:=az qd;have eh:=ae gD;rw[j2]at fO ⊢;have je:=ae fO;clear fO gD eY iq qd)|(go_simp;go_at_call 90;refine(Bl.o _ (by first|exact bR.o|exact cB bR.o|exact eG bR.o _)).mono ?_;intro e bt hI;unfold oB at hI;obtain⟨p9,qi,rfl,iG,hb⟩:=hI;have sG:Below cz.heap.size cz bt:= tDo;have eZ:=ae sG;have e8:af (Kd.eI bc bt (fun k=>cz.heap.size<=k) (fp f s g) [.int .i64 (fp f s g).f0,.slice p9 (fp f s g).f1.length qi]):=⟨Kd.nx (tz (a:=(fp f s g).f0) iG) (fun k hk=>bj tD6 hk)⟩;have Xp:af (cz.heap.size<=bt.heap.size):=⟨sG.size⟩;have Ww:=ae (av xi.o sG);have atf:bt.cell? ⟨aZ.heap.size,1,none⟩=some (.slice b5 xs.length b6):=(mj Ww.o 1).trans rfl;have azq:(bt.alloc (.cells #[.int .i64 (fp f s g).f0,.slice p9 (fp f s g).f1.length qi] 33)).cell? ⟨aZ.heap.size,1,none⟩=some (.slice b5 xs.length b6):=bw (ax (Below.refl _ _) _) atf;clear hb sG iG))
     all_goals
      go_wp2
      go_roundg (l1.length- (kk+1))
      case measure=>omega
      case rel=>exact⟨kk+1,xs++[fp f s g],.slice jJ (xs.length+1) c8,tA0,tA0,tA7,b9,⟨Kd.cw (p:=⟨aZ.heap.size,1,none⟩) je.o (fun k hk=>hk.2) _⟩,⟨a6 uO.o 1 _ rfl⟩,⟨eh.o.setCell (p:=⟨aZ.heap.size,1,none⟩) O9.o _⟩⟩
    ·have cp:¬ (kk:Int)< (l1.length:Int):=by omega
     have di:kk=l1.length:=tA0
     have vr:=ly.o
     rw[di,fJ]at vr
     have vN:=bT.o
     rw[vr]at vN
     have qy:jy 7 g:=Bb.o.few.mono (by have h1:=HA.o;simp only[fc];omega)
     have qX:af (Names rest xs):=⟨⟨K3.o,tBi,fun f hf=>by
      have hfw:jy 1000 f:=by
       rw[<- vr]at hf
       rcases List.mem_append.1 hf with hf|hf
       ·exact(qy.ends x f hf).mono tA0
       ·obtain⟨f0,rr,rfl⟩:=List.mem_map.1 hf
        have:=(J5 jL.o f0 rr).few
        exact(this.put qy s).mono (by simp only[fc];omega)
      exact hfw⟩⟩
     have Hz:=ae (NV (Kd.dz ag0.o bA.o) (Kd.gp bm.o kn.o) qX.o vN)
     have Qk:=ae (av nI.o bA.o)
     have aK:aA.cell? ⟨aZ.heap.size,0,none⟩=some (.slice X rest.length cx):=ah gA.o 0
     have aC:aA.cell? ⟨aZ.heap.size,1,none⟩=some (.slice b5 xs.length b6):=ah gA.o 1
     have PJ:=ae vr
     clear di vr vN qy
     go_wp2_with (go_at_call 80;with_reducible(refine Hz.o.mono ?_);intro e dG hI;obtain⟨Y,c0,ek,ep,rfl,h0,h1,hb⟩:=hI;have iU:=ae (au l7.o hb.o);have aX:=av Qk.o hb.o;have z0:dG.cell? ⟨w.heap.size+1+1,0,none⟩=some (.slice none 0 0):=(mj aX 0).trans rfl;have c2:dG.cell? ⟨w.heap.size+1+1,1,none⟩=some (.slice none 0 0):=(mj aX 1).trans rfl;have g0:=ar aX 0;have g1:=ar aX 1;have eD:=az aX;have dL:=ae aX;clear aX;clear hb)
     have q1:=a6 (a6 dL.o 0 (.slice Y r0.length c0) rfl) 1 (.slice ek r1.length ep) rfl
     refine bodyPost_ret (sQ rfl _ _ (w.heap.size+1+1) 29 #[.slice Y r0.length c0,.slice ek r1.length ep] (0,0) _ rfl q1 Tryz.underlying29 rfl tA1) rfl ?_
     have hb:=(iU.o.setCell (p:=⟨w.heap.size+1+1,0,none⟩) tAf (.slice Y r0.length c0)).setCell (p:=⟨w.heap.size+1+1,1,none⟩) tAf (.slice ek r1.length ep)
     have hne:∀k,w.heap.size+3<=k->k≠w.heap.size+1+1:=fun k hk=>tA0
     have rv:∀k,w3.heap.size<=k/\k≠aZ.heap.size->k≠w.heap.size+1+1:=fun k hk=>by have:=kn.o;omega
     exact⟨Y,c0,ek,ep,rfl,yN (Kd.cw (p:=⟨w.heap.size+1+1,1,none⟩) (Kd.cw (p:=⟨w.heap.size+1+1,0,none⟩) h0.o hne _) hne _) (Kd.cw (p:=⟨w.heap.size+1+1,1,none⟩) (Kd.cw (p:=⟨w.heap.size+1+1,0,none⟩) h1.o rv _) rv _) (NW qX.o (by have iF:=bT.o;rw[PJ.o]at iF;exact iF)),hb⟩
  ·rw[if_neg Mq]at e
   simp only[Prod.mk.injEq]at e
   obtain⟨rfl,rfl,rfl⟩:=e
   have zZ:(sM !=0)=true:=bne_iff_ne.2 Mq
   go_wp2_with (first|(go_at_call 85;with_reducible(refine qY.o.mono ?_);rintro e w2 ⟨X,cx,rfl,hN,hb⟩;have aI:=ae (au bI.o hb);have jW:=ae (aH (av cJ.o hb) (.cells #[.string x.f0,.int .i64 x.f1,.int .i64 x.f2] 77));have l9:=ae (aH (av cq.o hb) (.cells #[.string x.f0,.int .i64 x.f1,.int .i64 x.f2] 77));have nI:=ae (aH (av eC.o hb) (.cells #[.string x.f0,.int .i64 x.f1,.int .i64 x.f2] 77));have xH:=ae (a8 w2 (.cells #[.string x.f0,.int .i64 x.f1,.int .i64 x.f2] 77));have e5:=ae (bj (Nat.le_of_eq xK.o.symm) hb.size);have bS:=ae (ax aI.o (.cells #[.string x.f0,.int .i64 x.f1,.int .i64 x.f2] 77));have mD:=ae (Kd.dz (Kd.gp hN (Nat.le_of_eq xK.o.symm)) (ax (Below.refl _ _) (.cells #[.string x.f0,.int .i64 x.f1,.int .i64 x.f2] 77)));have s7:=ae (W5.o _ _ _ _ _ mD.o bS.o);have d1:(w2.alloc (.cells #[.string x.f0,.int .i64 x.f1,.int .i64 x.f2] 77)).cell? ⟨w.heap.size+1,0,none⟩=some (.int .i64 g.f0):=(mj l9.o 0).trans rfl;have d2:(w2.alloc (.cells #[.string x.f0,.int .i64 x.f1,.int .i64 x.f2] 77)).cell? ⟨w.heap.size+1,1,none⟩=some (.slice ix g.f1.length iE):=(mj l9.o 1).trans rfl;clear hb hN)|(go_at_call 52;with_reducible(refine s7.o.mono ?_);rintro e w4 ⟨rfl,hb⟩;have bq:=ae (au bS.o hb);have aX:=av nI.o hb;have z0:w4.cell? ⟨w.heap.size+1+1,0,none⟩=some (.slice none 0 0):=(mj aX 0).trans rfl;have c2:w4.cell? ⟨w.heap.size+1+1,1,none⟩=some (.slice none 0 0):=(mj aX 1).trans rfl;have g0:=ar aX 0;have g1:=ar aX 1;have eD:=az aX;have dL:=ae aX;clear aX;clear hb))
   have q1:=a6 (a6 dL.o 0 (.slice none 0 0) rfl) 1 (.slice none 0 0) rfl
   refine bodyPost_ret (sQ rfl _ _ (w.heap.size+1+1) 29 #[.slice none 0 0,.slice none 0 0] (0,0) _ rfl q1 Tryz.underlying29 rfl tA1) rfl ?_
   exact⟨none,0,none,0,rfl,cD.none _,(bq.o.setCell (p:=⟨w.heap.size+1+1,0,none⟩) tAf _).setCell (p:=⟨w.heap.size+1+1,1,none⟩) tAf _⟩
 ·rw[if_neg fW]at e
  simp only[Prod.mk.injEq]at e
  obtain⟨rfl,rfl,rfl⟩:=e
  have zZ:(ro !=0)=true:=bne_iff_ne.2 fW
  go_wp2_with (go_at_call 85;with_reducible(refine qY.o.mono ?_);rintro e w2 ⟨X,cx,rfl,hN,hb⟩;have bq:=ae (au bI.o hb);have aX:=av eC.o hb;have z0:w2.cell? ⟨w.heap.size+1+1,0,none⟩=some (.slice none 0 0):=(mj aX 0).trans rfl;have c2:w2.cell? ⟨w.heap.size+1+1,1,none⟩=some (.slice none 0 0):=(mj aX 1).trans rfl;have g0:=ar aX 0;have g1:=ar aX 1;have eD:=az aX;have dL:=ae aX;clear aX;clear hb hN)
  have q1:=aH (a6 (a6 dL.o 0 (.slice none 0 0) rfl) 1 (.slice none 0 0) rfl) (.cells #[.string x.f0,.int .i64 x.f1,.int .i64 x.f2] 77)
  refine bodyPost_ret (sQ rfl _ _ (w.heap.size+1+1) 29 #[.slice none 0 0,.slice none 0 0] (0,0) _ rfl q1 Tryz.underlying29 rfl tA1) rfl ?_
  exact⟨none,0,none,0,rfl,cD.none _,ax ((bq.o.setCell (p:=⟨w.heap.size+1+1,0,none⟩) tAf _).setCell (p:=⟨w.heap.size+1+1,1,none⟩) tAf _) _⟩
end
def iO (W:World)(e0:Nat)(v:Value)(xs:List aj):Prop:=
 ∃rows:List (List Value),rows.length=xs.length/\(Kd.raw 2).R 33 W e0 (fun k=>some k=v.ownBlock) v rows/\∀(j:Nat) (x:aj) (c:List Value),xs[j]?=some x->rows[j]?=some c->Kd.eI bc W (fun k=>k<e0) x c
theorem iO.nil (W:World)(e0:Nat):iO W e0 (.slice none 0 0) []:=⟨[],rfl,Kd.LG _ _ _ _ _,fun j x c h=>tAk⟩
theorem iO.N {W:World}{e0:Nat}{v:Value}{xs:List aj}(h:iO W e0 v xs):Kd.N bc 33 W e0 (fun k=>k<e0\/some k=v.ownBlock) v xs:=by
 obtain⟨rows,hl,hR,hf⟩:=h
 refine⟨fun k hk=>Or.inr hk.symm,rows,hl,hR,fun j x c hx hc=>Kd.nx (hf j x c hx hc) (fun k hk=>⟨Or.inl hk,fun e=>?_⟩)⟩
 have:=Kd.LD hR k e.symm
 omega
theorem iO.own {W:World}{e0:Nat}{v:Value}{xs:List aj}(h:iO W e0 v xs):∀k,v.ownBlock=some k->e0<=k/\k<W.heap.size:=fun k hk=>by
 obtain⟨cells,hc⟩:=Kd.tq h.N k hk
 exact⟨Kd.eK h.N k hk,az hc⟩
theorem iO.step {W W':World}{e0:Nat}{v:Value}{xs:List aj}(h:iO W e0 v xs)(hm:∀k,(k<e0\/v.ownBlock=some k)->k<W.heap.size->W'.heap[k]?=W.heap[k]?):iO W' e0 v xs:=by
 obtain⟨rows,hl,hR,hf⟩:=h
 exact⟨rows,hl,Kd.Ia hR (fun k hk=>hm k (Or.inr hk.symm)),fun j x c hx hc=>Kd.xa (hf j x c hx hc) (fun k hk=>hm k (Or.inl hk))⟩
theorem iO.below {W W':World}{e0:Nat}{v:Value}{xs:List aj}(h:iO W e0 v xs)(hb:Below W.heap.size W W'):iO W' e0 v xs:=h.step fun k _ hk=>hb.block k hk
def mA (a b:Value):Prop:=∀k,a.ownBlock=some k->b.ownBlock≠some k
theorem mA.symm {a b:Value}(h:mA a b):mA b a:=fun k hk e=>h k e hk
theorem mA.nil (b:Value):mA (.slice none 0 0) b:=fun k hk=>by simp[Value.ownBlock]at hk
theorem iO.grown {W W':World}{e0:Nat}{v u:Value}{xs ys:List aj}(h:iO W e0 v xs)(hu:iO W e0 u ys)(hd:mA v u)(hg:W.grownBy W' u.ownBlock):iO W' e0 v xs:=h.step fun k hk hlt=>hg.block k hlt (fun e=>by
 rcases hk with hk|hk
 ·have:=(hu.own k e.symm).1
  omega
 ·exact hd k hk e.symm)
theorem mA.grown {W:World}{e0:Nat}{v u u1:Value}{xs:List aj}(h:iO W e0 v xs)(hd:mA v u)(hat:u1.ownBlock=u.ownBlock\/∃b,u1.ownBlock=some b/\W.heap.size<=b):mA v u1:=fun k hk e=>by
 rcases hat with hat|⟨b,hb,hle⟩
 ·exact hd k hk (hat▸e)
 ·have h1:=(h.own k hk).2
  rw[hb]at e
  simp only[Option.some.injEq]at e
  omega
theorem QV {ops:Array Oper}{rest:List Oper}{o:Oper}{a:Act}{Q:Exit->Act->World->Prop}{w0 W:World}(e0:Nat)(hgd:o.guard=none)(s x:Operand)
  (ho:o.op= .call { callee:= .builtin .append,args:=#[s,x],argTypes:=#[27,27]})
  (v:Value) (xs:List aj) (p:aj) (cs:List Value) (hs:a.eval s=v) (hx:a.eval x= .slice (some ⟨W.heap.size,0,none⟩) 1 1) (hp:Kd.eI bc W (fun k=>k<e0) p cs)
  (HO:iO W e0 v xs) (ak:Below e0 w0 W) (hbase:e0<=W.heap.size) (hl:(xs.length+1) * 32<=140737488355328)
  (h:∀v1 w1,iO w1 e0 v1 (xs++[p])->Below e0 w0 w1->W.grownBy w1 v.ownBlock->(v1.ownBlock=v.ownBlock\/∃b,v1.ownBlock=some b/\W.heap.size<=b)->wpList Tryz.prog ops Q rest (a.put o.dst v1) w1):
  wpList Tryz.prog ops Q (o::rest) a (W.alloc (.cells cs.toArray 33)):=by
 have hown:=HO.own
 obtain⟨rows,kz,hR,hf⟩:=HO
 refine Kd.LC (Kd.raw 2) e0 hgd s x 27 33 (.agg #[.int .i64 0,.slice none 0 0]) 32 ho Tryz.underlying27 jR rfl tA3 tA3 v rows cs cs (fun _=>True) (fun _=>False) hs hx (Kd.GR hp) (fun _ hk=>hk.elim) (fun _ _=>trivial) (Kd.yJ hR) ak hbase (by rw[kz];exact hl) ?_
 intro v1 w1 hr hb hg hat
 refine h v1 w1 ⟨rows++[cs],by simp[kz],Kd.F7 hr,fun j y c hy hc=>?_⟩ hb hg hat
 have hst:∀{y:aj} {c:List Value},Kd.eI bc W (fun k=>k<e0) y c->Kd.eI bc w1 (fun k=>k<e0) y c:=fun hq=>Kd.xa hq (fun k hk hlt=>hg.block k hlt (fun e=>by have:=(hown k e.symm).1;omega))
 by_cases hj:j<xs.length
 ·rw[qb hj]at hy
  rw[qb tA0]at hc
  exact hst (hf j y c hy hc)
 ·have vd:j=xs.length:=by
   have:=(iC.1 hy).1
   simp only[fZ,i6,List.length_nil]at this
   omega
  subst vd
  rw[List.getElem?_append_right (bl _)]at hy
  rw[List.getElem?_append_right tA0]at hc
  simp only[Nat.sub_self,List.getElem?_cons_zero,Option.some.injEq]at hy
  rw[kz,Nat.sub_self]at hc
  simp only[List.getElem?_cons_zero,Option.some.injEq]at hc
  rw[<- hy,<- hc]
  exact hst hp
theorem xV {W:World}{ok:Nat->Prop}{A:Option Addr}{xs:List aj}(h:Kd.F bc W ok A xs.length xs)(k:Nat)(hk:k<xs.length):∃ad aN c1,A=some ad/\W.cell? (ad.add (k * 2))=some (.int .i64 (bH xs (k:Int)).f0)/\W.cell? ⟨(ad.add (k * 2)).block,(ad.add (k * 2)).off+1,none⟩=some (.slice aN (bH xs (k:Int)).f1.length c1)/\(bH xs (k:Int)).f1.length<=c1/\Kd.F cf W ok aN (bH xs (k:Int)).f1.length (bH xs (k:Int)).f1:=by
 obtain⟨ad,aN,c1,e,x0,x1,fF,yT⟩:=rh (Kd.gY h) (k:Int) tA0 tA0
 subst e
 simp only[eQ]at x0 x1
 refine⟨ad,aN,c1,rfl,x0,x1,fF,?_⟩
 obtain⟨EK,c',e',_,Fv,hcc,_⟩:=Kd.V6 h z33 (k:Int) tA0 tA0
 simp only[Option.some.injEq]at e'
 subst e'
 obtain⟨fG,bb,ec,hl2,hF⟩:=Sl Fv
 subst ec
 have h1:=hcc 1 _ rfl
 have e2:(ad.add (((k:Int)).toNat * bc.sz+1))=⟨(ad.add (k * 2)).block,(ad.add (k * 2)).off+1,none⟩:=by
  rw[eQ]
  show ad.add (k * 2+1)=_
  unfold Addr.add
  by_cases h0:k * 2=0<;>simp[h0,Nat.add_assoc]
 rw[e2,x1]at h1
 simp only[Option.some.injEq,Value.slice.injEq]at h1
 obtain⟨rfl,_,_⟩:=h1
 exact hF
theorem iO.at {W:World}{e0:Nat}{A:Option Addr}{c:Nat}{xs:List aj}(h:iO W e0 (.slice A xs.length c) xs)(k:Nat)(hk:k<xs.length):∃g aN c1,A=some ⟨g,0,none⟩/\W.cell? ⟨g,k * 2,none⟩=some (.int .i64 (bH xs (k:Int)).f0)/\W.cell? ⟨g,k * 2+1,none⟩=some (.slice aN (bH xs (k:Int)).f1.length c1)/\(bH xs (k:Int)).f1.length<=c1/\Kd.F cf W (fun k=>k<e0) aN (bH xs (k:Int)).f1.length (bH xs (k:Int)).f1:=by
 obtain⟨g,rfl,_,_,_,_⟩:=LA h.N (fun e=>by rw[e]at hk;exact absurd hk tA2)
 obtain⟨rows,hl,hR,hf⟩:=h
 have dS:bH xs (k:Int)=xs.getD k z33:=by simp[bH]
 rw[dS]
 have hx:xs[k]?=some (xs.getD k z33):=by simp[List.getD,b8 hk]
 have hc:rows[k]?=some (rows.getD k []):=by simp[List.getD,b8 (show k<rows.length by omega)]
 obtain⟨aN,c1,ec,hle,hF⟩:=Sl (hf k _ _ hx hc)
 have qx:∀j u,(rows.getD k [])[j]?=some u->W.cell? ⟨g,k * 2+j,none⟩=some u:=fun j u hj=>by
  obtain⟨_,inner,ho,Je⟩:=hR
  have gO:=(Je.2 k _ hc).1
  rcases ho.2 with⟨e0,_⟩|⟨g',cap',cur,e0,h2,h3,h4,h5,h6,h7⟩
  ·cases e0
  ·injection e0 with u6 _ _
   injection u6 with u6
   injection u6 with eg
   rw[eg,mj h3]
   have vd:j<2:=by
    have:=(iC.1 hj).1
    rw[ec]at this
    simpa using this
   have e2:(inner.drop (k * 2)).take 2=rows.getD k []:=gO
   rw[<- e2,jC vd,List.getElem?_drop]at hj
   have hlen:k * 2+j<rows.length * 2:=tA0
   have Sy:cur.toList.take (rows.length * 2)=inner:=h7
   rw[<- Sy,jC hlen,Array.getElem?_toList]at hj
   exact hj
 rw[ec]at qx
 exact⟨g,aN,c1,rfl,qx 0 _ rfl,qx 1 _ rfl,hle,hF⟩
theorem apT {l h:Nat}(hs:l+h<=60):l * h<=900:=by
 have key:∀a b:Nat,a<=30->a+b<=60->a * b<=900:=fun a b ha hb=>by
  obtain⟨d,hd⟩:∃d,a+d=30:=⟨30-a,tA0⟩
  have h1:a * b<=a * (a+2 * d):=Nat.mul_le_mul_left _ tA0
  have h2:(a+d) * (a+d)=a * (a+2 * d)+d * d:=by
   rw[Nat.add_mul,Nat.mul_add,Nat.mul_add,Nat.mul_add,Nat.mul_comm d a,Nat.mul_left_comm a 2 d]
   omega
  rw[hd]at h2
  omega
 rcases Nat.le_total l 30 with h1|h1
 ·exact key l h h1 hs
 ·rw[Nat.mul_comm]
  exact key h l tA0 tA0
theorem aqB {a l h n:Nat}(hs:a+l+h<=62):a+l * h<=961:=by
 rcases Nat.eq_zero_or_pos l with e|hl
 ·subst e;simp;omega
 ·rcases Nat.eq_zero_or_pos h with e|hh
  ·subst e;simp;omega
  ·obtain⟨l',rfl⟩:∃l',l=l'+1:=⟨l-1,tA0⟩
   obtain⟨h',rfl⟩:∃h',h=h'+1:=⟨h-1,tA0⟩
   have:=apT (l:=l') (h:=h') tA0
   rw[Nat.add_mul,Nat.mul_add,Nat.one_mul,Nat.mul_one]
   omega
end Go.Proofs.YtjgakaembhmhpaaGreatDoor.PA
