/- Part of the proof of SetsChanged: the walk and the plain laws. It holds without further conditions. -/
import Derived.Test.YtjgakaembhmhpaaGreatDoorJAW
import Derived.Test.YtjgakaembhmhpaaGreatDoorJAV
set_option linter.unusedVariables false
set_option linter.unusedSimpArgs false
set_option maxHeartbeats 16000000
set_option maxRecDepth 100000
namespace Go.Proofs.YtjgakaembhmhpaaGreatDoor.PA
open Go.RowKit Go.Proofs.YtjgakaembhmhpaaGreatDoorW.PrintWords Go.Proofs.YtjgakaembhmhpaaGreatDoorW.PrintLast Go.Proofs.YtjgakaembhmhpaaGreatDoorW.PrintMore Go.Proofs.YtjgakaembhmhpaaGreatDoorM
theorem add_block (ad:Addr)(n:Nat):(ad.add n).block=ad.block:=by
 unfold Addr.add
 split<;>rfl
theorem akf {W:World}{T:Nat}{cs:Array Value}{ty:TypeId}(hT:W.heap[T]?=some (.cells cs ty (0,0)))(hcs:∀(i:Nat) (u:Value),cs[i]?=some u->∃A n c,u=Value.slice A n c){p:Addr}{v:Value}(h:W.cell? p=some v)(hv:∀A n c,v≠ .slice A n c):p.block≠T:=by
 intro e
 unfold World.cell? at h
 rw[e,hT]at h
 simp only at h
 split at h
 ·cases h
 ·obtain⟨A,n,c,e⟩:=hcs _ _ h
  exact hv A n c e
theorem OG {α:Type}{d:Kd α}{W W':World}{T:Nat}(hT:∀p v,W.cell? p=some v->(∀A n c,v≠ .slice A n c)->p.block≠T)(hW:∀p:Addr,p.block≠T->W'.cell? p=W.cell? p)(hK:∀x c,d.K W x c->d.K W' x c/\∃v r,c=v::r/\∀A n c',v≠ .slice A n c'){A:Option Addr}{n:Nat}{xs:List α}(h:Kd.C d W A n xs):Kd.C d W' A n xs:=by
 obtain⟨h1,h2,h3⟩:=h
 refine⟨h1,h2,fun hp=>?_⟩
 obtain⟨ad,e,hc⟩:=h3 hp
 refine⟨ad,e,fun j p hj=>?_⟩
 obtain⟨c,c1,bb,aM⟩:=hc j p hj
 obtain⟨k1,v,r,rfl,hv⟩:=hK p c bb
 have hb:ad.block≠T:=by
  have:=hT _ _ (aM 0 v rfl) hv
  rwa[add_block]at this
 exact⟨_,c1,k1,fun i u hu=>by rw[hW _ (by rw[add_block];exact hb)];exact aM i u hu⟩
def vX (T:Nat)(W:World):Prop:=∃A n c A' n' c',W.heap[T]?=some (.cells #[.slice A n c,.slice A' n' c'] 29 (0,0))
theorem vX.no {T:Nat}{W:World}(h:vX T W):∀p v,W.cell? p=some v->(∀A n c,v≠ .slice A n c)->p.block≠T:=by
 obtain⟨A,n,c,A',n',c',hT⟩:=h
 intro p v hp hv
 refine akf hT (fun i u hu=>?_) hp hv
 match i,hu with
 | 0,hu=>exact⟨A,n,c,by simpa using hu.symm⟩
 | 1,hu=>exact⟨A',n',c',by simpa using hu.symm⟩
 | i+2,hu=>simp at hu
theorem ar8 {W:World}{T i:Nat}{u:Value}{p:Addr}(h:p.block≠T):(W.setCell ⟨T,i,none⟩ u).cell? p=W.cell? p:=by
 unfold World.cell?
 rw[jZ W ⟨T,i,none⟩ u p.block h]
theorem NY {A A':Option Addr}{c c' T i:Nat}{l0:List aq}{l1:List aj}{W:World}{u:Value}(h:cD A c l0 A' c' l1 W)(hT:vX T W):cD A c l0 A' c' l1 (W.setCell ⟨T,i,none⟩ u):=by
 have hn:=hT.no
 have hw:∀p:Addr,p.block≠T->(W.setCell ⟨T,i,none⟩ u).cell? p=W.cell? p:=fun p hp=>ar8 hp
 refine⟨OG hn hw (fun x c hk=>⟨B3 _ _ _ _ hk,?_⟩) h.hs,h.hc,OG hn hw (fun x c hk=>?_) h.ks,h.kc,h.n1,h.n2,h.n3⟩
 ·obtain rfl:=Np hk
  exact⟨_,_,rfl,fun A n c' e=>by cases e⟩
 ·obtain⟨aN,c1,rfl,l1,g1⟩:=FV hk
  exact⟨⟨[.int .i64 x.f0],[.slice aN x.f1.length c1],rfl,rfl,aN,c1,rfl,l1,OG hn hw (fun y c0 hy=>⟨B4 _ _ _ _ hy,by
   obtain rfl:=Ue hy
   exact⟨_,_,rfl,fun A n c' e=>by cases e⟩⟩) g1⟩,_,_,rfl,fun A n c' e=>by cases e⟩
def ZS (T:Nat)(q0:List aq)(q1:List aj)(W:World):Prop:=∃X cx X' cx',W.heap[T]?=some (.cells #[.slice X q0.length cx,.slice X' q1.length cx'] 29 (0,0))/\cD X cx q0 X' cx' q1 W
section
variable {T T':Nat}{q0 p0:List aq}{q1 p1:List aj}{W W':World}{X X':Option Addr}{n n' cx cx':Nat}
theorem ZS.below (h:ZS T q0 q1 W)(hb:Below W.heap.size W W'):ZS T q0 q1 W':=by
 obtain⟨X,cx,X',cx',h1,h2⟩:=h
 exact⟨X,cx,X',cx',av h1 hb,h2.below hb⟩
theorem ZS.new (W:World):ZS W.heap.size [] [] (W.alloc (.cells #[.slice none 0 0,.slice none 0 0] 29)):=⟨none,0,none,0,a8 W _,cD.none _⟩
theorem ZS.tx (h:ZS T q0 q1 W)(hz:vX T' W)(hne:T≠T'):ZS T q0 q1 ((W.setCell ⟨T',0,none⟩ (.slice X n cx)).setCell ⟨T',1,none⟩ (.slice X' n' cx')):=by
 obtain⟨Y,c0,ek,ep,h1,h2⟩:=h
 obtain⟨B,m,e,B',m',e',hz'⟩:=hz
 have c2:vX T' (W.setCell ⟨T',0,none⟩ (.slice X n cx)):=⟨X,n,cx,B',m',e',a6 hz' 0 _ rfl⟩
 exact⟨Y,c0,ek,ep,(jZ _ ⟨T',1,none⟩ _ _ hne).trans ((jZ _ ⟨T',0,none⟩ _ _ hne).trans h1),NY (NY h2 ⟨B,m,e,B',m',e',hz'⟩) c2⟩
theorem ZS.put (h:vX T W)(hs:cD X cx p0 X' cx' p1 W):ZS T p0 p1 ((W.setCell ⟨T,0,none⟩ (.slice X p0.length cx)).setCell ⟨T,1,none⟩ (.slice X' p1.length cx')):=by
 obtain⟨B,m,e,B',m',e',hz⟩:=h
 have c2:=a6 hz 0 (.slice X p0.length cx) rfl
 exact⟨X,cx,X',cx',a6 c2 1 _ rfl,NY (NY hs ⟨B,m,e,B',m',e',hz⟩) ⟨_,_,_,_,_,_,c2⟩⟩
end
structure nL (T:Nat)(X:Option Addr)(cx:Nat)(q0:List aq)(X':Option Addr)(cx':Nat)(q1:List aj)(W:World):Prop where
 s:cD X cx q0 X' cx' q1 W
 x:W.heap[T]?=some (.cells #[.slice X q0.length cx,.slice X' q1.length cx'] 29 (0,0))
section
variable {T:Nat}{X X':Option Addr}{cx cx':Nat}{q0:List aq}{q1:List aj}{W W':World}
theorem nL.below (h:nL T X cx q0 X' cx' q1 W)(hb:Below W.heap.size W W'):nL T X cx q0 X' cx' q1 W':=⟨h.s.below hb,av h.x hb⟩
theorem nL.new (h:cD X cx q0 X' cx' q1 W):nL W.heap.size X cx q0 X' cx' q1 (W.alloc (.cells #[.slice X q0.length cx,.slice X' q1.length cx'] 29)):=⟨h.below (ax (Below.refl _ _) _),a8 W _⟩
theorem nL.cells (h:nL T X cx q0 X' cx' q1 W):W.cell? ⟨T,0,none⟩=some (.slice X q0.length cx)/\W.cell? ⟨T,1,none⟩=some (.slice X' q1.length cx'):=⟨ah h.x 0,ah h.x 1⟩
end
structure Eo (A A' X X' ed:Option Addr)(c c' cx cx' dR:Nat)(l0 r0:List aq)(l1 r1:List aj)(f:aj)(gv nw w6:Nat)(W:World):Prop where
 a:nL gv A c l0 A' c' l1 W
 b:nL nw X cx r0 X' cx' r1 W
 g:gl ed dR f W
 jx:W.heap[w6]?=some (.cells #[.int .i64 f.f0,.slice ed f.f1.length dR] 33 (0,0))
 tb:TabW W
section
variable {A A' X X' ed:Option Addr}{c c' cx cx' dR:Nat}{l0 r0:List aq}{l1 r1:List aj}{f:aj}{gv nw w6:Nat}{W W':World}
theorem Eo.below (h:Eo A A' X X' ed c c' cx cx' dR l0 r0 l1 r1 f gv nw w6 W)(hb:Below W.heap.size W W'):Eo A A' X X' ed c c' cx cx' dR l0 r0 l1 r1 f gv nw w6 W':=
 ⟨h.a.below hb,h.b.below hb,h.g.below hb,av h.jx hb,h.tb.below hb⟩
theorem Eo.cells (h:Eo A A' X X' ed c c' cx cx' dR l0 r0 l1 r1 f gv nw w6 W):(W.cell? ⟨gv,0,none⟩=some (.slice A l0.length c)/\W.cell? ⟨gv,1,none⟩=some (.slice A' l1.length c'))/\(W.cell? ⟨nw,0,none⟩=some (.slice X r0.length cx)/\W.cell? ⟨nw,1,none⟩=some (.slice X' r1.length cx'))/\(W.cell? ⟨w6,0,none⟩=some (.int .i64 f.f0)/\W.cell? ⟨w6,1,none⟩=some (.slice ed f.f1.length dR)):=
 ⟨h.a.cells,h.b.cells,ah h.jx 0,ah h.jx 1⟩
end
theorem aso {y:ByteArray}{l:List ByteArray}(h:y∈l)(hl:l.all (fun s=>decide (s.size<=100))=true):y.size<=100:=by
 have:=List.all_eq_true.1 hl y h
 simpa using this
theorem ajh {w0 W:World}{g:Nat}{d:List Int}{b:Nat}(hst:dV w0 W g d b)(hb:b<=1000000)(hB:Below w0.heap.size w0 W)(l:List ByteArray)(hl:1<=l.length)(hl2:l.length<=1000)(hs:l.all (fun s=>decide (s.size<=100))=true)(n:Nat)(hn:n=l.length):
  Calls Tryz.prog 8 #[.pointer (some ⟨g,0,none⟩),.slice (some ⟨W.heap.size,0,none⟩) n n] (W.alloc (.cells (l.map Value.string).toArray 9)) fun e w'=>∃r,e= .returned (.string r)/\af (r.size<=100)/\af (dV w0 w' g d (b+1))/\af (Below w0.heap.size w0 w')/\af (bF W w' g none):=by
 subst hn
 have hb1:=ax (Below.refl W.heap.size W) (.cells (l.map Value.string).toArray 9)
 exact(QY (hst.below hb1) hb (cm hB hB.size hb1) W.heap.size l.length l (a8 W _) (bl _) hl hl2).mono fun e w' ⟨r,he,hr,h1,h2,h3⟩=>⟨r,he,⟨aso hr hs⟩,⟨h1⟩,⟨h2⟩,⟨(bF.gF hb1 g none).trans h3 (.inl rfl)⟩⟩
section
variable {A A' X X' ed:Option Addr}{c c' cx cx' dR:Nat}{l0 r0:List aq}{l1 r1:List aj}{f:aj}{s:ByteArray}{w W:World}{q p t:Int}{hP:Bool}{m0:List aq}{m1:List aj}{me:Int}
theorem XT (h:cD A c l0 A' c' l1 w)(hs:cQ l0 l1=q):Calls Tryz.prog 11 #[.agg #[.slice A l0.length c,.slice A' l1.length c']] w fun e w'=>e= .returned (.int .i64 q)/\Below w.heap.size w w':=
 (XV h).mono fun e w' ⟨he,hb⟩=>⟨by rw[he,hs],hb⟩
theorem aia (Y:Nat)(a b:Int)(h:w.heap[Y]?=some (.cells #[.int .i64 a,.int .i64 b] 40 (0,0)))(hp:(if a=0 then b else a)=p):Calls Tryz.prog 17 #[.slice (some ⟨Y,0,none⟩) 2 2] w fun e w'=>e= .returned (.int .i64 p)/\Below w.heap.size w w':=
 (aly Y 40 a b w h).mono fun e w' ⟨he,hb⟩=>⟨by rw[he,hp],hb⟩
theorem aib (h:cD A c l0 A' c' l1 w)(g:cD X cx r0 X' cx' r1 w)(hb:decide (l0.map (·.f0)=r0.map (·.f0))=hP):Calls Tryz.prog 31 #[.agg #[.slice A l0.length c,.slice A' l1.length c'],.agg #[.slice X r0.length cx,.slice X' r1.length cx']] w fun e w'=>e= .returned (.bool hP)/\Below w.heap.size w w':=
 (ap0 h g).mono fun e w' ⟨he,h2⟩=>⟨by rw[he,hb],h2⟩
theorem ail (a:Bool)(v:Int)(w:World)(h:(if a=true then v else 0)=t):Calls Tryz.prog 22 #[.bool a,.int .i64 v] w fun e w'=>e= .returned (.int .i64 t)/\Below w.heap.size w w':=
 (as0 a v w).mono fun e w' ⟨he,hb⟩=>⟨by rw[he,h],hb⟩
theorem asO (h1:cQ l0 l1=q){q2:Int}(h2:cQ r0 r1=q2)(hp:(if q=0 then q2 else q)=p)(hb:decide (l0.map (·.f0)=r0.map (·.f0))=hP):np l0 l1 r0 r1=if p=0 then(if(!hP)=true then 3 else 0)else p:=by
 unfold np
 subst h1
 subst h2
 subst hp
 by_cases c2:cQ l0 l1=0
 ·rw[if_pos c2,if_pos c2]
  by_cases z2:cQ r0 r1=0
  ·rw[if_pos z2,if_pos z2]
   by_cases z3:l0.map (·.f0)=r0.map (·.f0)
   ·rw[if_pos z3,<- hb,bn z3];rfl
   ·rw[if_neg z3,<- hb,cE z3];rfl
  ·rw[if_neg z2,if_neg z2]
 ·rw[if_neg c2,if_neg c2,if_neg c2]
theorem aif (h:cD A c l0 A' c' l1 w)(g:cD X cx r0 X' cx' r1 w){all:List aj}(h0:np l0 l1 r0 r1=0)(oM:l1++r1=all):
  Calls Tryz.prog 33 #[.agg #[.slice A l0.length c,.slice A' l1.length c'],.agg #[.slice X r0.length cx,.slice X' r1.length cx']] w fun e w'=>∃Y c0 ek ep,e= .returned (.agg #[.slice Y (mX l0 r0).length c0,.slice ek all.length ep])/\cD Y c0 (mX l0 r0) ek ep all w'/\Below w.heap.size w w':=
 let ⟨a,b,c⟩:=Gt h0
 oM▸aiu h g a b c
theorem aik (h:cD A c l0 A' c' l1 w)(h0:cQ l0 l1=0)(ht:TabW w):
  Calls Tryz.prog 35 #[.agg #[.slice A l0.length c,.slice A' l1.length c']] w fun e w'=>∃Y c0 ek ep,e= .returned (.agg #[.slice Y l0.length c0,.slice ek (dT l1).length ep])/\cD Y c0 l0 ek ep (dT l1) w'/\Below w.heap.size w w':=by
 have hv:=iT h0
 refine(ad2 h.hs h.hc (Kd.vF zP h.ks) h.kc (fun k hk=>hk) tD3 (by have:=hv.cl;omega) (fun f hf=>(pO.of (J5 h0 f hf) (by rw[fc];have:=hv.len;omega)).k) ht).mono ?_
 rintro e w' ⟨Y,c0,ek,ep,he,h1,h2,hb⟩
 exact⟨Y,c0,ek,ep,he,yN h1 h2 (J3 h.names),hb⟩
theorem Vg (h0:cQ l0 l1=0)(hm:s∈l0.map (·.f0)):(eV l0 s).f1.natAbs<=1000000/\(eV l0 s).f2.natAbs<=1000000:=by
 have h1:=((iT h0).sd _ (Vf hm).1).2
 omega
theorem Uq (h:kQ l0 s=0):eE s=true/\s∈l0.map (·.f0):=by
 rw[acw]at h
 by_cases h1:eE s=true
 ·rw[if_pos h1]at h
  by_cases h2:(l0.any fun y=>decide (y.f0=s))=true
  ·exact⟨h1,LN.1 h2⟩
  ·rw[if_neg h2]at h;exact absurd h tA3
 ·rw[if_neg h1]at h;exact absurd h tA3
theorem Yp (h0:cQ l0 l1=0)(hn:kQ l0 s=0):∀f∈fS s (eV l0 s)++l1,pO f:=fun f hf=>by
 obtain⟨h1,h2⟩:=Uq hn
 obtain⟨h3,h4⟩:=Vg h0 h2
 exact(List.mem_append.1 hf).elim (adG h1 h3 h4 f) (fun h=>pO.of (J5 h0 f h) (by rw[fc];have:=(iT h0).len;omega))
theorem apU (a b c:Nat)(h:c+a+b<=62):c+a * b<=1000:=by
 have key:∀a:Fin 63,∀b:Fin 63,a.val+b.val<=62->(62-a.val-b.val)+a.val * b.val<=1000:=by decide+kernel
 have:=key ⟨a,tA0⟩ ⟨b,tA0⟩ (by show a+b<=62;omega)
 simp only at this
 omega
theorem ase (s:ByteArray)(all:List aj)(h:all.length<=62):(nk s all).length<=1000:=by
 rw[<- Zk,fZ,aqz]
 have:=UM s all
 exact apU _ _ _ tA0
theorem ap2 {l:List aj}(h:∀f∈l,qM f)(hl:l.length<=1000)(hs:∀x∈l0,x.f0.size<=100):Names l0 l:=
 ⟨hs,hl,fun f hf=>⟨by have:=(h f hf).len;omega,fun t ht=>(vv ((h f hf).ok t ht)).2⟩⟩
theorem aij (h:cD A c l0 A' c' l1 w)(h0:cQ l0 l1=0)(hn:kQ l0 s=0)(ht:TabW w):
  Calls Tryz.prog 36 #[.agg #[.slice A l0.length c,.slice A' l1.length c'],.string s] w fun e w'=>∃Y c0 ek ep,e= .returned (.agg #[.slice Y (dE l0 s).length c0,.slice ek (dT (nk s (fS s (eV l0 s)++l1))).length ep])/\cD Y c0 (dE l0 s) ek ep (dT (nk s (fS s (eV l0 s)++l1))) w'/\Below w.heap.size w w':=by
 have hv:=iT h0
 obtain⟨h1,h2⟩:=Uq hn
 obtain⟨h3,h4⟩:=Vg h0 h2
 have hq:=Yp h0 hn
 refine(asf h h1 h2 tD3 hv.cl h3 h4 (fun f hf=>hq f (List.mem_append.2 (.inr hf))) ht).mono ?_
 rintro e w' ⟨Y,c0,ek,ep,he,k1,k2,hb⟩
 refine⟨Y,c0,ek,ep,he,yN k1 k2 (J3 (ap2 (adD hq) (ase s _ ?_) (fun x hx=>h.n1 x (NS _ _ x hx)))),hb⟩
 rw[fZ]
 have:=hv.cl
 show 2+l1.length<=62
 omega
theorem aqT {f g:aj}{s:ByteArray}(hf:ou f)(hg:ou g):(fp f s g).f1.length<=1000/\∀t∈(fp f s g).f1,t.f0.size<=100:=by
 constructor
 ·have h1:=adQ ⟨f.f0,dm f.f1 s⟩ 1 g (bu f.f1 s)
  have h2:(dm f.f1 s).length<=f.f1.length:=List.length_filter_le _ _
  have h3:=hf.len
  have h4:=hg.len
  unfold fp
  show _<=1000
  have h5:(dY ⟨f.f0,dm f.f1 s⟩ 1 g (bu f.f1 s)).f1.length<=(dm f.f1 s).length+g.f1.length:=h1
  omega
 ·intro t ht
  obtain⟨v,hv,e⟩:=NA _ t ht
  rw[<- e]
  rcases List.mem_append.1 hv with hv|hv
  ·obtain⟨u,hu,rfl⟩:=List.mem_map.1 hv
   exact(vv (hf.ok u (wO _ _ u hu))).2
  ·obtain⟨u,hu,rfl⟩:=List.mem_map.1 hv
   exact(vv (hg.ok u hu)).2
theorem aie (h:cD A c l0 A' c' l1 w)(hg:gl ed dR f w)(h0:cQ l0 l1=0)(hn:kQ l0 s=0)(ho:gG ((dE l0 s).map (·.f0)) f=0):
  Calls Tryz.prog 38 #[.agg #[.slice A l0.length c,.slice A' l1.length c'],.string s,.agg #[.int .i64 f.f0,.slice ed f.f1.length dR]] w fun e w'=>∃Y c0 ek ep,e= .returned (.agg #[.slice Y (dE l0 s).length c0,.slice ek (sK s (eV l0 s) l1 f).length ep])/\cD Y c0 (dE l0 s) ek ep (sK s (eV l0 s) l1 f) w'/\Below w.heap.size w w':=by
 have hv:=iT h0
 obtain⟨h1,h2⟩:=Uq hn
 obtain⟨h3,h4⟩:=Vg h0 h2
 have hq:=Yp h0 hn
 have u9:ou f:=ou.of (UC ho) (by rw[fc];have:=adk h2;have:=hv.len;omega)
 refine(apP h hg h1 h2 tD3 (by have:=hv.cl;omega) h3 h4 (fun x hx=>(hq x (List.mem_append.2 (.inr hx))).s) u9).mono ?_
 rintro e w' ⟨Y,c0,ek,ep,he,k1,k2,hb⟩
 refine⟨Y,c0,ek,ep,he,yN k1 k2 ⟨fun x hx=>h.n1 x (NS _ _ x hx),?_,fun x hx=>?_⟩,hb⟩
 ·unfold sK
  rw[fc,fZ]
  have:=hv.cl
  show 2+l1.length<=1000
  omega
 ·obtain⟨y,hy,rfl⟩:=List.mem_map.1 hx
  exact aqT (hq y hy).s u9
theorem aih (h:cD A c l0 A' c' l1 w)(hs:s.size<=100)(hn:kQ l0 s=t)(Y:Nat)(hY:w.heap[Y]?=some (.cells #[.string s] 9 (0,0))):
  Calls Tryz.prog 18 #[.agg #[.slice A l0.length c,.slice A' l1.length c'],.slice (some ⟨Y,0,none⟩) 1 1] w fun e w'=>e= .returned (.int .i64 t)/\Below w.heap.size w w':=
 (ap1 (L:=[s]) (cN:=1) h (kY.reads (xs:=[s]) hY tA2) tA2 tA2 (fun n hn=>by rw[il.1 hn];exact hs)).mono fun e w' ⟨he,hb⟩=>⟨by rw[he];show Ending.returned (.int .i64 (kQ l0 s))=_;rw[hn],hb⟩
theorem aic (hg:gl ed dR f w)(ht:su f.f0 f.f1=t):Calls Tryz.prog 37 #[.agg #[.int .i64 f.f0,.slice ed f.f1.length dR]] w fun e w'=>e= .returned (.int .i64 t)/\Below w.heap.size w w':=
 (gV.calls 300000 f.f0 ed dR f.f1 _ w hg.tm hg.tc (ZO f.f0 f.f1 (by have:=hg.n1;omega) hg.n2 300000 (by have:=hg.n1;omega))).mono fun e w' ⟨he,hb⟩=>⟨by rw[he,ht],hb⟩
theorem aii (h:cD A c l0 A' c' l1 w)(hg:gl ed dR f w)(hl:l0.length<=1000)(ho:gG (l0.map (·.f0)) f=t):
  Calls Tryz.prog 16 #[.agg #[.slice A l0.length c,.slice none 0 0],.agg #[.int .i64 f.f0,.slice ed f.f1.length dR]] w fun e w'=>e= .returned (.int .i64 t)/\Below w.heap.size w w':=
 (XW (A:=A) (c:=c) (A':=none) (c':=0) (l0:=l0) (l1:=[]) ⟨h.hs,h.hc,Kd.yY _ _,bl _,h.n1,tA2,tA2⟩ hg hl).mono fun e w' ⟨he,hb⟩=>⟨by rw[he,ho],hb⟩
theorem Lt (h:cD A c l0 A' c' l1 w)(e:lO l0 l1=(m0,m1,me)):Calls Tryz.prog 32 #[.agg #[.slice A l0.length c,.slice A' l1.length c']] w fun e w'=>∃X cx X' cx',e= .returned (.tuple #[.agg #[.slice X m0.length cx,.slice X' m1.length cx'],.int .i64 me])/\cD X cx m0 X' cx' m1 w'/\Below w.heap.size w w':=ako h e
theorem Lu (h:cD A c m0 A' c' m1 w)(g:cD X cx m0 X' cx' m1 w):Calls Tryz.prog 39 #[.agg #[.slice A m0.length c,.slice A' m1.length c'],.agg #[.slice X m0.length cx,.slice X' m1.length cx']] w fun e w'=>e= .returned (.bool true)/\Below w.heap.size w w':=
 (ar3 h g).mono fun e w' ⟨he,hb⟩=>⟨by rw[he,(Sc _ _).2 rfl,(Sb _ _).2 rfl];rfl,hb⟩
theorem XU (h:cD A c l0 A' c' l1 w)(e:cQ l0 l1=0){P:List (List Int)}(jQ:j6 l0 l1=P):Calls Tryz.prog 34 #[.agg #[.slice A l0.length c,.slice A' l1.length c']] w fun e w'=>∃(Y:Option Addr) (c0:Nat),e= .returned (.slice Y P.length c0)/\Kd.C (Kd.slice 3 (Kd.int .i64)) w' Y P.length P/\Below w.heap.size w w':=by
 subst jQ
 exact aip h e
theorem aid {P Q:List (List Int)}(h0:Kd.C (Kd.slice 3 (Kd.int .i64)) w A P.length P)(h1:Kd.C (Kd.slice 3 (Kd.int .i64)) w X Q.length Q)(hb:decide (P=Q)=hP):Calls Tryz.prog 23 #[.slice A P.length c,.slice X Q.length cx] w fun e w'=>e= .returned (.bool hP)/\Below w.heap.size w w':=
 (ai9 A c P X cx Q w h0 h1).mono fun e w' ⟨he,h2⟩=>⟨by rw[he,hb],h2⟩
end
theorem apR {A A':Option Addr}{c c':Nat}{l0:List aq}{l1:List aj}{W:World}(h:cD A c l0 A' c' l1 W):cD A c l0 A' c' l1 W:=h
theorem apv (a0:Option Addr)(bf:Nat)(z:List Int)(w:World)(hr:Kd.C (Kd.int .i64) w a0 z.length z)(hc:z.length<=bf)(ht:TabW w):
  Calls Tryz.prog 4 #[.slice a0 z.length bf] w fun e w'=>e= .returned (.bool true)/\Below w.heap.size w w':=by
 have hst:dV w (w.alloc (.cells #[.slice a0 z.length bf,.int .i64 0] 25)) w.heap.size z 0:=⟨0,Int.le_refl _,Int.le_refl _,a0,bf,a8 w _,bl _,hr⟩
 have fU:=ae (Two.VV w _ w.heap.size 0 z hst tA0 (ax (Below.refl _ _) _))
 have b9:=ae ht
 have pj:af (∀W,dV w W w.heap.size z 3000->Below w.heap.size w W->Calls Tryz.prog 8 #[.pointer (some ⟨w.heap.size,0,none⟩),.slice (some ⟨W.heap.size,0,none⟩) 6 6] (W.alloc (.cells #[.string ⟨#[105]⟩,.string ⟨#[106]⟩,.string ⟨#[105]⟩,.string ⟨#[107]⟩,.string ⟨#[122,122]⟩,.string ⟨#[]⟩] 9)) fun e w'=>∃r,e= .returned (.string r)/\af (r.size<=100)/\af (dV w w' w.heap.size z 3001)/\af (Below w.heap.size w w')/\af (bF W w' w.heap.size none)):=⟨fun W h1 h2=>ajh h1 tA0 h2 [⟨#[105]⟩,⟨#[106]⟩,⟨#[105]⟩,⟨#[107]⟩,⟨#[122,122]⟩,⟨#[]⟩] tA3 tA3 tA3 6 rfl⟩
 clear hst hr ht
 go_enter Tryz.func4,Tryz.ntmps4
 go_wp2_with (go_at_call 5;refine fU.o.mono ?_;rintro e w2 ⟨A,c,l0,A',c',l1,rfl,hle,hm,⟨⟨mZ,fa,CQ,aaU,aoc⟩,kb⟩,abF,ZW⟩;have pg:=ae hle;have dC:=ae hm;have lu:=ae fa;have xx:=ae CQ;have KG:=ae aaU;have PQ:=ae abF;have aI:=ae ZW;clear hle hm fa CQ aaU aoc kb abF ZW)
 have AZ:=ae (ax (Below.refl w2.heap.size w2) (.cells #[.slice A l0.length c,.slice A' l1.length c'] 29))
 have rb:=ae (a8 w2 (.cells #[.slice A l0.length c,.slice A' l1.length c'] 29))
 have Hd:af (w.heap.size<w2.heap.size):=⟨PQ.o.lt⟩
 generalize Na:w2.heap.size=gv at rb ⊢
 have K8:=ae Na
 clear Na
 generalize aoz:w2.alloc (.cells #[.slice A l0.length c,.slice A' l1.length c'] 29)=VH at *
 clear aoz fU
 have bR:=ae (cm aI.o aI.o.size AZ.o)
 have HO:=ae (Two.aiL (w0:=w) (w:=VH) (g:=w.heap.size) (b:=1000) (d:=z) (c:=c) (c':=c') (fun W b h1 h2 h3=>Two.VV w W _ b z h1 h2 h3) (PQ.o.below AZ.o) tA0 bR.o (Kd.fH lu.o AZ.o) (Kd.fH (Kd.mb xx.o) AZ.o) KG.o pg.o dC.o)
 have aK:VH.cell? ⟨gv,0,none⟩=some (.slice A l0.length c):=ah rb.o 0
 have aC:VH.cell? ⟨gv,1,none⟩=some (.slice A' l1.length c'):=ah rb.o 1
 go_wp2_with (first|(go_at_call 25;refine HO.o.mono ?_;intro e w3 hR;unfold Two.QU at hR;obtain⟨X,cx,r0,X',cx',r1,rfl,I4,FI,⟨na,fb,Zr,hgb⟩,Jf,tC,hk3⟩:=hR;have KR:=ae I4;have xv:=ae FI;have jK:=ae fb;have WB:=ae Zr;have pc:=ae hgb;have K4:=ae Jf;have bS:=ae tC;have qR:=ae hk3;clear I4 FI fb Zr hgb Jf tC hk3 HO aK aC)|(go_at_call 8;refine(pj.o _ K4.o bS.o).mono ?_;rintro e w4 ⟨name,rfl,jV,Xs,cO,vJ⟩)|(go_at_call 6;refine(aeT w w4 w.heap.size 3001 z Xs.o tA0 cO.o).mono ?_;rintro e aZ ⟨F,cap,a,l,rfl,hl,hF,oA,ahu,bq,qT⟩;have pV:=ae hl;clear hl hF))
 have agz:=Hd.o
 have KL:=ae (vJ.o.trans qT.o (.inl rfl))
 have KM:=ae (qR.o.trans KL.o (.inl rfl))
 have A1:=ae (ax (ax (Below.refl aZ.heap.size aZ) (.cells #[.slice X r0.length cx,.slice X' r1.length cx'] 29)) (.cells #[.int .i64 a,.slice (some ⟨F,0,none⟩) l.length cap] 33))
 have dL:=ae (aH (a8 aZ (.cells #[.slice X r0.length cx,.slice X' r1.length cx'] 29)) (.cells #[.int .i64 a,.slice (some ⟨F,0,none⟩) l.length cap] 33))
 have Ql:af (((aZ.alloc (.cells #[.slice X r0.length cx,.slice X' r1.length cx'] 29)).alloc (.cells #[.int .i64 a,.slice (some ⟨F,0,none⟩) l.length cap] 33)).heap[aZ.heap.size+1]?=some (.cells #[.int .i64 a,.slice (some ⟨F,0,none⟩) l.length cap] 33 (0,0))):=⟨by have:=a8 (aZ.alloc (.cells #[.slice X r0.length cx,.slice X' r1.length cx'] 29)) (.cells #[.int .i64 a,.slice (some ⟨F,0,none⟩) l.length cap] 33);simpa using this⟩
 generalize Nb:aZ.heap.size=nw at dL Ql ⊢
 clear Nb
 generalize aor:nw+1=w6 at *
 clear aor
 generalize FO:((aZ.alloc (.cells #[.slice X r0.length cx,.slice X' r1.length cx'] 29)).alloc (.cells #[.int .i64 a,.slice (some ⟨F,0,none⟩) l.length cap] 33))=bt at *
 clear FO
 have bA:=ae (cm bq.o bq.o.size A1.o)
 have WT:af (gv≠w.heap.size):=⟨by have h1:=K8.o;omega⟩
 have br:af (Eo A A' X X' (some ⟨F,0,none⟩) c c' cx cx' cap l0 r0 l1 r1 ⟨a,l⟩ gv nw w6 bt):=⟨by
  have ca:=apR (Two.acr dC.o pg.o (Kd.gY (Kd.AW (Kd.fH lu.o AZ.o) KM.o (fun k hk e=>KG.o (e▸hk)))) (Kd.gY (Kd.AW (Kd.fH (Kd.mb xx.o) AZ.o) KM.o (fun k hk e=>KG.o (e▸hk)))))
  have FQ:=(KM.o.2 _ (az rb.o) WT.o tA2).trans rb.o
  have hle:=KR.o
  have hm:=xv.o
  have h7:cn bt F cap l:=oA.o.below A1.o
  refine⟨⟨ca.below A1.o,av FQ A1.o⟩,⟨⟨Kd.bN (Kd.gY (Kd.AW jK.o KL.o (fun k hk e=>pc.o (e▸hk)))) A1.o,hle.1,Kd.bN (Kd.gY (Kd.AW WB.o KL.o (fun k hk e=>pc.o (e▸hk)))) A1.o,hle.2,fun s hs=>bj (hm.2.1 s hs) tA3,by have:=hm.2.2.1;omega,fun f hf=>⟨by have:=(hm.2.2.2 f hf).1;omega,fun t ht=>bj ((hm.2.2.2 f hf).2 t ht) tA3⟩⟩,dL.o⟩,⟨Kd.gY (h7.F (by have:=pV.o.1;omega)),?_,by have:=pV.o.1;show l.length<=1000;omega,fun t ht=>by have:=pV.o.2 t ht;unfold n4 at this;omega⟩,Ql.o,TabW.below b9.o bA.o⟩
  obtain⟨_,_,h2,_⟩:=h7
  exact h2⟩
 clear pg dC lu xx KG PQ aI AZ rb Hd agz K8 bR KR xv jK WB pc K4 bS qR Xs cO vJ pV oA ahu bq qT KL KM A1 dL Ql WT b9 pj
 obtain⟨q1,zi⟩:∃q,af (cQ l0 l1=q):=⟨_,⟨rfl⟩⟩
 obtain⟨q2,PG⟩:∃q,af (cQ r0 r1=q):=⟨_,⟨rfl⟩⟩
 have er:af (∀W:World,Below bt.heap.size bt W->((W.cell? ⟨gv,0,none⟩=some (.slice A l0.length c)/\W.cell? ⟨gv,1,none⟩=some (.slice A' l1.length c'))/\(W.cell? ⟨nw,0,none⟩=some (.slice X r0.length cx)/\W.cell? ⟨nw,1,none⟩=some (.slice X' r1.length cx')))):=⟨fun W hb=>⟨(br.o.below hb).a.cells,(br.o.below hb).b.cells⟩⟩
 have s6:af (∀W:World,Below bt.heap.size bt W->Calls Tryz.prog 11 #[.agg #[.slice A l0.length c,.slice A' l1.length c']] W fun e w'=>e= .returned (.int .i64 q1)/\Below bt.heap.size bt w'):=⟨fun W hb=>(XT (br.o.below hb).a.s zi.o).mono fun e w' ⟨he,h⟩=>⟨he,au hb h⟩⟩
 have Ha:af (∀W:World,Below bt.heap.size bt W->Calls Tryz.prog 11 #[.agg #[.slice X r0.length cx,.slice X' r1.length cx']] W fun e w'=>e= .returned (.int .i64 q2)/\Below bt.heap.size bt w'):=⟨fun W hb=>(XT (br.o.below hb).b.s PG.o).mono fun e w' ⟨he,h⟩=>⟨he,au hb h⟩⟩
 go_upto_region 4 with(fail)
 go_region_held3 (fun W=>((W.cell? ⟨gv,0,none⟩=some (.slice A l0.length c)/\W.cell? ⟨gv,1,none⟩=some (.slice A' l1.length c'))/\(W.cell? ⟨nw,0,none⟩=some (.slice X r0.length cx)/\W.cell? ⟨nw,1,none⟩=some (.slice X' r1.length cx')))) (first|assumption|exact er.o _ (cB (Below.refl _ _))|exact er.o _ ov.o|exact er.o _ gZ.o) (first|(go_simp;go_at_call 11;with_reducible(refine(s6.o _ (cB (Below.refl _ _))).mono ?_);rintro e cz ⟨rfl,hb⟩;have ov:=ae hb;clear hb)|(go_simp;go_at_call 11;with_reducible(refine(Ha.o _ ov.o).mono ?_);rintro e cr ⟨rfl,hb⟩;have gZ:=ae hb;clear hb))
 have cL:=gZ
 replace bA:=ae (cm bA.o bA.o.size cL.o)
 replace br:=ae (br.o.below cL.o)
 clear cL ov gZ er s6 Ha
 obtain⟨m0,m1,me,Ld⟩:∃a0 a1 a2,af (JD l0 l1 r0 r1=(a0,a1,a2)):=⟨_,_,_,⟨rfl⟩⟩
 obtain⟨⟨aK,aC⟩,⟨bM,eH⟩,jr,gi⟩:=br.o.cells
 have j8:=az br.o.a.x
 have j9:=az br.o.b.x
 have kd:=az br.o.jx
 go_upto_region 6 with(go_at_call 26;refine(aiv br.o.a.s br.o.b.s Ld.o).mono ?_;intro e wn hI;unfold zA at hI;obtain⟨M,Ma,M',Mb,rfl,hS,hb⟩:=hI;have q8:=ae hS;have qO:=ae hb;clear hS hb)
 clear aK aC bM eH jr gi j8 j9 kd
 have pZ:=ae (nL.new q8.o)
 have cL:=ae (au qO.o (ax (Below.refl wn.heap.size wn) (.cells #[.slice M m0.length Ma,.slice M' m1.length Mb] 29)))
 generalize hT:wn.heap.size=Yh at pZ ⊢
 clear hT
 generalize hwx:wn.alloc (.cells #[.slice M m0.length Ma,.slice M' m1.length Mb] 29)=DD at *
 clear hwx q8 qO
 replace bA:=ae (cm bA.o bA.o.size cL.o)
 replace br:=ae (br.o.below cL.o)
 clear cL
 obtain⟨t,Br⟩:∃t,af (np l0 l1 r0 r1=t):=⟨_,⟨rfl⟩⟩
 obtain⟨ml,K5⟩:∃b,af (JX l0 l1 r0 r1=b):=⟨_,⟨rfl⟩⟩
 obtain⟨⟨aK,aC⟩,⟨bM,eH⟩,jr,gi⟩:=br.o.cells
 have j8:=az br.o.a.x
 have j9:=az br.o.b.x
 have kd:=az br.o.jx
 go_upto_region 7 with(go_at_call 27;refine(aja br.o.a.s br.o.b.s K5.o Br.o).mono ?_;rintro e gh ⟨rfl,hb⟩;have cL:=ae hb;clear hb)
 clear aK aC bM eH jr gi j8 j9 kd
 replace bA:=ae (cm bA.o bA.o.size cL.o)
 replace br:=ae (br.o.below cL.o)
 replace pZ:=ae (pZ.o.below cL.o)
 clear cL
 obtain⟨t0,t1,te,Lg⟩:∃a0 a1 a2,af (J2 l0 l1=(a0,a1,a2)):=⟨_,_,_,⟨rfl⟩⟩
 obtain⟨⟨aK,aC⟩,⟨bM,eH⟩,jr,gi⟩:=br.o.cells
 have j8:=az br.o.a.x
 have j9:=az br.o.b.x
 have kd:=az br.o.jx
 go_upto_region 8 with(go_at_call 28;refine(ajn br.o.a.s Lg.o).mono ?_;intro e wn hI;unfold zA at hI;obtain⟨Q,Mi,Q',Mj,rfl,hS,hb⟩:=hI;have q8:=ae hS;have qO:=ae hb;clear hS hb)
 clear aK aC bM eH jr gi j8 j9 kd
 have uL:=ae (nL.new q8.o)
 have cL:=ae (au qO.o (ax (Below.refl wn.heap.size wn) (.cells #[.slice Q t0.length Mi,.slice Q' t1.length Mj] 29)))
 generalize hT:wn.heap.size=Yi at uL ⊢
 clear hT
 generalize hwx:wn.alloc (.cells #[.slice Q t0.length Mi,.slice Q' t1.length Mj] 29)=rH at *
 clear hwx q8 qO
 replace bA:=ae (cm bA.o bA.o.size cL.o)
 replace br:=ae (br.o.below cL.o)
 replace pZ:=ae (pZ.o.below cL.o)
 clear cL
 obtain⟨s0,s1,JY,Lf⟩:∃a0 a1 a2,af (J0 l0 l1 name=(a0,a1,a2)):=⟨_,_,_,⟨rfl⟩⟩
 obtain⟨⟨aK,aC⟩,⟨bM,eH⟩,jr,gi⟩:=br.o.cells
 have j8:=az br.o.a.x
 have j9:=az br.o.b.x
 have kd:=az br.o.jx
 go_upto_region 9 with(go_at_call 29;refine(ajc br.o.a.s name jV.o Lf.o).mono ?_;intro e wn hI;unfold zA at hI;obtain⟨S,cs,BK,cs',rfl,hS,hb⟩:=hI;have q8:=ae hS;have qO:=ae hb;clear hS hb)
 clear aK aC bM eH jr gi j8 j9 kd
 have uK:=ae (nL.new q8.o)
 have cL:=ae (au qO.o (ax (Below.refl wn.heap.size wn) (.cells #[.slice S s0.length cs,.slice BK s1.length cs'] 29)))
 generalize hT:wn.heap.size=Yj at uK ⊢
 clear hT
 generalize hwx:wn.alloc (.cells #[.slice S s0.length cs,.slice BK s1.length cs'] 29)=J6 at *
 clear hwx q8 qO
 replace bA:=ae (cm bA.o bA.o.size cL.o)
 replace br:=ae (br.o.below cL.o)
 replace pZ:=ae (pZ.o.below cL.o)
 replace uL:=ae (uL.o.below cL.o)
 clear cL
 obtain⟨p0,p1,pe,Le⟩:∃a0 a1 a2,af (JC l0 l1 name ⟨a,l⟩=(a0,a1,a2)):=⟨_,_,_,⟨rfl⟩⟩
 obtain⟨⟨aK,aC⟩,⟨bM,eH⟩,jr,gi⟩:=br.o.cells
 have j8:=az br.o.a.x
 have j9:=az br.o.b.x
 have kd:=az br.o.jx
 go_upto_region 10 with(go_at_call 30;refine(ait br.o.a.s br.o.g name jV.o Le.o).mono ?_;intro e wn hI;unfold zA at hI;obtain⟨P,Mg,P',Mh,rfl,hS,hb⟩:=hI;have q8:=ae hS;have qO:=ae hb;clear hS hb)
 clear aK aC bM eH jr gi j8 j9 kd
 have Bn:=ae (nL.new q8.o)
 have cL:=ae (au qO.o (ax (Below.refl wn.heap.size wn) (.cells #[.slice P p0.length Mg,.slice P' p1.length Mh] 29)))
 generalize hT:wn.heap.size=Yk at Bn ⊢
 clear hT
 generalize hwx:wn.alloc (.cells #[.slice P p0.length Mg,.slice P' p1.length Mh] 29)=wV at *
 clear hwx q8 qO
 replace bA:=ae (cm bA.o bA.o.size cL.o)
 replace br:=ae (br.o.below cL.o)
 replace pZ:=ae (pZ.o.below cL.o)
 replace uL:=ae (uL.o.below cL.o)
 replace uK:=ae (uK.o.below cL.o)
 clear cL
 obtain⟨p,ig⟩:∃p,af ((if q1=0 then q2 else q1)=p):=⟨_,⟨rfl⟩⟩
 go_upto_if 83 with(go_at_call 17;refine(aia wV.heap.size q1 q2 (a8 wV _) ig.o).mono ?_;rintro e Gu ⟨rfl,hb⟩;have cL:=ae (au (ax (Below.refl wV.heap.size wV) (.cells #[.int .i64 q1,.int .i64 q2] 40)) hb);clear hb)
 replace bA:=ae (cm bA.o bA.o.size cL.o)
 replace br:=ae (br.o.below cL.o)
 replace pZ:=ae (pZ.o.below cL.o)
 replace uL:=ae (uL.o.below cL.o)
 replace uK:=ae (uK.o.below cL.o)
 replace Bn:=ae (Bn.o.below cL.o)
 clear cL
 go_cut [20] (fun U6 qK=>U6= .int .i64 t/\af (Below Gu.heap.size Gu qK))
 case first=>
  obtain⟨hP,dX⟩:∃b,af (decide (l0.map (·.f0)=r0.map (·.f0))=b):=⟨_,⟨rfl⟩⟩
  have e9:=ae (Br.o.symm.trans (asO zi.o PG.o ig.o dX.o))
  by_cases hp:p=0
  ·have HI:af ((if(!hP)=true then 3 else 0)=t):=⟨by rw[e9.o,if_pos hp]⟩
   subst hp
   obtain⟨⟨aK,aC⟩,⟨bM,eH⟩,jr,gi⟩:=br.o.cells
   have j8:=az br.o.a.x
   have j9:=az br.o.b.x
   have kd:=az br.o.jx
   go_wp2_with (first|(go_at_call 31;refine(aib br.o.a.s br.o.b.s dX.o).mono ?_;rintro e azc ⟨rfl,hb⟩;have agf:=ae hb;clear hb)|(go_at_call 22;refine(ail (!hP) 3 _ HI.o).mono ?_;rintro e aei ⟨rfl,hb⟩;have agh:=ae (au agf.o hb);clear hb))
   go_meet
   exact⟨rfl,agh⟩
  ·have HI:af (p=t):=⟨by rw[e9.o,if_neg hp]⟩
   have ayb:(p==0)=false:=ey.2 hp
   go_wp2
   go_meet
   exact⟨by rw[HI.o],⟨Below.refl _ _⟩⟩
 case rest=>
  obtain⟨rfl,cL⟩:=hcut
  obtain⟨e6,aoD⟩:∃e6,e6=wc:=⟨_,rfl⟩
  subst aoD
  replace bA:=ae (cm bA.o bA.o.size cL.o)
  replace br:=ae (br.o.below cL.o)
  replace pZ:=ae (pZ.o.below cL.o)
  replace uL:=ae (uL.o.below cL.o)
  replace uK:=ae (uK.o.below cL.o)
  replace Bn:=ae (Bn.o.below cL.o)
  clear cL
  go_upto_if 94 with(fail)
  have XL:af (ZS e6.heap.size [] [] (e6.alloc (.cells #[.slice none 0 0,.slice none 0 0] 29))):=⟨ZS.new e6⟩
  have XM:af (ZS (e6.heap.size+1) [] [] ((e6.alloc (.cells #[.slice none 0 0,.slice none 0 0] 29)).alloc (.cells #[.slice none 0 0,.slice none 0 0] 29))):=⟨by have:=ZS.new (e6.alloc (.cells #[.slice none 0 0,.slice none 0 0] 29));simpa using this⟩
  have XN:af (ZS (e6.heap.size+1+1) [] [] (((e6.alloc (.cells #[.slice none 0 0,.slice none 0 0] 29)).alloc (.cells #[.slice none 0 0,.slice none 0 0] 29)).alloc (.cells #[.slice none 0 0,.slice none 0 0] 29))):=⟨by have:=ZS.new ((e6.alloc (.cells #[.slice none 0 0,.slice none 0 0] 29)).alloc (.cells #[.slice none 0 0,.slice none 0 0] 29));simpa using this⟩
  have XO:af (ZS (e6.heap.size+1+1+1) [] [] ((((e6.alloc (.cells #[.slice none 0 0,.slice none 0 0] 29)).alloc (.cells #[.slice none 0 0,.slice none 0 0] 29)).alloc (.cells #[.slice none 0 0,.slice none 0 0] 29)).alloc (.cells #[.slice none 0 0,.slice none 0 0] 29))):=⟨by have:=ZS.new (((e6.alloc (.cells #[.slice none 0 0,.slice none 0 0] 29)).alloc (.cells #[.slice none 0 0,.slice none 0 0] 29)).alloc (.cells #[.slice none 0 0,.slice none 0 0] 29));simpa using this⟩
  have dO:af (Below e6.heap.size e6 ((((e6.alloc (.cells #[.slice none 0 0,.slice none 0 0] 29)).alloc (.cells #[.slice none 0 0,.slice none 0 0] 29)).alloc (.cells #[.slice none 0 0,.slice none 0 0] 29)).alloc (.cells #[.slice none 0 0,.slice none 0 0] 29))):=⟨ax (ax (ax (ax (Below.refl _ _) _) _) _) _⟩
  have ij:af (ZS e6.heap.size [] [] ((((e6.alloc (.cells #[.slice none 0 0,.slice none 0 0] 29)).alloc (.cells #[.slice none 0 0,.slice none 0 0] 29)).alloc (.cells #[.slice none 0 0,.slice none 0 0] 29)).alloc (.cells #[.slice none 0 0,.slice none 0 0] 29))):=⟨((XL.o.below (ax (Below.refl _ _) _)).below (ax (Below.refl _ _) _)).below (ax (Below.refl _ _) _)⟩
  have gB:af (ZS (e6.heap.size+1) [] [] ((((e6.alloc (.cells #[.slice none 0 0,.slice none 0 0] 29)).alloc (.cells #[.slice none 0 0,.slice none 0 0] 29)).alloc (.cells #[.slice none 0 0,.slice none 0 0] 29)).alloc (.cells #[.slice none 0 0,.slice none 0 0] 29))):=⟨(XM.o.below (ax (Below.refl _ _) _)).below (ax (Below.refl _ _) _)⟩
  have gK:af (ZS (e6.heap.size+1+1) [] [] ((((e6.alloc (.cells #[.slice none 0 0,.slice none 0 0] 29)).alloc (.cells #[.slice none 0 0,.slice none 0 0] 29)).alloc (.cells #[.slice none 0 0,.slice none 0 0] 29)).alloc (.cells #[.slice none 0 0,.slice none 0 0] 29))):=⟨XN.o.below (ax (Below.refl _ _) _)⟩
  have gC:=XO
  clear XL XM XN XO
  generalize abG:e6.heap.size=iP at ij gB gK gC ⊢
  generalize abH:iP+1=iQ at gB gK gC ⊢
  generalize abI:iQ+1=iR at gK gC ⊢
  generalize abJ:iR+1=jg at gC ⊢
  have lx:af (e6.heap.size=iP/\iP+1=iQ/\iQ+1=iR/\iR+1=jg):=⟨⟨abG,abH,abI,abJ⟩⟩
  clear abG abH abI abJ
  generalize hwz:(((e6.alloc (.cells #[.slice none 0 0,.slice none 0 0] 29)).alloc (.cells #[.slice none 0 0,.slice none 0 0] 29)).alloc (.cells #[.slice none 0 0,.slice none 0 0] 29)).alloc (.cells #[.slice none 0 0,.slice none 0 0] 29)=azk at *
  clear hwz
  go_cut [21,29] (fun U7 arR qK=>U7= .int .i64 me/\arR= .bool ml/\af (Below e6.heap.size e6 qK)/\af (ZS iP m0 m1 qK)/\af (ZS iQ [] [] qK)/\af (ZS iR [] [] qK)/\af (ZS jg [] [] qK))
  case first=>
   by_cases ht:t=0
   ·have zm:af (np l0 l1 r0 r1=0):=⟨Br.o.trans ht⟩
    obtain⟨all,l6⟩:∃all,af (l1++r1=all):=⟨_,⟨rfl⟩⟩
    have agV:af (lO (mX l0 r0) all=(m0,m1,me)):=⟨by have h:=Ld.o;unfold JD at h;rwa[if_pos zm.o,l6.o]at h⟩
    have Ef:af (decide (j6 l0 l1=j6 r0 r1)=ml):=⟨by have h:=K5.o;rw[adr,if_pos zm.o]at h;exact h⟩
    have ow:af (cQ l0 l1=0/\cQ r0 r1=0):=⟨⟨(Gt zm.o).1,(Gt zm.o).2.1⟩⟩
    subst ht
    have dB:=ae (br.o.below dO.o)
    obtain⟨⟨aK,aC⟩,⟨bM,eH⟩,jr,gi⟩:=dB.o.cells
    have j8:=az dB.o.a.x
    have j9:=az dB.o.b.x
    have kd:=az dB.o.jx
    obtain⟨afo,d25,afp,akG,hx,_⟩:=ij.o
    have gA:=ae hx
    clear hx
    go_upto_region 18 with(first|(go_at_call 33;refine(aif dB.o.a.s dB.o.b.s zm.o l6.o).mono ?_;rintro e cz ⟨Y,c0,ek,ep,rfl,hS,hb⟩;have zl:=ae hS;have ov:=ae hb;clear hS hb)|(go_at_call 32;refine(Lt zl.o agV.o).mono ?_;rintro e cr ⟨EC,E5,ED,E6,rfl,hS,hb⟩;have uM:=ae hS;have gZ:=ae (au ov.o hb);have iN:=ae (av gA.o gZ.o);have u0:cr.cell? ⟨iP,0,none⟩=some (.slice afo 0 d25):=(mj iN.o 0).trans rfl;have u1:cr.cell? ⟨iP,1,none⟩=some (.slice afp 0 akG):=(mj iN.o 1).trans rfl;have u2:=ar iN.o 0;have u3:=ar iN.o 1;have u4:=az iN.o;clear hS hb))
    clear aK aC bM eH jr gi j8 j9 kd u0 u1 u2 u3 u4
    have jf:af (vX iP cr):=⟨⟨_,_,_,_,_,_,iN.o⟩⟩
    have uP:af (ZS iP m0 m1 ((cr.setCell ⟨iP,0,none⟩ (.slice EC m0.length E5)).setCell ⟨iP,1,none⟩ (.slice ED m1.length E6))):=⟨ZS.put jf.o uM.o⟩
    have uQ:af (ZS iQ [] [] ((cr.setCell ⟨iP,0,none⟩ (.slice EC m0.length E5)).setCell ⟨iP,1,none⟩ (.slice ED m1.length E6))):=⟨(gB.o.below gZ.o).tx jf.o tAo⟩
    have uR:af (ZS iR [] [] ((cr.setCell ⟨iP,0,none⟩ (.slice EC m0.length E5)).setCell ⟨iP,1,none⟩ (.slice ED m1.length E6))):=⟨(gK.o.below gZ.o).tx jf.o tAo⟩
    have uS:af (ZS jg [] [] ((cr.setCell ⟨iP,0,none⟩ (.slice EC m0.length E5)).setCell ⟨iP,1,none⟩ (.slice ED m1.length E6))):=⟨(gC.o.below gZ.o).tx jf.o tAo⟩
    have uB:af (Below e6.heap.size e6 ((cr.setCell ⟨iP,0,none⟩ (.slice EC m0.length E5)).setCell ⟨iP,1,none⟩ (.slice ED m1.length E6))):=⟨((cm dO.o dO.o.size gZ.o).setCell (p:=⟨iP,0,none⟩) tDi _).setCell (p:=⟨iP,1,none⟩) tDi _⟩
    clear dO ij gB gK gC jf uM zl ov gZ iN gA dB
    generalize tL:((cr.setCell ⟨iP,0,none⟩ (.slice EC m0.length E5)).setCell ⟨iP,1,none⟩ (.slice ED m1.length E6))=AB at *
    clear tL
    have dO:=uB
    have ij:=uP
    have gB:=uQ
    have gK:=uR
    have gC:=uS
    clear uB uP uQ uR uS
    have dB:=ae (br.o.below dO.o)
    have er:af (∀W:World,Below AB.heap.size AB W->((W.cell? ⟨gv,0,none⟩=some (.slice A l0.length c)/\W.cell? ⟨gv,1,none⟩=some (.slice A' l1.length c'))/\(W.cell? ⟨nw,0,none⟩=some (.slice X r0.length cx)/\W.cell? ⟨nw,1,none⟩=some (.slice X' r1.length cx')))):=⟨fun W hb=>⟨(dB.o.below hb).a.cells,(dB.o.below hb).b.cells⟩⟩
    obtain⟨PP,Xd⟩:∃P,af (j6 l0 l1=P):=⟨_,⟨rfl⟩⟩
    obtain⟨QW,Xi⟩:∃P,af (j6 r0 r1=P):=⟨_,⟨rfl⟩⟩
    rw[Xd.o,Xi.o]at Ef
    have fU:af (∀W:World,Below AB.heap.size AB W->Calls Tryz.prog 34 #[.agg #[.slice A l0.length c,.slice A' l1.length c']] W fun e w'=>∃(Y:Option Addr) (c0:Nat),e= .returned (.slice Y PP.length c0)/\Kd.C (Kd.slice 3 (Kd.int .i64)) w' Y PP.length PP/\Below AB.heap.size AB w'):=⟨fun W hb=>(XU (dB.o.below hb).a.s ow.o.1 Xd.o).mono fun e w' ⟨Y,c0,he,h,h2⟩=>⟨Y,c0,he,h,au hb h2⟩⟩
    have l8:af (∀W:World,Below AB.heap.size AB W->Calls Tryz.prog 34 #[.agg #[.slice X r0.length cx,.slice X' r1.length cx']] W fun e w'=>∃(Y:Option Addr) (c0:Nat),e= .returned (.slice Y QW.length c0)/\Kd.C (Kd.slice 3 (Kd.int .i64)) w' Y QW.length QW/\Below W.heap.size W w'):=⟨fun W hb=>XU (dB.o.below hb).b.s ow.o.2 Xi.o⟩
    go_region_held3 (fun W=>((W.cell? ⟨gv,0,none⟩=some (.slice A l0.length c)/\W.cell? ⟨gv,1,none⟩=some (.slice A' l1.length c'))/\(W.cell? ⟨nw,0,none⟩=some (.slice X r0.length cx)/\W.cell? ⟨nw,1,none⟩=some (.slice X' r1.length cx')))) (first|assumption|exact er.o _ (cB (Below.refl _ _))|exact er.o _ DX.o|exact er.o _ rV.o|exact er.o _ DY.o) (first|(go_simp;go_at_call 34;with_reducible(refine(fU.o _ (cB (Below.refl _ _))).mono ?_);rintro e azh ⟨atI,aua,rfl,hC,hb⟩;have DX:=ae hb;have KB:=ae hC;clear hC hb)|(go_simp;go_at_call 34;with_reducible(refine(l8.o _ DX.o).mono ?_);rintro e azi ⟨atJ,aub,rfl,hC,hb⟩;have rV:=ae (au DX.o hb);have agn:=ae (Kd.bN KB.o hb);have ago:=ae hC;clear hC hb)|(go_simp;go_at_call 23;with_reducible(refine(aid agn.o ago.o Ef.o).mono ?_);rintro e azj ⟨rfl,hb⟩;have DY:=ae (au rV.o hb);clear hb))
    all_goals
     go_wp2
     go_meet
     exact⟨rfl,rfl,⟨cm dO.o dO.o.size DY.o⟩,⟨ij.o.below DY.o⟩,⟨gB.o.below DY.o⟩,⟨gK.o.below DY.o⟩,⟨gC.o.below DY.o⟩⟩
   ·have abM:(t==0)=false:=ey.2 ht
    have KT:af (m0=[]/\m1=[]/\me=t/\ml=false):=⟨by
     have h:=Ld.o
     unfold JD at h
     rw[if_neg (by rw[Br.o];exact ht),Br.o]at h
     have h2:=K5.o
     rw[adr,if_neg (by rw[Br.o];exact ht)]at h2
     simp only[Prod.mk.injEq]at h
     exact⟨h.1.symm,h.2.1.symm,h.2.2.symm,h2.symm⟩⟩
    go_wp2
    go_meet
    obtain⟨rfl,rfl,rfl,rfl⟩:=KT.o
    exact⟨rfl,rfl,dO,ij,gB,gK,gC⟩
  case rest=>
   clear dO ij gB gK gC
   obtain⟨rfl,rfl,dO,ij,gB,gK,gC⟩:=hcut
   obtain⟨ael,aoC⟩:∃ael,ael=wc:=⟨_,rfl⟩
   subst aoC
   clear Ld K5 Br ig
   go_upto_if 108 with(fail)
   go_cut [22,23,24] (fun JV JW Dy qK=>JV= .int .i64 te/\JW= .int .i64 JY/\Dy= .int .i64 pe/\af (Below e6.heap.size e6 qK)/\af (ZS iP m0 m1 qK)/\af (ZS iQ t0 t1 qK)/\af (ZS iR s0 s1 qK)/\af (ZS jg p0 p1 qK))
   case first=>
    by_cases hq:q1=0
    ·have ow:af (cQ l0 l1=0):=⟨zi.o.trans hq⟩
     have P2:af (lO l0 (dT l1)=(t0,t1,te)):=⟨by have h:=Lg.o;unfold J2 at h;rwa[if_pos ow.o]at h⟩
     have kK:af ((if kQ l0 name=0 then lO (dE l0 name) (dT (nk name (fS name (eV l0 name)++l1)))else([],[],kQ l0 name))=(s0,s1,JY)):=⟨by have h:=Lf.o;rw[adE]at h;unfold NQ at h;rwa[if_pos ow.o]at h⟩
     have Eb:af ((if kQ l0 name=0 then(if gG ((dE l0 name).map (·.f0)) ⟨a,l⟩=0 then lO (dE l0 name) (sK name (eV l0 name) l1 ⟨a,l⟩)else([],[],gG ((dE l0 name).map (·.f0)) ⟨a,l⟩))else([],[],kQ l0 name))=(p0,p1,pe)):=⟨by have h:=Le.o;rw[acj]at h;unfold NP at h;rwa[if_pos ow.o]at h⟩
     clear Lg Lf Le
     subst hq
     have dB:=ae (br.o.below dO.o)
     obtain⟨⟨aK,aC⟩,⟨bM,eH⟩,jr,gi⟩:=dB.o.cells
     have j8:=az dB.o.a.x
     have j9:=az dB.o.b.x
     have kd:=az dB.o.jx
     obtain⟨afq,d26,afr,akH,hx,_⟩:=gB.o
     have gA:=ae hx
     clear hx
     go_upto_region 21 with(first|(go_at_call 35;refine(aik dB.o.a.s ow.o dB.o.tb).mono ?_;rintro e cz ⟨Y,c0,ek,ep,rfl,hS,hb⟩;have zl:=ae hS;have ov:=ae hb;clear hS hb)|(go_at_call 32;refine(Lt zl.o P2.o).mono ?_;rintro e cr ⟨EE,E7,EF,E8,rfl,hS,hb⟩;have uM:=ae hS;have gZ:=ae (au ov.o hb);have iN:=ae (av gA.o gZ.o);have u0:cr.cell? ⟨iQ,0,none⟩=some (.slice afq 0 d26):=(mj iN.o 0).trans rfl;have u1:cr.cell? ⟨iQ,1,none⟩=some (.slice afr 0 akH):=(mj iN.o 1).trans rfl;have u2:=ar iN.o 0;have u3:=ar iN.o 1;have u4:=az iN.o;clear hS hb))
     clear aK aC bM eH jr gi j8 j9 kd u0 u1 u2 u3 u4
     have jf:af (vX iQ cr):=⟨⟨_,_,_,_,_,_,iN.o⟩⟩
     have uQ:af (ZS iQ t0 t1 ((cr.setCell ⟨iQ,0,none⟩ (.slice EE t0.length E7)).setCell ⟨iQ,1,none⟩ (.slice EF t1.length E8))):=⟨ZS.put jf.o uM.o⟩
     have uP:af (ZS iP m0 m1 ((cr.setCell ⟨iQ,0,none⟩ (.slice EE t0.length E7)).setCell ⟨iQ,1,none⟩ (.slice EF t1.length E8))):=⟨(ij.o.below gZ.o).tx jf.o tAo⟩
     have uR:af (ZS iR [] [] ((cr.setCell ⟨iQ,0,none⟩ (.slice EE t0.length E7)).setCell ⟨iQ,1,none⟩ (.slice EF t1.length E8))):=⟨(gK.o.below gZ.o).tx jf.o tAo⟩
     have uS:af (ZS jg [] [] ((cr.setCell ⟨iQ,0,none⟩ (.slice EE t0.length E7)).setCell ⟨iQ,1,none⟩ (.slice EF t1.length E8))):=⟨(gC.o.below gZ.o).tx jf.o tAo⟩
     have uB:af (Below e6.heap.size e6 ((cr.setCell ⟨iQ,0,none⟩ (.slice EE t0.length E7)).setCell ⟨iQ,1,none⟩ (.slice EF t1.length E8))):=⟨((cm dO.o dO.o.size gZ.o).setCell (p:=⟨iQ,0,none⟩) tD8 _).setCell (p:=⟨iQ,1,none⟩) tD8 _⟩
     clear dO ij gB gK gC jf uM zl ov gZ iN gA dB
     generalize tL:((cr.setCell ⟨iQ,0,none⟩ (.slice EE t0.length E7)).setCell ⟨iQ,1,none⟩ (.slice EF t1.length E8))=nr at *
     clear tL
     have dO:=uB
     have ij:=uP
     have gB:=uQ
     have gK:=uR
     have gC:=uS
     clear uB uP uQ uR uS
     obtain⟨jm,zh⟩:∃n,af (kQ l0 name=n):=⟨_,⟨rfl⟩⟩
     have dB:=ae (br.o.below dO.o)
     obtain⟨⟨aK,aC⟩,⟨bM,eH⟩,jr,gi⟩:=dB.o.cells
     have j8:=az dB.o.a.x
     have j9:=az dB.o.b.x
     have kd:=az dB.o.jx
     go_upto_if 120 with(go_at_call 18;refine(aih (dB.o.below (ax (Below.refl nr.heap.size nr) (.cells #[.string name] 9))).a.s jV.o zh.o nr.heap.size (a8 nr _)).mono ?_;rintro e wn ⟨rfl,hb⟩;have cL:=ae (au (ax (Below.refl nr.heap.size nr) (.cells #[.string name] 9)) hb);clear hb)
     clear aK aC bM eH jr gi j8 j9 kd dB
     replace dO:=ae (cm dO.o dO.o.size cL.o)
     replace ij:=ae (ij.o.below cL.o)
     replace gB:=ae (gB.o.below cL.o)
     replace gK:=ae (gK.o.below cL.o)
     replace gC:=ae (gC.o.below cL.o)
     clear cL
     by_cases hn:jm=0
     ·have oy:af (kQ l0 name=0):=⟨zh.o.trans hn⟩
      obtain⟨rs,Ee⟩:∃x,af (dE l0 name=x):=⟨_,⟨rfl⟩⟩
      obtain⟨ts,vR⟩:∃x,af (dT (nk name (fS name (eV l0 name)++l1))=x):=⟨_,⟨rfl⟩⟩
      obtain⟨mc,Hp⟩:∃x,af (sK name (eV l0 name) l1 ⟨a,l⟩=x):=⟨_,⟨rfl⟩⟩
      obtain⟨sM,s7⟩:∃x,af (gG (rs.map (·.f0)) ⟨a,l⟩=x):=⟨_,⟨rfl⟩⟩
      have HA:af (rs.length<=1000):=⟨by have h1:=adl l0 name;rw[Ee.o]at h1;have:=(iT ow.o).len;omega⟩
      have p2:af (lO rs ts=(s0,s1,JY)):=⟨by have h:=kK.o;rwa[if_pos oy.o,Ee.o,vR.o]at h⟩
      have Ec:af ((if sM=0 then lO rs mc else([],[],sM))=(p0,p1,pe)):=⟨by have h:=Eb.o;rwa[if_pos oy.o,Ee.o,Hp.o,s7.o]at h⟩
      clear kK Eb
      subst hn
      have dB:=ae (br.o.below dO.o)
      have oz:=ae (aij dB.o.a.s ow.o oy.o dB.o.tb)
      rw[Ee.o,vR.o]at oz
      obtain⟨⟨aK,aC⟩,⟨bM,eH⟩,jr,gi⟩:=dB.o.cells
      have j8:=az dB.o.a.x
      have j9:=az dB.o.b.x
      have kd:=az dB.o.jx
      go_upto_region 24 with(go_at_call 36;refine oz.o.mono ?_;rintro e wn ⟨Y,c0,ek,ep,rfl,hS,hb⟩;have q8:=ae hS;have qO:=ae hb;clear hS hb)
      clear aK aC bM eH jr gi j8 j9 kd
      have qZ:=ae (nL.new q8.o)
      have cL:=ae (au qO.o (ax (Below.refl wn.heap.size wn) (.cells #[.slice Y rs.length c0,.slice ek ts.length ep] 29)))
      generalize hT:wn.heap.size=atF at qZ ⊢
      clear hT
      generalize hwx:wn.alloc (.cells #[.slice Y rs.length c0,.slice ek ts.length ep] 29)=asX at *
      clear hwx q8 qO oz dB
      replace dO:=ae (cm dO.o dO.o.size cL.o)
      replace ij:=ae (ij.o.below cL.o)
      replace gB:=ae (gB.o.below cL.o)
      replace gK:=ae (gK.o.below cL.o)
      replace gC:=ae (gC.o.below cL.o)
      clear cL
      obtain⟨ff,o9⟩:∃x,af (su a l=x):=⟨_,⟨rfl⟩⟩
      have dB:=ae (br.o.below dO.o)
      obtain⟨⟨aK,aC⟩,⟨bM,eH⟩,jr,gi⟩:=dB.o.cells
      have j8:=az dB.o.a.x
      have j9:=az dB.o.b.x
      have kd:=az dB.o.jx
      go_upto_if 127 with(go_at_call 37;refine(aic dB.o.g o9.o).mono ?_;rintro e wn ⟨rfl,hb⟩;have cL:=ae hb;clear hb)
      clear aK aC bM eH jr gi j8 j9 kd dB
      replace dO:=ae (cm dO.o dO.o.size cL.o)
      replace ij:=ae (ij.o.below cL.o)
      replace gB:=ae (gB.o.below cL.o)
      replace gK:=ae (gK.o.below cL.o)
      replace gC:=ae (gC.o.below cL.o)
      replace qZ:=ae (qZ.o.below cL.o)
      clear cL
      obtain⟨wf,Jj⟩:∃wf,wf=wn:=⟨_,rfl⟩
      subst Jj
      go_cut [24] (fun Dy qK=>Dy= .int .i64 sM/\af (Below wf.heap.size wf qK))
      case first=>
       by_cases Cb:ff=0
       ·subst Cb
        have dB:=ae (br.o.below dO.o)
        have z0:=qZ.o.cells.1
        have c2:=qZ.o.cells.2
        have GG:=az qZ.o.x
        obtain⟨⟨aK,aC⟩,⟨bM,eH⟩,jr,gi⟩:=dB.o.cells
        have j8:=az dB.o.a.x
        have j9:=az dB.o.b.x
        have kd:=az dB.o.jx
        go_wp2_with (go_at_call 16;refine(aii qZ.o.s dB.o.g HA.o s7.o).mono ?_;rintro e aA ⟨rfl,hb⟩;have age:=ae hb;clear hb)
        go_meet
        exact⟨rfl,age⟩
       ·have KX:af (ff=sM):=⟨by
         have h:=s7.o
         unfold gG at h
         rw[if_neg (by show ¬ su a l=0;rw[o9.o];exact Cb)]at h
         exact o9.o.symm.trans h⟩
        have aaD:(ff==0)=false:=ey.2 Cb
        go_wp2
        go_meet
        exact⟨by rw[KX.o],⟨Below.refl _ _⟩⟩
      case rest=>
       obtain⟨rfl,cL⟩:=hcut
       obtain⟨wg,aoB⟩:∃wg,wg=wc:=⟨_,rfl⟩
       subst aoB
       clear o9
       replace dO:=ae (cm dO.o dO.o.size cL.o)
       replace ij:=ae (ij.o.below cL.o)
       replace gB:=ae (gB.o.below cL.o)
       replace gK:=ae (gK.o.below cL.o)
       replace gC:=ae (gC.o.below cL.o)
       replace qZ:=ae (qZ.o.below cL.o)
       clear cL
       have dB:=ae (br.o.below dO.o)
       obtain⟨⟨aK,aC⟩,⟨bM,eH⟩,jr,gi⟩:=dB.o.cells
       have j8:=az dB.o.a.x
       have j9:=az dB.o.b.x
       have kd:=az dB.o.jx
       obtain⟨afs,d27,aft,akI,hx,_⟩:=gK.o
       have gA:=ae hx
       clear hx
       have z0:=qZ.o.cells.1
       have c2:=qZ.o.cells.2
       have GG:=az qZ.o.x
       go_upto_if 139 with(first|(go_at_call 32;refine(Lt qZ.o.s p2.o).mono ?_;rintro e cr ⟨EG,E9,EH,Fa,rfl,hS,hb⟩;have uM:=ae hS;have gZ:=ae hb;have iN:=ae (av gA.o gZ.o);have u0:cr.cell? ⟨iR,0,none⟩=some (.slice afs 0 d27):=(mj iN.o 0).trans rfl;have u1:cr.cell? ⟨iR,1,none⟩=some (.slice aft 0 akI):=(mj iN.o 1).trans rfl;have u2:=ar iN.o 0;have u3:=ar iN.o 1;have u4:=az iN.o;clear hS hb))
       clear aK aC bM eH jr gi j8 j9 kd u0 u1 u2 u3 u4
       have jf:af (vX iR cr):=⟨⟨_,_,_,_,_,_,iN.o⟩⟩
       have uR:af (ZS iR s0 s1 ((cr.setCell ⟨iR,0,none⟩ (.slice EG s0.length E9)).setCell ⟨iR,1,none⟩ (.slice EH s1.length Fa))):=⟨ZS.put jf.o uM.o⟩
       have uP:af (ZS iP m0 m1 ((cr.setCell ⟨iR,0,none⟩ (.slice EG s0.length E9)).setCell ⟨iR,1,none⟩ (.slice EH s1.length Fa))):=⟨(ij.o.below gZ.o).tx jf.o tAo⟩
       have uQ:af (ZS iQ t0 t1 ((cr.setCell ⟨iR,0,none⟩ (.slice EG s0.length E9)).setCell ⟨iR,1,none⟩ (.slice EH s1.length Fa))):=⟨(gB.o.below gZ.o).tx jf.o tAo⟩
       have uS:af (ZS jg [] [] ((cr.setCell ⟨iR,0,none⟩ (.slice EG s0.length E9)).setCell ⟨iR,1,none⟩ (.slice EH s1.length Fa))):=⟨(gC.o.below gZ.o).tx jf.o tAo⟩
       have uB:af (Below e6.heap.size e6 ((cr.setCell ⟨iR,0,none⟩ (.slice EG s0.length E9)).setCell ⟨iR,1,none⟩ (.slice EH s1.length Fa))):=⟨((cm dO.o dO.o.size gZ.o).setCell (p:=⟨iR,0,none⟩) tE0 _).setCell (p:=⟨iR,1,none⟩) tE0 _⟩
       clear dO ij gB gK gC jf uM gZ iN gA dB
       generalize tL:((cr.setCell ⟨iR,0,none⟩ (.slice EG s0.length E9)).setCell ⟨iR,1,none⟩ (.slice EH s1.length Fa))=Oh at *
       clear tL
       have dO:=uB
       have ij:=uP
       have gB:=uQ
       have gK:=uR
       have gC:=uS
       clear uB uP uQ uR uS z0 c2 GG qZ
       by_cases Jc:sM=0
       ·have ahn:af (lO rs mc=(p0,p1,pe)):=⟨by have h:=Ec.o;rw[if_pos Jc]at h;exact h⟩
        have KW:af (gG ((dE l0 name).map (·.f0)) ⟨a,l⟩=0):=⟨by rw[Ee.o];exact s7.o.trans Jc⟩
        subst Jc
        have dB:=ae (br.o.below dO.o)
        obtain⟨⟨aK,aC⟩,⟨bM,eH⟩,jr,gi⟩:=dB.o.cells
        have j8:=az dB.o.a.x
        have j9:=az dB.o.b.x
        have kd:=az dB.o.jx
        obtain⟨afu,d28,afv,akJ,hx,_⟩:=gC.o
        have gA:=ae hx
        clear hx
        have qV:=ae (aie dB.o.a.s dB.o.g ow.o oy.o KW.o)
        rw[Ee.o,Hp.o]at qV
        go_wp2_with (first|(go_at_call 38;refine(qV.o).mono ?_;rintro e cz ⟨Y,c0,ek,ep,rfl,hS,hb⟩;have zl:=ae hS;have ov:=ae hb;clear hS hb)|(go_at_call 32;refine(Lt zl.o ahn.o).mono ?_;rintro e cr ⟨EI,Fb,EJ,Fc,rfl,hS,hb⟩;have uM:=ae hS;have gZ:=ae (au ov.o hb);have iN:=ae (av gA.o gZ.o);have u0:cr.cell? ⟨jg,0,none⟩=some (.slice afu 0 d28):=(mj iN.o 0).trans rfl;have u1:cr.cell? ⟨jg,1,none⟩=some (.slice afv 0 akJ):=(mj iN.o 1).trans rfl;have u2:=ar iN.o 0;have u3:=ar iN.o 1;have u4:=az iN.o;clear hS hb))
        clear aK aC bM eH jr gi j8 j9 kd u0 u1 u2 u3 u4
        have jf:af (vX jg cr):=⟨⟨_,_,_,_,_,_,iN.o⟩⟩
        have uS:af (ZS jg p0 p1 ((cr.setCell ⟨jg,0,none⟩ (.slice EI p0.length Fb)).setCell ⟨jg,1,none⟩ (.slice EJ p1.length Fc))):=⟨ZS.put jf.o uM.o⟩
        have uP:af (ZS iP m0 m1 ((cr.setCell ⟨jg,0,none⟩ (.slice EI p0.length Fb)).setCell ⟨jg,1,none⟩ (.slice EJ p1.length Fc))):=⟨(ij.o.below gZ.o).tx jf.o tAo⟩
        have uQ:af (ZS iQ t0 t1 ((cr.setCell ⟨jg,0,none⟩ (.slice EI p0.length Fb)).setCell ⟨jg,1,none⟩ (.slice EJ p1.length Fc))):=⟨(gB.o.below gZ.o).tx jf.o tAo⟩
        have uR:af (ZS iR s0 s1 ((cr.setCell ⟨jg,0,none⟩ (.slice EI p0.length Fb)).setCell ⟨jg,1,none⟩ (.slice EJ p1.length Fc))):=⟨(gK.o.below gZ.o).tx jf.o tAo⟩
        have uB:af (Below e6.heap.size e6 ((cr.setCell ⟨jg,0,none⟩ (.slice EI p0.length Fb)).setCell ⟨jg,1,none⟩ (.slice EJ p1.length Fc))):=⟨((cm dO.o dO.o.size gZ.o).setCell (p:=⟨jg,0,none⟩) tE5 _).setCell (p:=⟨jg,1,none⟩) tE5 _⟩
        clear dO ij gB gK gC jf uM zl ov gZ iN gA dB
        generalize tL:((cr.setCell ⟨jg,0,none⟩ (.slice EI p0.length Fb)).setCell ⟨jg,1,none⟩ (.slice EJ p1.length Fc))=Oi at *
        clear tL
        have dO:=uB
        have ij:=uP
        have gB:=uQ
        have gK:=uR
        have gC:=uS
        clear uB uP uQ uR uS
        go_meet
        exact⟨rfl,rfl,rfl,dO,ij,gB,gK,gC⟩
       ·have TC:(sM==0)=false:=ey.2 Jc
        have fx:af (p0=[]/\p1=[]/\pe=sM):=⟨by
         have h:=Ec.o
         rw[if_neg Jc]at h
         simp only[Prod.mk.injEq]at h
         exact⟨h.1.symm,h.2.1.symm,h.2.2.symm⟩⟩
        go_wp2
        go_meet
        obtain⟨rfl,rfl,rfl⟩:=fx.o
        exact⟨rfl,rfl,rfl,dO,ij,gB,gK,gC⟩
     ·have axm:(jm==0)=false:=ey.2 hn
      have fx:af ((s0=[]/\s1=[]/\JY=jm)/\(p0=[]/\p1=[]/\pe=jm)):=⟨by
       have hf:¬ kQ l0 name=0:=by rw[zh.o];exact hn
       have h2:=kK.o
       rw[if_neg hf,zh.o]at h2
       have h3:=Eb.o
       rw[if_neg hf,zh.o]at h3
       simp only[Prod.mk.injEq]at h2 h3
       exact⟨⟨h2.1.symm,h2.2.1.symm,h2.2.2.symm⟩,⟨h3.1.symm,h3.2.1.symm,h3.2.2.symm⟩⟩⟩
      go_wp2
      go_meet
      obtain⟨⟨rfl,rfl,rfl⟩,⟨rfl,rfl,rfl⟩⟩:=fx.o
      exact⟨rfl,rfl,rfl,dO,ij,gB,gK,gC⟩
    ·have aof:(q1==0)=false:=ey.2 hq
     have hf:¬ cQ l0 l1=0:=by rw[zi.o];exact hq
     have fx:af ((t0=[]/\t1=[]/\te=q1)/\(s0=[]/\s1=[]/\JY=q1)/\(p0=[]/\p1=[]/\pe=q1)):=⟨by
      have h:=Lg.o
      unfold J2 at h
      rw[if_neg hf,zi.o]at h
      have h2:=Lf.o
      rw[adE]at h2
      unfold NQ at h2
      rw[if_neg hf,zi.o]at h2
      have h3:=Le.o
      rw[acj]at h3
      unfold NP at h3
      rw[if_neg hf,zi.o]at h3
      simp only[Prod.mk.injEq]at h h2 h3
      exact⟨⟨h.1.symm,h.2.1.symm,h.2.2.symm⟩,⟨h2.1.symm,h2.2.1.symm,h2.2.2.symm⟩,⟨h3.1.symm,h3.2.1.symm,h3.2.2.symm⟩⟩⟩
     clear hf
     go_wp2
     go_meet
     obtain⟨⟨rfl,rfl,rfl⟩,⟨rfl,rfl,rfl⟩,⟨rfl,rfl,rfl⟩⟩:=fx.o
     exact⟨rfl,rfl,rfl,dO,ij,gB,gK,gC⟩
   case rest=>
    clear dO ij gB gK gC
    obtain⟨rfl,rfl,rfl,dO,ij,gB,gK,gC⟩:=hcut
    obtain⟨wl,aoE⟩:∃wl,wl=wc:=⟨_,rfl⟩
    subst aoE
    clear jV br zi PG lx
    obtain⟨Q6,k5,Q7,Rv,hx,hs⟩:=ij.o
    have P7:af (nL iP Q6 k5 m0 Q7 Rv m1 wl):=⟨⟨hs,hx⟩⟩
    have P3:=ae (pZ.o.below dO.o)
    clear hx hs
    have agD:af (∀W:World,Below wl.heap.size wl W->Calls Tryz.prog 39 #[.agg #[.slice M m0.length Ma,.slice M' m1.length Mb],.agg #[.slice Q6 m0.length k5,.slice Q7 m1.length Rv]] W fun e w'=>e= .returned (.bool true)/\Below wl.heap.size wl w'):=⟨fun W hb=>(Lu (P3.o.below hb).s (P7.o.below hb).s).mono fun e w' ⟨he,h⟩=>⟨he,au hb h⟩⟩
    have agi:af (∀W:World,Below wl.heap.size wl W->((W.cell? ⟨Yh,0,none⟩=some (.slice M m0.length Ma)/\W.cell? ⟨Yh,1,none⟩=some (.slice M' m1.length Mb))/\(W.cell? ⟨iP,0,none⟩=some (.slice Q6 m0.length k5)/\W.cell? ⟨iP,1,none⟩=some (.slice Q7 m1.length Rv)))):=⟨fun W hb=>⟨(P3.o.below hb).cells,(P7.o.below hb).cells⟩⟩
    obtain⟨Q8,oI,Q9,Rx,hx,hs⟩:=gB.o
    have P8:af (nL iQ Q8 oI t0 Q9 Rx t1 wl):=⟨⟨hs,hx⟩⟩
    have P4:=ae (uL.o.below dO.o)
    clear hx hs
    have agE:af (∀W:World,Below wl.heap.size wl W->Calls Tryz.prog 39 #[.agg #[.slice Q t0.length Mi,.slice Q' t1.length Mj],.agg #[.slice Q8 t0.length oI,.slice Q9 t1.length Rx]] W fun e w'=>e= .returned (.bool true)/\Below wl.heap.size wl w'):=⟨fun W hb=>(Lu (P4.o.below hb).s (P8.o.below hb).s).mono fun e w' ⟨he,h⟩=>⟨he,au hb h⟩⟩
    have xk:af (∀W:World,Below wl.heap.size wl W->((W.cell? ⟨Yi,0,none⟩=some (.slice Q t0.length Mi)/\W.cell? ⟨Yi,1,none⟩=some (.slice Q' t1.length Mj))/\(W.cell? ⟨iQ,0,none⟩=some (.slice Q8 t0.length oI)/\W.cell? ⟨iQ,1,none⟩=some (.slice Q9 t1.length Rx)))):=⟨fun W hb=>⟨(P4.o.below hb).cells,(P8.o.below hb).cells⟩⟩
    obtain⟨Ra,qf,Rb,Rz,hx,hs⟩:=gK.o
    have P9:af (nL iR Ra qf s0 Rb Rz s1 wl):=⟨⟨hs,hx⟩⟩
    have P5:=ae (uK.o.below dO.o)
    clear hx hs
    have agF:af (∀W:World,Below wl.heap.size wl W->Calls Tryz.prog 39 #[.agg #[.slice S s0.length cs,.slice BK s1.length cs'],.agg #[.slice Ra s0.length qf,.slice Rb s1.length Rz]] W fun e w'=>e= .returned (.bool true)/\Below wl.heap.size wl w'):=⟨fun W hb=>(Lu (P5.o.below hb).s (P9.o.below hb).s).mono fun e w' ⟨he,h⟩=>⟨he,au hb h⟩⟩
    have agj:af (∀W:World,Below wl.heap.size wl W->((W.cell? ⟨Yj,0,none⟩=some (.slice S s0.length cs)/\W.cell? ⟨Yj,1,none⟩=some (.slice BK s1.length cs'))/\(W.cell? ⟨iR,0,none⟩=some (.slice Ra s0.length qf)/\W.cell? ⟨iR,1,none⟩=some (.slice Rb s1.length Rz)))):=⟨fun W hb=>⟨(P5.o.below hb).cells,(P9.o.below hb).cells⟩⟩
    obtain⟨Rc,qg,Re,RA,hx,hs⟩:=gC.o
    have Qa:af (nL jg Rc qg p0 Re RA p1 wl):=⟨⟨hs,hx⟩⟩
    have P6:=ae (Bn.o.below dO.o)
    clear hx hs
    have agG:af (∀W:World,Below wl.heap.size wl W->Calls Tryz.prog 39 #[.agg #[.slice P p0.length Mg,.slice P' p1.length Mh],.agg #[.slice Rc p0.length qg,.slice Re p1.length RA]] W fun e w'=>e= .returned (.bool true)/\Below wl.heap.size wl w'):=⟨fun W hb=>(Lu (P6.o.below hb).s (Qa.o.below hb).s).mono fun e w' ⟨he,h⟩=>⟨he,au hb h⟩⟩
    have agk:af (∀W:World,Below wl.heap.size wl W->((W.cell? ⟨Yk,0,none⟩=some (.slice P p0.length Mg)/\W.cell? ⟨Yk,1,none⟩=some (.slice P' p1.length Mh))/\(W.cell? ⟨jg,0,none⟩=some (.slice Rc p0.length qg)/\W.cell? ⟨jg,1,none⟩=some (.slice Re p1.length RA)))):=⟨fun W hb=>⟨(P6.o.below hb).cells,(Qa.o.below hb).cells⟩⟩
    clear ij gB gK gC pZ uL uK Bn P7 P8 P9 Qa P3 P4 P5 P6
    obtain⟨⟨aK,aC⟩,⟨bM,eH⟩⟩:=agi.o wl (Below.refl _ _)
    go_wp2_with (first|(go_at_call 39;with_reducible(refine(agD.o _ (Below.refl _ _)).mono ?_);rintro e cz ⟨rfl,hb⟩;have ov:=ae hb;clear hb;clear aK aC bM eH;obtain⟨⟨aK,aC⟩,⟨bM,eH⟩⟩:=xk.o _ ov.o)|(go_at_call 39;with_reducible(refine(agE.o _ ov.o).mono ?_);rintro e cr ⟨rfl,hb⟩;have gZ:=ae hb;clear hb;clear aK aC bM eH;obtain⟨⟨aK,aC⟩,⟨bM,eH⟩⟩:=agj.o _ gZ.o)|(go_at_call 39;with_reducible(refine(agF.o _ gZ.o).mono ?_);rintro e wd ⟨rfl,hb⟩;have Wx:=ae hb;clear hb;clear aK aC bM eH;obtain⟨⟨aK,aC⟩,⟨bM,eH⟩⟩:=agk.o _ Wx.o)|(go_at_call 39;with_reducible(refine(agG.o _ Wx.o).mono ?_);rintro e we ⟨rfl,hb⟩;have agc:=ae hb;clear hb;clear aK aC bM eH)|(go_at_call 24;refine(akE _).mono ?_;rintro e wf ⟨rfl,hb⟩;have agd:=ae (au agc.o hb);clear hb))
    go_ret
    exact⟨rfl,cm bA.o bA.o.size (cm dO.o dO.o.size agd.o)⟩
theorem SetsChanged.walk (a0:Option Addr)(len0 cap0:Nat)(z0:List Int)(w:World)(w0:(a0=none/\len0=0/\cap0=0/\z0=[])\/∃x,a0=some x/\len0<=cap0/\cap0<=maxLen/\z0.length=cap0/\(∀i,i<z0.length->w.cell? (x.add i)=some (.int .i64 (z0.getD i 0)))/\∀n∈z0,(Lit.int .i64 n).wf=true)(ht:TabW w):
  Calls Tryz.prog 4 #[.slice a0 len0 cap0] w fun e w'=>e= .returned (.bool true)/\Below w.heap.size w w':=by
 obtain⟨l0,rfl,dS,FD,hw0,hc0⟩:=xR.aqb w0
 exact apv a0 cap0 l0 w (Kd.ae3 (d:=(0:Int)) (h1:=fun _=>rfl) dS) hc0 ht
end Go.Proofs.YtjgakaembhmhpaaGreatDoor.PA
