/- Part of the proof of SetsChanged: the walk and the plain laws. It holds without further conditions. -/
import Derived.Test.YtjgakaembhmhpaaGreatDoorJAO
set_option linter.unusedVariables false
set_option linter.unusedSimpArgs false
set_option maxHeartbeats 16000000
set_option maxRecDepth 100000
namespace Go.Proofs.YtjgakaembhmhpaaGreatDoor.PA
open Go.RowKit Go.Proofs.YtjgakaembhmhpaaGreatDoorW.PrintWords Go.Proofs.YtjgakaembhmhpaaGreatDoorW.PrintLast Go.Proofs.YtjgakaembhmhpaaGreatDoorW.PrintMore Go.Proofs.YtjgakaembhmhpaaGreatDoorM
theorem acv (n:ByteArray)(h:n.size<=100)(W:World):Calls Tryz.prog 58 #[.string n] W fun e w'=>e= .returned (.bool (eE n))/\Below W.heap.size W w':=
 (nX.calls 1000 n _ W (T9 n tA0 1000 tA0)).mono fun e w' ⟨he,hd⟩=>⟨he,py (Below.refl _ _) hd⟩
theorem NU {P:Program}{fn:Func}{p u v:Tmp}{ty:TypeId}(h:fn.results=#[.cell p ty,.tmp u,.tmp v])(tmps:Array Value)(w:World)(g:Nat)(t:TypeId)(cs:Array Value)(fr:Nat×Nat)(d:TypeDesc)
  (hp:tmps.getD p undef= .pointer (some ⟨g,0,none⟩)) (hg:w.heap[g]?=some (.cells cs t fr))
  (hu:P.underlying ty=some d) (hd:(match d with| .struct _| .array _ _=>true|_=>false)=true) (hi:(P.info? ty).map (·.size)=some cs.size):
  (results fn tmps).run P w= .ok (.tuple #[.agg cs,tmps.getD u undef,tmps.getD v undef]) w:=by
 simp only[results,h]
 simp[Sem.run_bind,Result.andThen]
 have oV:tmps[p]?.getD undef= .pointer (some ⟨g,0,none⟩):=by simpa[Array.getD_eq_getD_getElem?]using hp
 rw[oV]
 simp[asAddr,run_loadVar_row w g t ty cs fr d hg hu hd hi,Result.andThen]
def dE (l:List aq)(s:ByteArray):List aq:=l.filter fun x=> !decide (x.f0=s)
def eV (l:List aq)(s:ByteArray):aq:=(l.find? fun x=>decide (x.f0=s)).getD z77
def mq (l0:List aq)(l1:List aj)(s:ByteArray):aq×List aq×Int:=
 if cQ l0 l1≠0 then(z77,[],cQ l0 l1)else if eE s=false then(z77,[],5)else if(l0.any fun y=>decide (y.f0=s))=true then(eV l0 s,dE l0 s,0)else(z77,[],8)
theorem LN {l0:List aq}{s:ByteArray}:(l0.any fun y=>decide (y.f0=s))=true↔s∈l0.map (·.f0):=by
 simp[List.any_eq_true]
theorem adj:∀{l:List aq} {s:ByteArray} {p:Nat},(l.map (·.f0)).Nodup->p<l.length->(l.getD p z77).f0=s->l.eraseIdx p=dE l s/\eV l s=l.getD p z77
 | [],_,_,_,h,_=>absurd h tA2
 | t::l,s,0,hu,_,he=>by
  rw[List.map_cons,List.nodup_cons]at hu
  have tF:t.f0=s:=he
  have hr:dE l s=l:=List.filter_eq_self.2 fun u Jh=>by
   have:u.f0≠s:=fun e=>hu.1 (by rw[tF,<- e];exact List.mem_map_of_mem Jh)
   simpa using this
  refine⟨?_,?_⟩
  ·rw[List.eraseIdx_cons_zero,dE,List.filter_cons_of_neg (by simp[tF])]
   exact hr.symm
  ·unfold eV
   rw[List.find?_cons_of_pos (by simp[tF])]
   rfl
 | t::l,s,p+1,hu,hp,he=>by
  rw[List.map_cons,List.nodup_cons]at hu
  have tF:(l.getD p z77).f0=s:=he
  have oV:p<l.length:=by simpa using hp
  have hne:t.f0≠s:=fun e=>hu.1 (by
   rw[e,<- tF]
   simp only[List.getD,b8 oV,Option.getD_some]
   exact List.mem_map_of_mem (List.getElem_mem oV))
  obtain⟨h1,h2⟩:=adj hu.2 oV tF
  refine⟨?_,?_⟩
  ·rw[List.eraseIdx_cons_succ,h1,dE,dE,List.filter_cons_of_pos (by simp[hne])]
  ·unfold eV at h2 ⊢
   rw[List.find?_cons_of_neg (by simp[hne])]
   exact h2
theorem ao1 (sides:List aq)(s:ByteArray)(h:s∉sides.map (·.f0)):idxFrom (fun x:aq=>x.f0.toList==s.toList) sides 0<0:=by
 have h1:=FR (fun x:aq=>x.f0.toList==s.toList) sides 0 tA0
 have h2:sides.any (fun x:aq=>x.f0.toList==s.toList)=false:=by
  rw[List.any_eq_false]
  intro x hx e
  rw[beq_iff_eq,pK]at e
  exact h (e▸List.mem_map_of_mem hx)
 rw[h2]at h1
 have:=of_decide_eq_false h1
 omega
theorem LA {α:Type}{d:Kd α}{e n c:Nat}{X:Option Addr}{W:World}{base:Nat}{ok:Nat->Prop}{xs:List α}(h:Kd.N d e W base ok (.slice X n c) xs)(hne:xs≠[]):∃g,X=some ⟨g,0,none⟩/\base<=g/\g<W.heap.size/\n<=c/\c<=maxLen:=by
 have hn:=(Kd.ej h).1
 have hc:=(Kd.ej h).2.1
 obtain⟨h0,rows,hl,⟨r0,inner,⟨q0,q1⟩,hr⟩,hf⟩:=h
 rcases q1 with⟨e1,_⟩|⟨g',cap',cur,e1,h2,h3,h4,h5,h6,h7⟩
 ·cases e1
  exact absurd (List.length_eq_zero_iff.1 hn.symm) hne
 ·cases e1
  exact⟨g',rfl,h2,az h3,hc,h5⟩
section
variable {A A':Option Addr}{c c':Nat}{l0:List aq}{l1:List aj}{w:World}
theorem acO (h:cD A c l0 A' c' l1 w)(s:ByteArray)(hs:s.size<=100){x:aq}{rest:List aq}{r:Int}(e:mq l0 l1 s=(x,rest,r)):
  Calls Tryz.prog 85 #[.agg #[.slice A l0.length c,.slice A' l1.length c'],.string s] w fun e w'=>∃X cx,e= .returned (.tuple #[.agg #[.string x.f0,.int .i64 x.f1,.int .i64 x.f2],.slice X rest.length cx,.int .i64 r])/\Kd.N cu 77 w' w.heap.size (fun k=>some k=(Value.slice X rest.length cx).ownBlock) (.slice X rest.length cx) rest/\Below w.heap.size w w':=by
 have bI:=ae (ax (ax (Below.refl w.heap.size w) (.cells #[.slice A l0.length c,.slice A' l1.length c'] 29)) (.cells #[.string ⟨#[]⟩,.int .i64 0,.int .i64 0] 77))
 have cJ:=ae (aH (a8 w (.cells #[.slice A l0.length c,.slice A' l1.length c'] 29)) (.cells #[.string ⟨#[]⟩,.int .i64 0,.int .i64 0] 77))
 have cq:=ae (by simpa using a8 (w.alloc (.cells #[.slice A l0.length c,.slice A' l1.length c'] 29)) (.cells #[.string ⟨#[]⟩,.int .i64 0,.int .i64 0] 77):((w.alloc (.cells #[.slice A l0.length c,.slice A' l1.length c'] 29)).alloc (.cells #[.string ⟨#[]⟩,.int .i64 0,.int .i64 0] 77)).heap[w.heap.size+1]?=some (.cells #[.string ⟨#[]⟩,.int .i64 0,.int .i64 0] 77 (0,0)))
 have HC:=ae (Ep (h.below bI.o))
 have a7:=ae h
 have vP:=ae hs
 unfold mq at e
 by_cases e0:cQ l0 l1=0
 ·rw[if_neg (fun h=>h e0)]at e
  have y6:=ae e0
  rw[e0]at HC
  clear h e0 hs
  go_enter Tryz.func85,Tryz.ntmps85
  go_wp2_with (go_at_call 51;with_reducible(refine HC.o.mono ?_);rintro e w2 ⟨rfl,hb⟩;have aI:=ae (au bI.o hb);have jW:=ae (av cJ.o hb);have l9:=ae (av cq.o hb);have aK:w2.cell? ⟨w.heap.size,0,none⟩=some (.slice A l0.length c):=(mj jW.o 0).trans rfl;have aC:w2.cell? ⟨w.heap.size,1,none⟩=some (.slice A' l1.length c'):=(mj jW.o 1).trans rfl;clear hb)
  by_cases FK:eE s=false
  ·rw[if_pos FK]at e
   simp only[Prod.mk.injEq]at e
   obtain⟨rfl,rfl,rfl⟩:=e
   have bm:=ae (acv s vP.o)
   rw[FK]at bm
   clear FK
   go_wp2_with (go_at_call 58;with_reducible(refine(bm.o _).mono ?_);rintro e w3 ⟨rfl,hb⟩;have bq:=ae (au aI.o hb);have aX:=av l9.o hb;have z0:w3.cell? ⟨w.heap.size+1,0,none⟩=some (.string ⟨#[]⟩):=(mj aX 0).trans rfl;have c2:w3.cell? ⟨w.heap.size+1,1,none⟩=some (.int .i64 0):=(mj aX 1).trans rfl;have z2:w3.cell? ⟨w.heap.size+1,2,none⟩=some (.int .i64 0):=(mj aX 2).trans rfl;have g0:=ar aX 0;have g1:=ar aX 1;have g2:=ar aX 2;have eD:=az aX;have dL:=ae aX;clear aX;clear hb)
   have q1:=a6 (a6 (a6 dL.o 0 (.string ⟨#[]⟩) rfl) 1 (.int .i64 0) rfl) 2 (.int .i64 0) rfl
   refine bodyPost_ret (NU rfl _ _ (w.heap.size+1) 77 #[.string ⟨#[]⟩,.int .i64 0,.int .i64 0] (0,0) _ rfl q1 Tryz.underlying77 rfl tA1) rfl ?_
   have hb:=((bq.o.setCell (p:=⟨w.heap.size+1,0,none⟩) (Nat.le_succ _) (.string ⟨#[]⟩)).setCell (p:=⟨w.heap.size+1,1,none⟩) (Nat.le_succ _) (.int .i64 0)).setCell (p:=⟨w.heap.size+1,2,none⟩) (Nat.le_succ _) (.int .i64 0)
   exact⟨none,0,rfl,Kd.i1 _ _ _ _ _,hb⟩
  ·rw[if_neg FK]at e
   have abr:eE s=true:=by simpa using FK
   have bm:=ae (acv s vP.o)
   rw[abr]at bm
   clear FK abr
   go_wp2_with (go_at_call 58;with_reducible(refine(bm.o _).mono ?_);rintro e w3 ⟨rfl,hb⟩;have bS:=ae (au aI.o hb);have Qh:=ae (av jW.o hb);have Ei:=ae (av l9.o hb);have ath:w3.cell? ⟨w.heap.size,0,none⟩=some (.slice A l0.length c):=(mj Qh.o 0).trans rfl;have ati:w3.cell? ⟨w.heap.size,1,none⟩=some (.slice A' l1.length c'):=(mj Qh.o 1).trans rfl;have Bo:=ae (px.calls A c l0 A' c' l1 s _ w3 (a7.o.below bS.o).hs (a7.o.below bS.o).hc (a7.o.below bS.o).ks (a7.o.below bS.o).kc rfl);clear hb)
   by_cases hm:s∈l0.map (·.f0)
   ·rw[if_pos (LN.2 hm)]at e
    simp only[Prod.mk.injEq]at e
    obtain⟨e1,e2,e3⟩:=e
    obtain⟨n,hn,MQ,nT⟩:=T3 l0 s hm
    rw[MQ]at Bo
    obtain⟨r1,r2⟩:=adj (iT y6.o).cg hn nT
    have PJ:af (rest=l0.eraseIdx n/\x=l0.getD n z77/\r=0):=⟨e2.symm.trans r1.symm,e1.symm.trans r2,e3.symm⟩
    clear e1 e2 e3 r1 r2 hm MQ nT
    obtain⟨ad,ee,x0,x1,x2⟩:=fe a7.o.hs (n:Int) tA0 tA0
    cases ee
    simp only[eQ]at x0 x1 x2
    have lv:af (aw l0 (n:Int)=l0.getD n z77):=⟨by simp[aw]⟩
    obtain⟨u,HU⟩:∃u,af (aw l0 (n:Int)=u):=⟨_,⟨rfl⟩⟩
    rw[HU.o]at x0 x1 x2
    have KQ:af ((ad.add (n * 3)).block<w.heap.size):=⟨b7 w _ x0⟩
    have WO:af (∀o,(⟨(ad.add (n * 3)).block,o,none⟩:Addr).block≠w.heap.size+1):=⟨fun o=>by have:=KQ.o;show(ad.add (n * 3)).block≠_;omega⟩
    have hlt:(n:Int)< (l0.length:Int):=tA0
    have HQ:af (IntKind.i64.wrap ((n:Int)+1)=(n:Int)+1):=⟨by rw[IntKind.wrap_i64];have:=(iT y6.o).len;omega⟩
    have WU:=ae hn
    have eJ:af (∀W:World,Below w.heap.size w W->Calls Tryz.prog 83 #[.slice (some ad) l0.length c] W fun e w'=>∃Y cap,e= .returned (.slice (some ⟨Y,0,none⟩) l0.length cap)/\Kd.N cu 77 w' W.heap.size (fun k=>some k=(Value.slice (some ⟨Y,0,none⟩) l0.length cap).ownBlock) (.slice (some ⟨Y,0,none⟩) l0.length cap) l0/\l0.length<=cap/\cap<=maxLen/\Below W.heap.size W w'):=⟨fun W hb=>(L9 (Kd.bN a7.o.hs hb) (by have:=(iT y6.o).len;omega)).mono fun e w' ⟨X,cap,he,hN,hb⟩=>by
     obtain⟨g,rfl,h2,h3,h4,h5⟩:=LA hN (fun e0=>by have:=WU.o;rw[e0]at this;exact absurd this tA2)
     exact⟨g,cap,he,tk B3 hN,h4,h5,hb⟩⟩
    have fY:af (∀W W':World,(W.cell? ⟨w.heap.size,0,none⟩=some (.slice (some ad) l0.length c)/\W.cell? (ad.add (n * 3))=some (.string u.f0)/\W.cell? ⟨(ad.add (n * 3)).block,(ad.add (n * 3)).off+1,none⟩=some (.int .i64 u.f1)/\W.cell? ⟨(ad.add (n * 3)).block,(ad.add (n * 3)).off+2,none⟩=some (.int .i64 u.f2)/\af (Below w.heap.size w W))->Below W.heap.size W W'->(W'.cell? ⟨w.heap.size,0,none⟩=some (.slice (some ad) l0.length c)/\W'.cell? (ad.add (n * 3))=some (.string u.f0)/\W'.cell? ⟨(ad.add (n * 3)).block,(ad.add (n * 3)).off+1,none⟩=some (.int .i64 u.f1)/\W'.cell? ⟨(ad.add (n * 3)).block,(ad.add (n * 3)).off+2,none⟩=some (.int .i64 u.f2)/\af (Below w.heap.size w W'))):=⟨fun W W' ⟨a,b,c,d,e⟩ hb=>⟨bw hb a,bw hb b,bw hb c,bw hb d,⟨au e.o hb⟩⟩⟩
    have er:af (∀(W:World) (v0 v1 v2:Value),(W.cell? ⟨w.heap.size,0,none⟩=some (.slice (some ad) l0.length c)/\W.cell? (ad.add (n * 3))=some (.string u.f0)/\W.cell? ⟨(ad.add (n * 3)).block,(ad.add (n * 3)).off+1,none⟩=some (.int .i64 u.f1)/\W.cell? ⟨(ad.add (n * 3)).block,(ad.add (n * 3)).off+2,none⟩=some (.int .i64 u.f2)/\af (Below w.heap.size w W))->((((W.setCell ⟨w.heap.size+1,0,none⟩ v0).setCell ⟨w.heap.size+1,1,none⟩ v1).setCell ⟨w.heap.size+1,2,none⟩ v2).cell? ⟨w.heap.size,0,none⟩=some (.slice (some ad) l0.length c)/\(((W.setCell ⟨w.heap.size+1,0,none⟩ v0).setCell ⟨w.heap.size+1,1,none⟩ v1).setCell ⟨w.heap.size+1,2,none⟩ v2).cell? (ad.add (n * 3))=some (.string u.f0)/\(((W.setCell ⟨w.heap.size+1,0,none⟩ v0).setCell ⟨w.heap.size+1,1,none⟩ v1).setCell ⟨w.heap.size+1,2,none⟩ v2).cell? ⟨(ad.add (n * 3)).block,(ad.add (n * 3)).off+1,none⟩=some (.int .i64 u.f1)/\(((W.setCell ⟨w.heap.size+1,0,none⟩ v0).setCell ⟨w.heap.size+1,1,none⟩ v1).setCell ⟨w.heap.size+1,2,none⟩ v2).cell? ⟨(ad.add (n * 3)).block,(ad.add (n * 3)).off+2,none⟩=some (.int .i64 u.f2)/\af (Below w.heap.size w (((W.setCell ⟨w.heap.size+1,0,none⟩ v0).setCell ⟨w.heap.size+1,1,none⟩ v1).setCell ⟨w.heap.size+1,2,none⟩ v2)))):=⟨fun W v0 v1 v2 ⟨a,b,c,d,e⟩=>by
     have hk:Kept W (((W.setCell ⟨w.heap.size+1,0,none⟩ v0).setCell ⟨w.heap.size+1,1,none⟩ v1).setCell ⟨w.heap.size+1,2,none⟩ v2) (fun k=>k=w.heap.size+1):=fN (p:=⟨w.heap.size+1,2,none⟩) (fN (p:=⟨w.heap.size+1,1,none⟩) (fN (p:=⟨w.heap.size+1,0,none⟩) (Kept.refl W (fun k=>k=w.heap.size+1)) (.inl rfl) v0) (.inl rfl) v1) (.inl rfl) v2
     exact⟨wj a hk tCv,wj b hk (by have:=KQ.o;show ¬ (ad.add (n * 3)).block=_;omega),wj c hk (WO.o _),wj d hk (WO.o _),⟨((e.o.setCell (p:=⟨w.heap.size+1,0,none⟩) (Nat.le_succ _) v0).setCell (p:=⟨w.heap.size+1,1,none⟩) (Nat.le_succ _) v1).setCell (p:=⟨w.heap.size+1,2,none⟩) (Nat.le_succ _) v2⟩⟩⟩
    have kW:af (∀W:World,(W.cell? ⟨w.heap.size,0,none⟩=some (.slice (some ad) l0.length c)/\W.cell? (ad.add (n * 3))=some (.string u.f0)/\W.cell? ⟨(ad.add (n * 3)).block,(ad.add (n * 3)).off+1,none⟩=some (.int .i64 u.f1)/\W.cell? ⟨(ad.add (n * 3)).block,(ad.add (n * 3)).off+2,none⟩=some (.int .i64 u.f2)/\af (Below w.heap.size w W))->Below w.heap.size w W):=⟨fun W h=>h.2.2.2.2.o⟩
    have n0:(0:Int)<=(n:Int):=tA0
    go_wp2_with (go_at_call 59;with_reducible(refine Bo.o.mono ?_);rintro e w4 ⟨rfl,hb⟩;have cO:=ae (au bS.o hb);have zu:=ae (av Qh.o hb);have Li:=ae (av Ei.o hb);have v0:w4.cell? ⟨w.heap.size,0,none⟩=some (.slice (some ad) l0.length c):=(mj zu.o 0).trans rfl;have v1:=bw cO.o x0;have v2:=bw cO.o x1;have v3:=bw cO.o x2;clear hb aK aC ath ati Bo)
    go_region_held3 (fun W=>(W.cell? ⟨w.heap.size,0,none⟩=some (.slice (some ad) l0.length c)/\W.cell? (ad.add (n * 3))=some (.string u.f0)/\W.cell? ⟨(ad.add (n * 3)).block,(ad.add (n * 3)).off+1,none⟩=some (.int .i64 u.f1)/\W.cell? ⟨(ad.add (n * 3)).block,(ad.add (n * 3)).off+2,none⟩=some (.int .i64 u.f2)/\af (Below w.heap.size w W))) (first|exact⟨v0,v1,v2,v3,⟨cB cO.o⟩⟩|assumption|exact er.o _ _ _ _ tAc) (first|(go_at_call 83;with_reducible(refine(eJ.o _ (kW.o _ tAc)).mono ?_);intro e aZ hI;obtain⟨Y,cap,rfl,hN,hc1,hc2,hb⟩:=hI;have Xn:=ae ((fun {W W':World} (h:Below W.heap.size W W') (h2:(W.cell? ⟨w.heap.size,0,none⟩=some (.slice (some ad) l0.length c)/\W.cell? (ad.add (n * 3))=some (.string u.f0)/\W.cell? ⟨(ad.add (n * 3)).block,(ad.add (n * 3)).off+1,none⟩=some (.int .i64 u.f1)/\W.cell? ⟨(ad.add (n * 3)).block,(ad.add (n * 3)).off+2,none⟩=some (.int .i64 u.f2)/\af (Below w.heap.size w W)))=>h2) hb tAc);have SH:=fY.o _ _ Xn.o hb;have y4:=ae ((fun {W W':World} (h:Below W.heap.size W W') (h2:Below w.heap.size w W)=>h2) hb (kW.o _ tAc));have xy:=ae hN;have xh:=ae hb;have jc:=ae hc1;have xl:=ae hc2;clear hN hc1 hc2 hb)|(go_at_call 138;rw[HQ.o];with_reducible(refine(akM xy.o jc.o xl.o n WU.o xh.o).mono ?_);intro e aY hI;obtain⟨rfl,hN,hb⟩:=hI;have zf:=ae hN;have aX:=av (bz Li.o) hb;have z0:aY.cell? ⟨w.heap.size+1,0,none⟩=some (.string ⟨#[]⟩):=(mj aX 0).trans rfl;have c2:aY.cell? ⟨w.heap.size+1,1,none⟩=some (.int .i64 0):=(mj aX 1).trans rfl;have z2:aY.cell? ⟨w.heap.size+1,2,none⟩=some (.int .i64 0):=(mj aX 2).trans rfl;have g0:=ar aX 0;have g1:=ar aX 1;have g2:=ar aX 2;have eD:=az aX;have dL:=ae aX;have cP:=ae (au y4.o hb);have SI:=fY.o _ _ Xn.o hb;clear hN hb aX))
    all_goals
     rename_i hh
     clear hh
     go_wp2
     have q1:=a6 (a6 (a6 dL.o 0 (.string u.f0) rfl) 1 (.int .i64 u.f1) rfl) 2 (.int .i64 u.f2) rfl
     refine bodyPost_ret (NU rfl _ _ (w.heap.size+1) 77 #[.string u.f0,.int .i64 u.f1,.int .i64 u.f2] (0,0) _ rfl q1 Tryz.underlying77 rfl tA1) rfl ?_
     have hb:=((cP.o.setCell (p:=⟨w.heap.size+1,0,none⟩) (Nat.le_succ _) (.string u.f0)).setCell (p:=⟨w.heap.size+1,1,none⟩) (Nat.le_succ _) (.int .i64 u.f1)).setCell (p:=⟨w.heap.size+1,2,none⟩) (Nat.le_succ _) (.int .i64 u.f2)
     have hne:∀k,some k=(Value.slice (some ⟨Y,0,none⟩) l0.length cap).ownBlock->k≠w.heap.size+1:=fun k hk=>by
      have h1:w4.heap.size<=k:=Kd.eK zf.o k (NI.trans hk.symm)
      have h2:=az Li.o
      omega
     have hn:=Kd.gp (Kd.cw (p:=⟨w.heap.size+1,2,none⟩) (Kd.cw (p:=⟨w.heap.size+1,1,none⟩) (Kd.cw (p:=⟨w.heap.size+1,0,none⟩) zf.o hne (.string u.f0)) hne (.int .i64 u.f1)) hne (.int .i64 u.f2)) y4.o.size
     obtain⟨hr1,hr2,hr3⟩:=PJ.o
     have hlen:=(Kd.ej hn).1
     rw[hr1,hr2,hr3,<- lv.o,HU.o,<- hlen]
     exact⟨_,cap,rfl,hn,hb⟩
   ·rw[if_neg (fun h=>hm (LN.1 h))]at e
    simp only[Prod.mk.injEq]at e
    obtain⟨rfl,rfl,rfl⟩:=e
    have MQ:=ao1 l0 s hm
    generalize idxFrom (fun x:aq=>x.f0.toList==s.toList) l0 0=Jv at Bo MQ
    clear hm
    go_wp2_with (go_at_call 59;with_reducible(refine Bo.o.mono ?_);rintro e w4 ⟨rfl,hb⟩;have bq:=ae (au bS.o hb);have aX:=av Ei.o hb;have z0:w4.cell? ⟨w.heap.size+1,0,none⟩=some (.string ⟨#[]⟩):=(mj aX 0).trans rfl;have c2:w4.cell? ⟨w.heap.size+1,1,none⟩=some (.int .i64 0):=(mj aX 1).trans rfl;have z2:w4.cell? ⟨w.heap.size+1,2,none⟩=some (.int .i64 0):=(mj aX 2).trans rfl;have g0:=ar aX 0;have g1:=ar aX 1;have g2:=ar aX 2;have eD:=az aX;have dL:=ae aX;clear aX;clear hb)
    have q1:=a6 (a6 (a6 dL.o 0 (.string ⟨#[]⟩) rfl) 1 (.int .i64 0) rfl) 2 (.int .i64 0) rfl
    refine bodyPost_ret (NU rfl _ _ (w.heap.size+1) 77 #[.string ⟨#[]⟩,.int .i64 0,.int .i64 0] (0,0) _ rfl q1 Tryz.underlying77 rfl tA1) rfl ?_
    have hb:=((bq.o.setCell (p:=⟨w.heap.size+1,0,none⟩) (Nat.le_succ _) (.string ⟨#[]⟩)).setCell (p:=⟨w.heap.size+1,1,none⟩) (Nat.le_succ _) (.int .i64 0)).setCell (p:=⟨w.heap.size+1,2,none⟩) (Nat.le_succ _) (.int .i64 0)
    exact⟨none,0,rfl,Kd.i1 _ _ _ _ _,hb⟩
 ·rw[if_pos e0]at e
  simp only[Prod.mk.injEq]at e
  obtain⟨rfl,rfl,e2⟩:=e
  rw[e2]at HC
  have hr:r≠0:=fun h=>e0 (e2.trans h)
  have zZ:(r !=0)=true:=bne_iff_ne.2 hr
  clear h e0 e2 hs
  go_enter Tryz.func85,Tryz.ntmps85
  go_wp2_with (go_at_call 51;with_reducible(refine HC.o.mono ?_);rintro e w2 ⟨rfl,hb⟩;have bq:=ae (au bI.o hb);have aX:=av cq.o hb;have z0:w2.cell? ⟨w.heap.size+1,0,none⟩=some (.string ⟨#[]⟩):=(mj aX 0).trans rfl;have c2:w2.cell? ⟨w.heap.size+1,1,none⟩=some (.int .i64 0):=(mj aX 1).trans rfl;have z2:w2.cell? ⟨w.heap.size+1,2,none⟩=some (.int .i64 0):=(mj aX 2).trans rfl;have g0:=ar aX 0;have g1:=ar aX 1;have g2:=ar aX 2;have eD:=az aX;have dL:=ae aX;clear aX;clear hb)
  have q1:=a6 (a6 (a6 dL.o 0 (.string ⟨#[]⟩) rfl) 1 (.int .i64 0) rfl) 2 (.int .i64 0) rfl
  refine bodyPost_ret (NU rfl _ _ (w.heap.size+1) 77 #[.string ⟨#[]⟩,.int .i64 0,.int .i64 0] (0,0) _ rfl q1 Tryz.underlying77 rfl tA1) rfl ?_
  have hb:=((bq.o.setCell (p:=⟨w.heap.size+1,0,none⟩) (Nat.le_succ _) (.string ⟨#[]⟩)).setCell (p:=⟨w.heap.size+1,1,none⟩) (Nat.le_succ _) (.int .i64 0)).setCell (p:=⟨w.heap.size+1,2,none⟩) (Nat.le_succ _) (.int .i64 0)
  exact⟨none,0,rfl,Kd.i1 _ _ _ _ _,hb⟩
end
def nh:List Value->Nat->List Value->List Value
 | l,_,[]=>l
 | l,o,u::r=>nh (l.set o u) (o+1) r
theorem Ve (m:Nat):∀(r l:List Value) (o:Nat),(nh l o r).take m=nh (l.take m) o r
 | [],_,_=>rfl
 | u::r,l,o=>by rw[nh,nh,Ve m r,List.take_set]
theorem Vd:∀(r l:List Value) (o:Nat),(nh l o r).length=l.length
 | [],_,_=>rfl
 | u::r,l,o=>by rw[nh,Vd r,List.length_set]
theorem adx:∀(r l:List Value) (o:Nat),l.length<=o->nh l o r=l
 | [],_,_,_=>rfl
 | u::r,l,o,h=>by rw[nh,List.set_eq_of_length_le h,adx r l (o+1) tA0]
theorem ady:∀(r p a b:List Value),a.length=r.length->nh (p++a++b) p.length r=p++r++b
 | [],p,a,b,h=>by
  have:a=[]:=List.length_eq_zero_iff.1 h
  rw[this,nh]
 | u::r,p,[],b,h=>tAk
 | u::r,p,x::a,b,h=>by
  rw[nh]
  have e:(p++x::a++b).set p.length u=(p++[u])++a++b:=by
   simp[List.set_append]
  have h2:=ady r (p++[u]) a b tAi
  rw[fZ,List.length_singleton]at h2
  rw[e,h2]
  simp
theorem adz:∀(r a b:List Value) (o:Nat),nh (a++b) (a.length+o) r=a++nh b o r
 | [],_,_,_=>rfl
 | u::r,a,b,o=>by
  rw[nh,nh,List.set_append_right _ _ tA0,Nat.add_sub_cancel_left,Nat.add_assoc,adz r a _ (o+1)]
section
variable {sz:Nat}
theorem IE:∀{rows:List (List Value)},(∀r∈rows,r.length=sz)->rows.flatten.length=rows.length * sz
 | [],_=>tA2
 | r::rows,h=>by
  rw[List.flatten_cons,fZ,h r tA2,IE (fun x hx=>h x (jk _ hx)),i6,Nat.add_mul,Nat.one_mul]
  omega
theorem Ms:∀{rows:List (List Value)},(∀r∈rows,r.length=sz)->∀{j i:Nat},j<rows.length->i<sz->rows.flatten[j * sz+i]?=(rows.getD j [])[i]?
 | [],_,_,_,h,_=>absurd h tA2
 | r::rows,h,0,i,_,hi=>by
  rw[Nat.zero_mul,Nat.zero_add,List.flatten_cons,qb (by rw[h r tA2];exact hi)]
  rfl
 | r::rows,h,j+1,i,hj,hi=>by
  rw[List.flatten_cons,List.getElem?_append_right (by rw[h r tA2,Nat.add_mul,Nat.one_mul];omega),h r tA2,show(j+1) * sz+i-sz=j * sz+i by rw[Nat.add_mul,Nat.one_mul];omega]
  rw[Ms (fun x hx=>h x (jk _ hx)) tAv hi]
  rfl
theorem ZH:∀{rows:List (List Value)},(∀r∈rows,r.length=sz)->∀m,rows.flatten.take (m * sz)=(rows.take m).flatten
 | [],_,_=>tA2
 | r::rows,h,0=>tA2
 | r::rows,h,m+1=>by
  have hr:=h r tA2
  rw[List.flatten_cons,List.take_succ_cons,List.flatten_cons,List.take_append,List.take_of_length_le (by rw[hr,Nat.add_mul,Nat.one_mul];omega),hr,show(m+1) * sz-sz=m * sz by rw[Nat.add_mul,Nat.one_mul];omega,ZH (fun x hx=>h x (jk _ hx)) m]
theorem ZC:∀{rows:List (List Value)},(∀r∈rows,r.length=sz)->∀{j:Nat} {r:List Value},rows[j]?=some r->(rows.flatten.drop (j * sz)).take sz=r
 | [],_,j,r,hj=>by simp at hj
 | x::rows,h,0,r,hj=>by
  have e:x=r:=tAv
  rw[Nat.zero_mul,List.drop_zero,List.flatten_cons,List.take_append_of_le_length (by rw[h x tA2];exact bl _),List.take_of_length_le (by rw[h x tA2];exact bl _),e]
 | x::rows,h,j+1,r,hj=>by
  have hx:=h x tA2
  rw[List.flatten_cons,show(j+1) * sz=x.length+j * sz by rw[hx,Nat.add_mul,Nat.one_mul];omega,List.drop_append,List.drop_eq_nil_of_le tA0,List.nil_append,Nat.add_sub_cancel_left]
  exact ZC (fun y hy=>h y (jk _ hy)) tAv
theorem ZG:∀{rows:List (List Value)},(∀r∈rows,r.length=sz)->∀{j:Nat} {r:List Value},j<rows.length->r.length=sz->nh rows.flatten (j * sz) r=(rows.set j r).flatten
 | [],_,_,_,h,_=>absurd h tA2
 | x::rows,h,0,r,_,hr=>by
  have h1:=ady r [] x rows.flatten (by rw[h x tA2,hr])
  rw[List.length_nil,List.nil_append,List.nil_append]at h1
  rw[Nat.zero_mul,List.flatten_cons,h1]
  rfl
 | x::rows,h,j+1,r,hj,hr=>by
  have hx:=h x tA2
  rw[List.flatten_cons,show(j+1) * sz=x.length+j * sz by rw[hx,Nat.add_mul,Nat.one_mul];omega,adz,ZG (fun y hy=>h y (jk _ hy)) tAv hr]
  rfl
end
theorem Rs {X e:Nat}:∀(r:List Value) (W:World) (o:Nat) (cur:Array Value),W.heap[X]?=some (.cells cur e (0,0))->∃cur':Array Value,(W.setCells X o r).heap[X]?=some (.cells cur' e (0,0))/\cur'.toList=nh cur.toList o r
 | [],W,o,cur,h=>⟨cur,h,rfl⟩
 | u::r,W,o,cur,h=>by
  obtain⟨cur',h1,h2⟩:=Rs r (W.setCell ⟨X,o,none⟩ u) (o+1) (cur.setIfInBounds o u) (uV h _ _)
  exact⟨cur',h1,by rw[h2,Array.toList_setIfInBounds,nh]⟩
def ea (e sz:Nat)(W:World)(X cap:Nat)(rows:List (List Value)):Prop:=∃cur:Array Value,W.heap[X]?=some (.cells cur e (0,0))/\rows.length<=cap/\cap<=maxLen/\cur.size=cap * sz/\(∀r∈rows,r.length=sz)/\cur.toList.take (rows.length * sz)=rows.flatten
section
variable {e sz:Nat}{W W':World}{X cap:Nat}{rows:List (List Value)}
theorem ea.lt (h:ea e sz W X cap rows):X<W.heap.size:=by
 obtain⟨cur,h1,_⟩:=h
 exact az h1
theorem ea.same (h:ea e sz W X cap rows)(q:W'.heap[X]?=W.heap[X]?):ea e sz W' X cap rows:=by
 obtain⟨cur,h1,h2⟩:=h
 exact⟨cur,q.trans h1,h2⟩
theorem ea.below (h:ea e sz W X cap rows)(hb:Below W.heap.size W W'):ea e sz W' X cap rows:=h.same (hb.block X h.lt)
theorem ea.acd (h:ea e sz W X cap rows):rows.length<=cap:=by
 obtain⟨cur,_,h2,_⟩:=h
 exact h2
theorem ea.frozen (h:ea e sz W X cap rows)(i:Nat):W.frozen? ⟨X,i,none⟩=false:=by
 obtain⟨cur,h1,_⟩:=h
 exact ar h1 i
theorem ea.cell (h:ea e sz W X cap rows){j i:Nat}(hj:j<rows.length)(hi:i<sz):W.cell? ⟨X,j * sz+i,none⟩=(rows.getD j [])[i]?:=by
 obtain⟨cur,h1,h2,h3,h4,h5,h6⟩:=h
 have hle:(j+1) * sz<=rows.length * sz:=Ro _ hj
 rw[Nat.add_mul,Nat.one_mul]at hle
 rw[mj h1,<- Ms h5 hj hi,<- h6,jC tA0,Array.getElem?_toList]
theorem ea.set (h:ea e sz W X cap rows){j:Nat}{r:List Value}(hj:j<rows.length)(hr:r.length=sz):ea e sz (W.setCells X (j * sz) r) X cap (rows.set j r):=by
 obtain⟨cur,h1,h2,h3,h4,h5,h6⟩:=h
 obtain⟨cur',k1,k2⟩:=Rs r W (j * sz) cur h1
 refine⟨cur',k1,tD1,h3,?_,fun x hx=>?_,?_⟩
 ·rw[<- h4,<- Array.length_toList,<- Array.length_toList,k2,Vd]
 ·rcases List.mem_or_eq_of_mem_set hx with hx|hx
  ·exact h5 x hx
  ·rw[hx];exact hr
 ·rw[List.length_set,k2,Ve,h6,ZG h5 hj hr]
theorem ea.clear (h:ea e sz W X cap rows)(i:Nat)(hi:i<=rows.length)(zs:List Value):ea e sz (W.setCells X (i * sz) zs) X cap (rows.take i):=by
 obtain⟨cur,h1,h2,h3,h4,h5,h6⟩:=h
 obtain⟨cur',k1,k2⟩:=Rs zs W (i * sz) cur h1
 have hl:(rows.take i).length=i:=tAg
 refine⟨cur',k1,tA0,h3,?_,fun x hx=>h5 x (List.mem_of_mem_take hx),?_⟩
 ·rw[<- h4,<- Array.length_toList,<- Array.length_toList,k2,Vd]
 ·have hle:i * sz<=rows.length * sz:=Ro _ hi
  have h7:cur.toList.take (i * sz)=(rows.take i).flatten:=by
   rw[<- ZH h5 i,<- h6,List.take_take,Nat.min_eq_left hle]
  rw[hl,k2,Ve,adx _ _ _ tAg,h7]
theorem QQ {α:Type}{d:Kd α}{base:Nat}{ok:Nat->Prop}{v:Value}{xs:List α}(h:Kd.N d e W base ok v xs)(hne:xs≠[]):∃X cap rows,v= .slice (some ⟨X,0,none⟩) xs.length cap/\ok X/\base<=X/\rows.length=xs.length/\ea e d.sz W X cap rows/\∀(j:Nat) x c,xs[j]?=some x->rows[j]?=some c->Kd.eI d W (fun k=>ok k/\k≠X) x c:=by
 obtain⟨h0,rows,hl,⟨r0,inner,⟨q0,q1⟩,hr⟩,hf⟩:=h
 rcases q1 with⟨e1,e2⟩|⟨g,cap,cur,e1,h2,h3,h4,h5,h6,h7⟩
 ·exact absurd (List.length_eq_zero_iff.1 tA0) hne
 ·subst e1
  have hlen:∀r∈rows,r.length=d.sz:=fun r aoh=>by
   obtain⟨j,hj,rfl⟩:=List.mem_iff_getElem.1 aoh
   have h1:=(hr.2 j _ (b8 hj)).2.1
   have h2:=(hr.2 j _ (b8 hj)).1
   rw[h2]at h1
   exact h1
  have gO:inner=rows.flatten:=by
   apply List.ext_getElem?
   intro k
   by_cases hk:k<rows.length * d.sz
   ·have hs:0<d.sz:=by
     rcases Nat.eq_zero_or_pos d.sz with h|h
     ·rw[h,Nat.mul_zero]at hk;omega
     ·exact h
    have hj:k / d.sz<rows.length:=(Nat.div_lt_iff_lt_mul hs).2 hk
    have hm:=Nat.mod_lt k hs
    have di:k=k / d.sz * d.sz+k % d.sz:=by rw[Nat.mul_comm];exact(Nat.div_add_mod k d.sz).symm
    have h1:=(hr.2 (k / d.sz) _ (b8 hj)).1
    have h8:=congrArg (fun z=>z[k % d.sz]?) h1
    rw[jC (show k % d.sz< (Kd.raw d.sz).sz from hm),List.getElem?_drop]at h8
    have iF:=Ms hlen (i:=k % d.sz) hj hm
    rw[<- di]at iF
    have h10:(k / d.sz) * (Kd.raw d.sz).sz+k % d.sz=k:=di.symm
    rw[h10]at h8
    rw[h8,iF]
    simp[List.getD,b8 hj]
   ·rw[List.getElem?_eq_none (by have h1:inner.length=rows.length * d.sz:=hr.1;omega),List.getElem?_eq_none (by rw[IE hlen];omega)]
  refine⟨g,cap,rows,by rw[hl],h0 g rfl,h2,hl,⟨cur,h3,h4,h5,h6,hlen,?_⟩,fun j x c hx hc=>Kd.nx (hf j x c hx hc) fun k hk=>⟨hk.1,fun e=>hk.2 (by rw[e];rfl)⟩⟩
  rw[<- gO]
  exact h7
theorem LB {α:Type}{d:Kd α}{base:Nat}{ok:Nat->Prop}{xs:List α}(h:ea e d.sz W X cap rows)(hX:base<=X)(hk:ok X)(hl:rows.length=xs.length)(hf:∀(j:Nat) x c,xs[j]?=some x->rows[j]?=some c->Kd.eI d W (fun k=>ok k/\k≠X) x c):Kd.N d e W base ok (.slice (some ⟨X,0,none⟩) xs.length cap) xs:=by
 obtain⟨cur,h1,h2,h3,h4,h5,h6⟩:=h
 refine⟨fun k fP=>?_,rows,hl,⟨fun k fP=>fP.symm,rows.flatten,⟨IE h5,.inr ⟨X,cap,cur,by rw[hl],hX,h1,h2,h3,h4,h6⟩⟩,IE h5,fun j p hj=>?_⟩,fun j x c hx hc=>Kd.nx (hf j x c hx hc) fun k fP=>⟨fP.1,fun e=>fP.2 (by have:=(bo e);exact this)⟩⟩
 ·have:X=k:=by simpa[Value.ownBlock]using fP
  rw[<- this];exact hk
 ·have hp:=ZC h5 hj
  obtain⟨gQ,_⟩:=iC.1 hj
  have hx:xs[j]?=some (xs[j]' tA0):=b8 _
  have Fv:=Kd.o6 (hf j _ _ hx hj)
  have oV:List.take (Kd.raw d.sz).sz (List.drop (j * (Kd.raw d.sz).sz) rows.flatten)=p:=hp
  exact⟨oV,by rw[oV];exact d.oC Fv,by rw[oV];exact d.lA Fv⟩
end
def fo {α:Type}(p:α->Bool)(l:List α):List α:=l.filter fun x=> !p x
theorem NG {α:Type}(p:α->Bool)(l:List α)(x:α):fo p (l++[x])=if p x=true then fo p l else fo p l++[x]:=by
 unfold fo
 rw[List.filter_append]
 by_cases h:p x=true
 ·rw[if_pos h,List.filter_cons_of_neg tAl]
  simp
 ·rw[if_neg h,List.filter_cons_of_pos tAl]
  simp
theorem NF {α:Type}{p:α->Bool}{l:List α}(h:∀x∈l,p x=false):fo p l=l:=List.filter_eq_self.2 fun x hx=>by simp[h x hx]
def encS (x:aq):List Value:=[.string x.f0,.int .i64 x.f1,.int .i64 x.f2]
abbrev mg (W:World)(X cap:Nat)(l:List (aq)):Prop:=ea 77 3 W X cap (l.map encS)
theorem mg.cell0 {W:World}{X cap j:Nat}{l:List (aq)}{x:aq}(h:mg W X cap l)(hj:l[j]?=some x):W.cell? ⟨X,j * 3,none⟩=some (.string x.f0):=by
 obtain⟨hl,hx⟩:=iC.1 hj
 have:=ea.cell h (j:=j) (i:=0) tBg tA0
 simpa[List.getD,hj,encS]using this
theorem mg.cell1 {W:World}{X cap j:Nat}{l:List (aq)}{x:aq}(h:mg W X cap l)(hj:l[j]?=some x):W.cell? ⟨X,j * 3+1,none⟩=some (.int .i64 x.f1):=by
 obtain⟨hl,hx⟩:=iC.1 hj
 have:=ea.cell h (j:=j) (i:=1) tBg tA0
 simpa[List.getD,hj,encS]using this
theorem mg.RG {W:World}{X cap j:Nat}{l:List (aq)}{x:aq}(h:mg W X cap l)(hj:l[j]?=some x):W.cell? ⟨X,j * 3+2,none⟩=some (.int .i64 x.f2):=by
 obtain⟨hl,hx⟩:=iC.1 hj
 have:=ea.cell h (j:=j) (i:=2) tBg tA0
 simpa[List.getD,hj,encS]using this
theorem arI (W:World)(b o n c:Nat)(hn:0<n)(hc:∀j,j<n * 3->(W.cell? ⟨b,o+j,none⟩).isSome=true)(hf:∀j,j<n * 3->W.frozen? ⟨b,o+j,none⟩=false):
  ∃zs:List Value,∀ty,(Builtin.clear_ #[26] ty #[.slice (some ⟨b,o,none⟩) n c]).run Tryz.prog W= .ok (.tuple #[]) (W.setCells b o zs):=by
 have hv:∀w,(zeroValue 77).run Tryz.prog w= .ok (.agg #[.string ⟨#[]⟩,.int .i64 0,.int .i64 0]) w:=Tryz.zeroValue77
 refine⟨(Builtin.zeroCells (Value.agg #[.string ⟨#[]⟩,.int .i64 0,.int .i64 0]).cells n).toList,fun ty=>?_⟩
 have hcs:(Value.agg #[.string ⟨#[]⟩,.int .i64 0,.int .i64 0]).cells=#[.string ⟨#[]⟩,.int .i64 0,.int .i64 0]:=rfl
 have hlen:(Builtin.zeroCells (Value.agg #[.string ⟨#[]⟩,.int .i64 0,.int .i64 0]).cells n).toList.length=n * 3:=tC2
 have sH:∀v∈(Builtin.zeroCells (Value.agg #[.string ⟨#[]⟩,.int .i64 0,.int .i64 0]).cells n).toList,v.oneCell'=true:=by
  rw[hcs]
  intro v hv
  simp only[Builtin.zeroCells,Array.toList_map,List.mem_map]at hv
  obtain⟨i,_,rfl⟩:=hv
  have:i % 3=0\/i % 3=1\/i % 3=2:=tA0
  show(#[Value.string ⟨#[]⟩,Value.int .i64 0,Value.int .i64 0][i % 3]!).oneCell'=true
  rcases this with e|e|e<;>rw[e]<;>rfl
 have hst:=run_storeCells_cells (P:=Tryz.prog) b o _ 0 W tBq tCd sH
 simp only[Nat.add_zero]at hst
 obtain⟨m,rfl⟩:∃m,n=m+1:=⟨n-1,tA0⟩
 simp[Builtin.clear_,run_underlying Tryz.underlying26,hv,hst]
theorem ah3 {X cap B:Nat}{l:List (aq)}{W:World}{pd:aq->Bool}(h:mg W X cap l)(hl:l.length<=1000)(hc:∀x∈l,∀W',Below W.heap.size W W'->Calls Tryz.prog 146 #[.agg #[.string x.f0,.int .i64 x.f1,.int .i64 x.f2],.pointer (some ⟨B,0,none⟩)] W' fun e w'=>e= .returned (.bool (pd x))/\Below W'.heap.size W' w'):
  Calls Tryz.prog 120 #[.slice (some ⟨X,0,none⟩) l.length cap,.func (.func 146) #[] #[.pointer (some ⟨B,0,none⟩)]] W fun e w'=>∃r:Int,e= .returned (.int .i64 r)/\((r= -1/\∀x∈l,pd x=false)\/∃i0:Nat,r=(i0:Int)/\∃x0,l[i0]?=some x0/\pd x0=true/\∀x∈l.take i0,pd x=false)/\Below W.heap.size W w':=by
 have bT:=ae h
 have HC:=ae hc
 have eg:=enters_of Tryz.func146 tA1 rfl
 clear h hc
 go_enter Tryz.func120,Tryz.ntmps120
 go_wp2
 go_loopg [5,8] l.length (fun bL _ kE wr=>∃kk:Nat,kk<=l.length/\l.length-kk<=bL/\kE= .int .i64 kk/\af (∀x∈l.take kk,pd x=false)/\af (Below W.heap.size W wr))
 case atStart=>exact⟨0,Nat.zero_le _,tA0,rfl,⟨tA2⟩,⟨Below.refl _ _⟩⟩
 case round=>
  obtain⟨kk,eO,hg,rfl,gm,ak⟩:=hrel
  by_cases hlt:kk<l.length
  ·have cp:(kk:Int)< (l.length:Int):=by omega
   obtain⟨y,jM⟩:∃y,af (l[kk]?=some y):=⟨_,⟨b8 hlt⟩⟩
   have bf:=mg.cell0 (ea.below bT.o ak.o) jM.o
   have c1:=mg.cell1 (ea.below bT.o ak.o) jM.o
   have bb:=mg.RG (ea.below bT.o ak.o) jM.o
   have dQ:af (l.take (kk+1)=l.take kk++[y]):=⟨by
    rw[List.take_add_one,jM.o]
    rfl⟩
   have nB:=ae (HC.o y (List.mem_of_getElem? jM.o) wr ak.o)
   have D9:af (pd y=pd y):=⟨rfl⟩
   obtain⟨q,dK⟩:∃q,af (pd y=q):=⟨_,⟨rfl⟩⟩
   rw[dK.o]at nB
   clear D9
   obtain⟨aK,aC,bM⟩:=y
   cases q with
   | true=>
    go_wp2_with (go_at_fn 146)
    refine nB.o.mono ?_
    rintro e w2 ⟨rfl,hb⟩
    have aI:=ae (au ak.o hb)
    clear hb
    go_wp2
    go_ret
    exact⟨_,rfl,Or.inr ⟨kk,rfl,_,jM.o,dK.o,gm.o⟩,aI.o⟩
   | false=>
    go_wp2_with (go_at_fn 146)
    refine nB.o.mono ?_
    rintro e w2 ⟨rfl,hb⟩
    have aI:=ae (au ak.o hb)
    clear hb
    go_wp2
    go_roundg (l.length- (kk+1))
    case measure=>omega
    case rel=>exact⟨kk+1,tA0,tA0,tA7,⟨fun t ht=>by
     rw[dQ.o]at ht
     rcases List.mem_append.1 ht with ht|ht
     ·exact gm.o t ht
     ·rw[il.1 ht];exact dK.o⟩,aI⟩
  ·have cp:¬ (kk:Int)< (l.length:Int):=by omega
   have di:kk=l.length:=tA0
   have p6:=gm.o
   rw[di,fJ]at p6
   have e5:=ae p6
   clear p6 di
   go_wp2
   go_ret
   exact⟨_,rfl,Or.inl ⟨rfl,e5.o⟩,ak.o⟩
theorem ar9 {l:List (aq)}{i:Nat}{x:aq}:(l.map encS).set i (encS x)=(l.set i x).map encS:=by
 rw[List.map_set]
theorem ae8 {X cap B:Nat}{l:List (aq)}{w0 W:World}{pd:aq->Bool}(h:mg W X cap l)(hl:l.length<=1000)(hX:w0.heap.size<=X)(hB:Below w0.heap.size w0 W)(hc:∀x∈l,∀W',Kept W W' (fun k=>k=X)->Calls Tryz.prog 146 #[.agg #[.string x.f0,.int .i64 x.f1,.int .i64 x.f2],.pointer (some ⟨B,0,none⟩)] W' fun e w'=>e= .returned (.bool (pd x))/\Below W'.heap.size W' w'):
  Calls Tryz.prog 145 #[.slice (some ⟨X,0,none⟩) l.length cap,.func (.func 146) #[] #[.pointer (some ⟨B,0,none⟩)]] W fun e w'=>e= .returned (.slice (some ⟨X,0,none⟩) (fo pd l).length cap)/\af (mg w' X cap (fo pd l))/\af (Kept W w' (fun k=>k=X))/\af (Below w0.heap.size w0 w'):=by
 have bT:=ae h
 have ak:=ae hB
 have HC:=ae hc
 have eg:=enters_of Tryz.func146 tA1 rfl
 have nE:=ae (ah3 (B:=B) h hl (fun x hx W' hW=>hc x hx W' (Kept.gF hW _)))
 clear h hB hc
 go_enter Tryz.func145,Tryz.ntmps145
 go_wp2_with (go_at_call 120;refine nE.o.mono ?_;rintro e w1 ⟨r,rfl,hr,hb⟩;have bI:=ae hb;have fM:=ae (ea.below bT.o hb);clear hb;obtain⟨fW,hz⟩|⟨i0,fW,x0,ru,hz0,hz⟩:=hr)
 ·have gm:af (fo pd l=l):=⟨NF hz⟩
  rw[gm.o]
  clear hz
  subst fW
  go_wp2
  go_ret
  exact⟨rfl,fM,⟨Kept.gF bI.o _⟩,⟨cm ak.o ak.o.size bI.o⟩⟩
 ·subst fW
  have hr1:((i0:Int)== -1)=false:=ey.2 tA0
  have bA:=ae (cm ak.o ak.o.size bI.o)
  have anr:i0<l.length:=(iC.1 ru).1
  have aaV:(i0:Int)< (l.length:Int):=tA0
  have gm:af (fo pd (l.take (i0+1))=l.take i0):=⟨by
   rw[List.take_add_one,ru]
   show fo pd (l.take i0++[x0])=_
   rw[NG,if_pos hz0,NF hz]⟩
  clear hz hz0 ru
  go_wp2
  go_loopg [5,6,7] l.length (fun bL tQ qG _ wr=>∃(i j:Nat) (cur:List (aq)),i<j/\j<=l.length/\l.length-j<=bL/\tQ= .int .i64 i/\qG= .int .i64 j/\cur.length=l.length/\af (cur.take i=fo pd (l.take j))/\af (cur.drop j=l.drop j)/\af (mg wr X cap cur)/\af (Kept W wr (fun k=>k=X))/\af (Below w0.heap.size w0 wr))
  case atStart=>exact⟨i0,i0+1,l,tA0,tA0,tA0,rfl,tEh,rfl,⟨gm.o.symm⟩,⟨rfl⟩,fM,⟨Kept.gF bI.o _⟩,bA⟩
  case round=>
   obtain⟨i,j,cur,Ce,hj,hg,rfl,rfl,gN,A5,HD,b9,HK,dX⟩:=hrel
   by_cases hlt:j<l.length
   ·have cp:(j:Int)< (l.length:Int):=by omega
    have IY:(i:Int)< (l.length:Int):=tA0
    obtain⟨y,p5⟩:∃y,af (l[j]?=some y):=⟨_,⟨b8 hlt⟩⟩
    have jM:af (cur[j]?=some y):=⟨by
     have h1:=congrArg (fun x=>x[0]?) HD.o
     simp only[List.getElem?_drop,Nat.add_zero]at h1
     rw[h1];exact p5.o⟩
    obtain⟨atg,En⟩:∃y,af (cur[i]?=some y):=⟨_,⟨b8 tA0⟩⟩
    have dQ:af (fo pd (l.take (j+1))=if pd y=true then fo pd (l.take j)else fo pd (l.take j)++[y]):=⟨by
     rw[List.take_add_one,p5.o]
     exact NG pd _ _⟩
    have bf:=mg.cell0 b9.o jM.o
    have c1:=mg.cell1 b9.o jM.o
    have bb:=mg.RG b9.o jM.o
    have eJ:=ae gN
    clear gN
    have nB:=ae (HC.o y (List.mem_of_getElem? p5.o))
    obtain⟨q,dK⟩:∃q,af (pd y=q):=⟨_,⟨rfl⟩⟩
    rw[dK.o]at nB dQ
    obtain⟨aK,aC,bM⟩:=y
    have ie:=ae (ax (Below.refl wr.heap.size wr) (.cells #[.string aK,.int .i64 aC,.int .i64 bM] 77))
    have ki:=ae (a8 wr (.cells #[.string aK,.int .i64 aC,.int .i64 bM] 77))
    have G6:=ae (nB.o _ (HK.o.below ie.o))
    cases q with
    | true=>
     go_wp2_with (go_at_fn 146)
     refine G6.o.mono ?_
     rintro e w2 ⟨rfl,hb⟩
     have aI:=ae (au ie.o hb)
     clear hb bf c1 bb
     have e9:=ae (ea.below b9.o aI.o)
     have dP:=ae (HK.o.below aI.o)
     have o7:=ae (cm dX.o dX.o.size aI.o)
     go_wp2
     go_roundg (l.length- (j+1))
     case measure=>omega
     case rel=>exact⟨i,j+1,cur,tA0,tA0,tA0,rfl,tA7,eJ.o,⟨tEk⟩,⟨by
      have:=congrArg (List.drop 1) HD.o
      rwa[List.drop_drop,List.drop_drop]at this⟩,e9,dP,o7⟩
    | false=>
     go_wp2_with (go_at_fn 146)
     refine G6.o.mono ?_
     rintro e w2 ⟨rfl,hb⟩
     have aI:=ae (au ie.o hb)
     have gJ:=ae (av ki.o hb)
     clear hb bf c1 bb
     have e9:=ae (ea.below b9.o aI.o)
     have dP:=ae (HK.o.below aI.o)
     have o7:=ae (cm dX.o dX.o.size aI.o)
     have z0:w2.cell? ⟨wr.heap.size,0,none⟩=some (.string aK):=ah gJ.o 0
     have c2:w2.cell? ⟨wr.heap.size,1,none⟩=some (.int .i64 aC):=ah gJ.o 1
     have z2:w2.cell? ⟨wr.heap.size,2,none⟩=some (.int .i64 bM):=ah gJ.o 2
     have s0:∃u,w2.cell? ⟨X,i * 3,none⟩=some u:=⟨_,mg.cell0 e9.o En.o⟩
     have s1:∃u,w2.cell? ⟨X,i * 3+1,none⟩=some u:=⟨_,mg.cell1 e9.o En.o⟩
     have s2:∃u,w2.cell? ⟨X,i * 3+2,none⟩=some u:=⟨_,mg.RG e9.o En.o⟩
     obtain⟨u0,s0⟩:=s0
     obtain⟨u1,s1⟩:=s1
     obtain⟨u2,s2⟩:=s2
     have f0:=ea.frozen e9.o (i * 3)
     have f1:=ea.frozen e9.o (i * 3+1)
     have f2:=ea.frozen e9.o (i * 3+2)
     have sJ:=ea.lt e9.o
     go_wp2
     go_roundg (l.length- (j+1))
     case measure=>omega
     case rel=>exact⟨i+1,j+1,cur.set i ⟨aK,aC,bM⟩,tA0,tA0,tA0,tA7,tA7,tC4,⟨tD9⟩,⟨by
      rw[List.drop_set_of_lt tA0]
      have:=congrArg (List.drop 1) HD.o
      rwa[List.drop_drop,List.drop_drop]at this⟩,⟨by
      have:=ea.set e9.o (j:=i) (r:=encS ⟨aK,aC,bM⟩) tC8 rfl
      rw[ar9]at this
      exact this⟩,⟨fN (p:=⟨X,i * 3+2,none⟩) (fN (p:=⟨X,i * 3+1,none⟩) (fN (p:=⟨X,i * 3,none⟩) (dP.o) (.inl rfl) _) (.inl rfl) _) (.inl rfl) _⟩,⟨(((o7.o).setCell (p:=⟨X,i * 3,none⟩) hX _).setCell (p:=⟨X,i * 3+1,none⟩) hX _).setCell (p:=⟨X,i * 3+2,none⟩) hX _⟩⟩
   ·have cp:¬ (j:Int)< (l.length:Int):=by omega
    have mG:j=l.length:=tA0
    subst mG
    have B9:l.length<=cap:=by
     have:=ea.acd bT.o
     rwa[fc]at this
    obtain⟨zs,IU⟩:=arI wr X (i * 3) (l.length-i) (cap-i) tA0 (fun k hk=>by
     obtain⟨Rq,b1,b2,b3,b4,aX,eR⟩:=b9.o
     rw[mj b1]
     have:i * 3+k<Rq.size:=tA0
     simp[Array.getElem?_eq_getElem this]) (fun k hk=>ea.frozen b9.o _)
    have eJ:=ae gN
    have fx:af (fo pd l=cur.take i):=⟨by rw[A5.o,fJ]⟩
    have A7:af ((cur.take i).length=i):=⟨tAg⟩
    clear gN
    have Sr:(0:Int)<=(i:Int):=tA0
    have mJ:(i:Int)<=(l.length:Int):=tA0
    have Te:(i:Int)<=(cap:Int):=tA0
    have hne:¬ cap=i:=tA0
    go_wp2
    go_ret
    rw[fx.o,A7.o]
    exact⟨rfl,⟨by
     have:=ea.clear b9.o i tC8 zs
     rw[<- List.map_take]at this
     exact this⟩,⟨CP X (S:=fun k=>k=X) rfl zs _ _ HK.o⟩,⟨BM X hX zs _ _ dX.o⟩⟩
end Go.Proofs.YtjgakaembhmhpaaGreatDoor.PA
namespace Go.Proofs.YtjgakaembhmhpaaGreatDoor.PA.Two
open Go.RowKit Go.Proofs.YtjgakaembhmhpaaGreatDoorW.PrintWords Go.Proofs.YtjgakaembhmhpaaGreatDoorW.PrintLast Go.Proofs.YtjgakaembhmhpaaGreatDoorW.PrintMore Go.Proofs.YtjgakaembhmhpaaGreatDoorM
def AS (ws w0 W:World)(g:Nat)(A A':Option Addr)(c':Nat)(l0:List aq)(l1:List aj):Prop:=
 (∃ok:Nat->Prop,Kd.F cu W ok A l0.length l0/\Kd.N bc 33 W w0.heap.size ok (.slice A' l1.length c') l1/\¬ ok g/\∀k,ok k->ws.heap.size<=k)/\bF ws W g none
theorem eK {α:Type}{d:Kd α}{e:Nat}{w:World}{base base':Nat}{ok:Nat->Prop}{v:Value}{xs:List α}(h:Kd.N d e w base ok v xs)(hb:base'<=base):Kd.N d e w base' ok v xs:=by
 by_cases hx:xs=[]
 ·subst hx
  obtain⟨h0,rows,hl,⟨r0,inner,⟨q0,q1⟩,hr⟩,hf⟩:=h
  refine⟨h0,rows,hl,⟨r0,inner,⟨q0,?_⟩,hr⟩,hf⟩
  rcases q1 with q1|⟨g,cap,cur,e1,h2,h3⟩
  ·exact .inl q1
  ·exact .inr ⟨g,cap,cur,e1,bj hb h2,h3⟩
 ·obtain⟨X,cap,rows,rfl,hk,hX,hl,hR,hf⟩:=QQ h hx
  exact LB hR (bj hb hX) hk hl hf
structure eb (ws w0:World)(g aT Bs:Nat)(d:List Int)(b:Nat)(cj ct:Nat->Prop)(dF cH:Value)(vars:List aq)(conds:List aj)(W:World):Prop where
 st:dV w0 W g d b
 b2:W.heap[aT]?=some (.cells #[.slice none 0 0,.slice none 0 0] 29 (0,0))
 blk:W.heap[Bs]?=some (.cells #[dF,cH] 29 (0,0))
 jm:Kd.N cu 77 W w0.heap.size cj dF vars
 nY:Kd.N bc 33 W w0.heap.size ct cH conds
 fK:∀k,cj k->(w0.heap.size<=k/\k<W.heap.size)/\k≠g/\k≠Bs/\k≠aT/\¬ ct k
 ac:∀k,ct k->(w0.heap.size<=k/\k<W.heap.size)/\k≠g/\k≠Bs/\k≠aT
 c4:Below w0.heap.size w0 W
 ml:w0.heap.size<=Bs/\Bs≠g/\Bs≠aT
 se:w0.heap.size<=aT/\aT≠g
 j5:ws.heap.size<=Bs/\ws.heap.size<=aT/\∀k,cj k\/ct k->ws.heap.size<=k
 kb:bF ws W g none
theorem CO {ws W W':World}{g:Nat}{S:Nat->Prop}(h:bF ws W g none)(hk:Kept W W' S)(hS:∀k,S k->k=g\/ws.heap.size<=k):bF ws W' g none:=
 ⟨bj h.1 hk.1,fun i hi hg hn=>(hk.2 i (fy hi h.1) (fun hs=>(hS i hs).elim hg (fun h2=>absurd hi (Nat.not_lt.2 h2)))).trans (h.2 i hi hg hn)⟩
section
variable {ws w0:World}{g aT Bs:Nat}{d:List Int}{b b':Nat}{cj ct:Nat->Prop}{dF cH:Value}{vars:List aq}{conds:List aj}{W W' w1:World}
theorem eb.kept (h:eb ws w0 g aT Bs d b cj ct dF cH vars conds W){S:Nat->Prop}(hk:Kept W W' S)(hS:∀k,S k->¬ cj k/\¬ ct k/\k≠Bs/\k≠aT)(Fo:∀k,S k->k=g\/ws.heap.size<=k)(hst:dV w0 W' g d b')(hB:Below w0.heap.size w0 W'):eb ws w0 g aT Bs d b' cj ct dF cH vars conds W' where
 st:=hst
 b2:=iD h.b2 hk (fun e=>(hS _ e).2.2.2 rfl)
 blk:=iD h.blk hk (fun e=>(hS _ e).2.2.1 rfl)
 jm:=Kd.r6 h.jm hk (fun k hf hs=>(hS k hs).1 hf)
 nY:=Kd.r6 h.nY hk (fun k hf hs=>(hS k hs).2.1 hf)
 fK:=fun k hf=>⟨⟨(h.fK k hf).1.1,fy (h.fK k hf).1.2 hk.1⟩,(h.fK k hf).2⟩
 ac:=fun k hf=>⟨⟨(h.ac k hf).1.1,fy (h.ac k hf).1.2 hk.1⟩,(h.ac k hf).2⟩
 c4:=hB
 ml:=h.ml
 se:=h.se
 j5:=h.j5
 kb:=CO h.kb hk Fo
theorem eb.below (h:eb ws w0 g aT Bs d b cj ct dF cH vars conds W)(hb:Below W.heap.size W W'):eb ws w0 g aT Bs d b cj ct dF cH vars conds W':=
 h.kept (S:=fun _=>False) (Kept.gF hb _) (fun _ hf=>hf.elim) (fun _ hf=>hf.elim) (h.st.below hb) (au h.c4 hb)
theorem eb.stream (h:eb ws w0 g aT Bs d b cj ct dF cH vars conds W)(hk:bF W W' g none)(hst:dV w0 W' g d b')(hB:Below w0.heap.size w0 W'):eb ws w0 g aT Bs d b' cj ct dF cH vars conds W':=
 h.kept (Jx hk) (fun k e=>by subst e;exact⟨fun hf=>(h.fK _ hf).2.1 rfl,fun hf=>(h.ac _ hf).2.1 rfl,fun e=>h.ml.2.1 e.symm,fun e=>h.se.2 e.symm⟩) (fun k e=> .inl e) hst hB
theorem eb.adA (h:eb ws w0 g aT Bs d b cj ct dF cH vars conds W){v1:Value}{vars':List aq}(hb:Below w0.heap.size w0 w1)(hg:W.grownBy w1 dF.ownBlock)(hN:Kd.N cu 77 w1 w0.heap.size (fun k=>cj k\/W.heap.size<=k) v1 vars'):
  ∃DV,eb ws w0 g aT Bs d b DV ct v1 cH vars' conds (w1.setCell ⟨Bs,0,none⟩ v1)/\(∀k,DV k->cj k\/W.heap.size<=k)/\Kept W (w1.setCell ⟨Bs,0,none⟩ v1) (fun k=>cj k\/k=Bs):=by
 have hk:Kept W w1 cj:=Kept.Al hg (Kept.refl W _) (fun k hk=> .inl (h.jm.1 k hk))
 have hsz:(w1.setCell ⟨Bs,0,none⟩ v1).heap.size=w1.heap.size:=tB8
 have hk2:Kept W (w1.setCell ⟨Bs,0,none⟩ v1) (fun k=>cj k\/k=Bs):=(hk.mono (fun k hf=> .inl hf)).setCell (.inl (.inr rfl)) _
 have ky:w1.heap[Bs]?=some (.cells #[dF,cH] 29 (0,0)):=iD h.blk hk (fun hf=>(h.fK _ hf).2.2.1 rfl)
 refine⟨fun k=>cj k\/(W.heap.size<=k/\k<w1.heap.size),⟨?_,?_,?_,?_,?_,?_,?_,?_,h.ml,h.se,⟨h.j5.1,h.j5.2.1,fun k hf=>?_⟩,CO h.kb hk2 (fun k hs=> .inr (hs.elim (fun hf=>h.j5.2.2 k (.inl hf)) (fun e=>e▸h.j5.1)))⟩,fun k hf=>hf.imp id And.left,hk2⟩
 ·exact h.st.kept hk2 (fun e=>e.elim (fun hf=>(h.fK _ hf).2.1 rfl) (fun e=>h.ml.2.1 e.symm))
 ·exact iD h.b2 hk2 (fun e=>e.elim (fun hf=>(h.fK _ hf).2.2.2.1 rfl) (fun e=>h.ml.2.2 e.symm))
 ·exact a6 ky 0 v1 rfl
 ·refine Kd.cw (p:=⟨Bs,0,none⟩) (Kd.et (Kd.tj hN) (fun k hf=>hf.1.elim .inl (fun e=> .inr ⟨e,hf.2⟩))) (fun k hf e=>?_) _
  have e':k=Bs:=e
  subst e'
  rcases hf with hf|hf
  ·exact(h.fK _ hf).2.2.1 rfl
  ·have:=az h.blk
   omega
 ·exact Kd.r6 h.nY hk2 (fun k hf hs=>hs.elim (fun hv=>(h.fK k hv).2.2.2.2 hf) (fun e=>(h.ac k hf).2.2.1 e))
 ·intro k hf
  rw[hsz]
  rcases hf with hf|hf
  ·exact⟨⟨(h.fK k hf).1.1,fy (h.fK k hf).1.2 hk.1⟩,(h.fK k hf).2⟩
  ·have h1:=az h.blk
   have h2:=az h.b2
   have h3:=h.st.lt
   have h4:=h.c4.size
   exact⟨⟨tA0,hf.2⟩,tA0,tA0,tA0,fun hc=>by have:=(h.ac k hc).1.2;omega⟩
 ·intro k hf
  rw[hsz]
  exact⟨⟨(h.ac k hf).1.1,fy (h.ac k hf).1.2 hk.1⟩,(h.ac k hf).2⟩
 ·exact hb.setCell h.ml.1 _
 ·rcases hf with(hf|hf)|hf
  ·exact h.j5.2.2 k (.inl hf)
  ·exact bj h.kb.1 hf.1
  ·exact h.j5.2.2 k (.inr hf)
end
section
variable {ws w0:World}{g aT Bs fw:Nat}{d:List Int}{b b':Nat}{cj ct FT:Nat->Prop}{dF cH lQ:Value}{vars:List aq}{conds:List aj}{terms:List ay}{a:Int}{W W' w1:World}
theorem eb.adw (h:eb ws w0 g aT Bs d b cj ct dF cH vars conds W)(hT:∀k,FT k->(w0.heap.size<=k/\k<W.heap.size)/\k≠g/\k≠Bs/\k≠aT/\¬ cj k)(amh:∀k,FT k->ws.heap.size<=k){v1:Value}{Y2:List aj}(hb:Below w0.heap.size w0 w1)(hg:W.grownBy w1 cH.ownBlock)(hN:Kd.N bc 33 w1 w0.heap.size (fun k=>ct k\/FT k\/W.heap.size<=k) v1 Y2):
  ∃Km,eb ws w0 g aT Bs d b cj Km dF v1 vars Y2 (w1.setCell ⟨Bs,1,none⟩ v1):=by
 have hk:Kept W w1 ct:=Kept.Al hg (Kept.refl W _) (fun k hk=> .inl (h.nY.1 k hk))
 have hsz:(w1.setCell ⟨Bs,1,none⟩ v1).heap.size=w1.heap.size:=tB8
 have hk2:Kept W (w1.setCell ⟨Bs,1,none⟩ v1) (fun k=>ct k\/k=Bs):=(hk.mono (fun k hf=> .inl hf)).setCell (.inl (.inr rfl)) _
 have ky:w1.heap[Bs]?=some (.cells #[dF,cH] 29 (0,0)):=iD h.blk hk (fun hf=>(h.ac _ hf).2.2.1 rfl)
 refine⟨fun k=>ct k\/FT k\/(W.heap.size<=k/\k<w1.heap.size),⟨?_,?_,?_,?_,?_,?_,?_,?_,h.ml,h.se,⟨h.j5.1,h.j5.2.1,fun k hf=>?_⟩,CO h.kb hk2 (fun k hs=> .inr (hs.elim (fun hf=>h.j5.2.2 k (.inr hf)) (fun e=>e▸h.j5.1)))⟩⟩
 ·exact h.st.kept hk2 (fun e=>e.elim (fun hf=>(h.ac _ hf).2.1 rfl) (fun e=>h.ml.2.1 e.symm))
 ·exact iD h.b2 hk2 (fun e=>e.elim (fun hf=>(h.ac _ hf).2.2.2 rfl) (fun e=>h.ml.2.2 e.symm))
 ·exact a6 ky 1 v1 rfl
 ·exact Kd.r6 h.jm hk2 (fun k hf hs=>hs.elim (fun hv=>(h.fK k hf).2.2.2.2 hv) (fun e=>(h.fK k hf).2.2.1 e))
 ·refine Kd.cw (p:=⟨Bs,1,none⟩) (Kd.et (Kd.tj hN) (fun k hf=>hf.1.elim .inl (fun e=>e.elim (fun e=> .inr (.inl e)) (fun e=> .inr (.inr ⟨e,hf.2⟩))))) (fun k hf e=>?_) _
  have e':k=Bs:=e
  subst e'
  rcases hf with hf|hf|hf
  ·exact(h.ac _ hf).2.2.1 rfl
  ·exact(hT _ hf).2.2.1 rfl
  ·have:=az h.blk
   omega
 ·intro k hf
  rw[hsz]
  refine⟨⟨(h.fK k hf).1.1,fy (h.fK k hf).1.2 hk.1⟩,(h.fK k hf).2.1,(h.fK k hf).2.2.1,(h.fK k hf).2.2.2.1,fun hc=>?_⟩
  rcases hc with hc|hc|hc
  ·exact(h.fK k hf).2.2.2.2 hc
  ·exact(hT k hc).2.2.2.2 hf
  ·have:=(h.fK k hf).1.2
   omega
 ·intro k hf
  rw[hsz]
  have h1:=az h.blk
  have h2:=az h.b2
  have h3:=h.st.lt
  have h4:=h.c4.size
  have h5:=hk.1
  rcases hf with hf|hf|hf
  ·exact⟨⟨(h.ac k hf).1.1,fy (h.ac k hf).1.2 h5⟩,(h.ac k hf).2⟩
  ·exact⟨⟨(hT k hf).1.1,fy (hT k hf).1.2 h5⟩,(hT k hf).2.1,(hT k hf).2.2.1,(hT k hf).2.2.2.1⟩
  ·exact⟨⟨tA0,hf.2⟩,tA0,tA0,tA0⟩
 ·exact hb.setCell h.ml.1 _
 ·rcases hf with hf|hf|hf|hf
  ·exact h.j5.2.2 k (.inl hf)
  ·exact h.j5.2.2 k (.inr hf)
  ·exact amh k hf
  ·exact bj h.kb.1 hf.1
structure kq (ws w0:World)(g aT Bs:Nat)(d:List Int)(b:Nat)(cj ct:Nat->Prop)(dF cH:Value)(vars:List aq)(conds:List aj)(fw:Nat)(FT:Nat->Prop)(a:Int)(lQ:Value)(terms:List ay)(W:World):Prop where
 gM:eb ws w0 g aT Bs d b cj ct dF cH vars conds W
 bG:W.heap[fw]?=some (.cells #[.int .i64 a,lQ] 33 (0,0))
 Ak:Kd.N cf 79 W w0.heap.size FT lQ terms
 kZ:∀k,FT k->(w0.heap.size<=k/\k<W.heap.size)/\k≠g/\k≠Bs/\k≠aT/\k≠fw/\¬ cj k/\¬ ct k
 wa:w0.heap.size<=fw/\fw≠g/\fw≠Bs/\fw≠aT/\¬ cj fw/\¬ ct fw
 CT:ws.heap.size<=fw/\∀k,FT k->ws.heap.size<=k
theorem kq.kept (h:kq ws w0 g aT Bs d b cj ct dF cH vars conds fw FT a lQ terms W){S:Nat->Prop}(hk:Kept W W' S)(hS:∀k,S k->(¬ cj k/\¬ ct k/\k≠Bs/\k≠aT)/\¬ FT k/\k≠fw)(Fo:∀k,S k->k=g\/ws.heap.size<=k)(hst:dV w0 W' g d b')(hB:Below w0.heap.size w0 W'):kq ws w0 g aT Bs d b' cj ct dF cH vars conds fw FT a lQ terms W' where
 gM:=h.gM.kept hk (fun k hs=>(hS k hs).1) Fo hst hB
 bG:=iD h.bG hk (fun e=>(hS _ e).2.2 rfl)
 Ak:=Kd.r6 h.Ak hk (fun k hf hs=>(hS k hs).2.1 hf)
 kZ:=fun k hf=>⟨⟨(h.kZ k hf).1.1,fy (h.kZ k hf).1.2 hk.1⟩,(h.kZ k hf).2⟩
 wa:=h.wa
 CT:=h.CT
theorem kq.below (h:kq ws w0 g aT Bs d b cj ct dF cH vars conds fw FT a lQ terms W)(hb:Below W.heap.size W W'):kq ws w0 g aT Bs d b cj ct dF cH vars conds fw FT a lQ terms W':=
 h.kept (S:=fun _=>False) (Kept.gF hb _) (fun _ hf=>hf.elim) (fun _ hf=>hf.elim) (h.gM.st.below hb) (au h.gM.c4 hb)
theorem kq.stream (h:kq ws w0 g aT Bs d b cj ct dF cH vars conds fw FT a lQ terms W)(hk:bF W W' g none)(hst:dV w0 W' g d b')(hB:Below w0.heap.size w0 W'):kq ws w0 g aT Bs d b' cj ct dF cH vars conds fw FT a lQ terms W':=
 h.kept (Jx hk) (fun k e=>by subst e;exact⟨⟨fun hf=>(h.gM.fK _ hf).2.1 rfl,fun hf=>(h.gM.ac _ hf).2.1 rfl,fun e=>h.gM.ml.2.1 e.symm,fun e=>h.gM.se.2 e.symm⟩,fun hf=>(h.kZ _ hf).2.1 rfl,fun e=>h.wa.2.1 e.symm⟩) (fun k e=> .inl e) hst hB
theorem kq.ar7 (h:kq ws w0 g aT Bs d b cj ct dF cH vars conds fw FT a lQ terms W){v1:Value}{adX:List ay}(hb:Below w0.heap.size w0 w1)(hg:W.grownBy w1 lQ.ownBlock)(hN:Kd.N cf 79 w1 w0.heap.size (fun k=>FT k\/W.heap.size<=k) v1 adX):
  ∃OO,kq ws w0 g aT Bs d b cj ct dF cH vars conds fw OO a v1 adX (w1.setCell ⟨fw,1,none⟩ v1):=by
 have hk:Kept W w1 FT:=Kept.Al hg (Kept.refl W _) (fun k hk=> .inl (h.Ak.1 k hk))
 have hsz:(w1.setCell ⟨fw,1,none⟩ v1).heap.size=w1.heap.size:=tB8
 have hk2:Kept W (w1.setCell ⟨fw,1,none⟩ v1) (fun k=>FT k\/k=fw):=(hk.mono (fun k hf=> .inl hf)).setCell (.inl (.inr rfl)) _
 have ky:w1.heap[fw]?=some (.cells #[.int .i64 a,lQ] 33 (0,0)):=iD h.bG hk (fun hf=>(h.kZ _ hf).2.2.2.2.1 rfl)
 have h1:=az h.gM.blk
 have h2:=az h.gM.b2
 have h3:=h.gM.st.lt
 have h4:=h.gM.c4.size
 have h5:=hk.1
 have h6:=az h.bG
 refine⟨fun k=>FT k\/(W.heap.size<=k/\k<w1.heap.size),⟨?_,?_,?_,?_,h.wa,⟨h.CT.1,fun k hf=>hf.elim (h.CT.2 k) (fun e=>bj h.gM.kb.1 e.1)⟩⟩⟩
 ·refine h.gM.kept hk2 (fun k hs=>?_) (fun k hs=> .inr (hs.elim (h.CT.2 k) (fun e=>e▸h.CT.1))) (h.gM.st.kept hk2 ?_) (hb.setCell h.wa.1 _)
  ·rcases hs with hf|rfl
   ·exact⟨(h.kZ k hf).2.2.2.2.2.1,(h.kZ k hf).2.2.2.2.2.2,(h.kZ k hf).2.2.1,(h.kZ k hf).2.2.2.1⟩
   ·exact⟨h.wa.2.2.2.2.1,h.wa.2.2.2.2.2,h.wa.2.2.1,h.wa.2.2.2.1⟩
  ·exact fun e=>e.elim (fun hf=>(h.kZ _ hf).2.1 rfl) (fun e=>h.wa.2.1 e.symm)
 ·exact a6 ky 1 v1 rfl
 ·refine Kd.cw (p:=⟨fw,1,none⟩) (Kd.et (Kd.tj hN) (fun k hf=>hf.1.elim .inl (fun e=> .inr ⟨e,hf.2⟩))) (fun k hf e=>?_) _
  have e':k=fw:=e
  subst e'
  rcases hf with hf|hf
  ·exact(h.kZ _ hf).2.2.2.2.1 rfl
  ·omega
 ·intro k hf
  rw[hsz]
  rcases hf with hf|hf
  ·exact⟨⟨(h.kZ k hf).1.1,fy (h.kZ k hf).1.2 h5⟩,(h.kZ k hf).2⟩
  ·exact⟨⟨tA0,hf.2⟩,tA0,tA0,tA0,tA0,fun hv=>by have:=(h.gM.fK k hv).1.2;omega,fun hc=>by have:=(h.gM.ac k hc).1.2;omega⟩
theorem kq.elem {A:Option Addr}{c:Nat}(h:kq ws w0 g aT Bs d b cj ct dF cH vars conds fw FT a (.slice A terms.length c) terms W):Kd.eI bc W FT ⟨a,terms⟩ [.int .i64 a,.slice A terms.length c]:=by
 intro W' hW
 have h1:=(Kd.ej (Kd.BF h.Ak hW)).2
 exact⟨[.int .i64 a],[.slice A terms.length c],rfl,rfl,A,c,rfl,h1.1,h1.2⟩
end
structure GS (ws w0:World)(g aT Bs:Nat)(d:List Int)(b:Nat)(A:Option Addr)(c:Nat)(l0:List aq)(A':Option Addr)(c':Nat)(l1:List aj)(W:World):Prop where
 st:dV w0 W g d b
 b2:W.heap[aT]?=some (.cells #[.slice none 0 0,.slice none 0 0] 29 (0,0))
 blk:W.heap[Bs]?=some (.cells #[.slice A l0.length c,.slice A' l1.length c'] 29 (0,0))
 le:l0.length<=c/\l1.length<=c'
 rd:∃ok:Nat->Prop,(Kd.F cu W ok A l0.length l0/\Kd.N bc 33 W w0.heap.size ok (.slice A' l1.length c') l1)/\∀k,ok k->(k≠g/\k≠aT)/\ws.heap.size<=k
 c4:Below w0.heap.size w0 W
 se:w0.heap.size<=aT/\aT≠g
 j5:ws.heap.size<=aT
 kb:bF ws W g none
section
variable {ws w0:World}{g aT Bs:Nat}{d:List Int}{b b':Nat}{cj ct FT:Nat->Prop}{dF cH:Value}{vars l0:List aq}{conds l1:List aj}{A A':Option Addr}{c c':Nat}{W w1:World}
theorem eb.fin (h:eb ws w0 g aT Bs d b cj ct (.slice A vars.length c) (.slice A' conds.length c') vars conds W):GS ws w0 g aT Bs d b A c vars A' c' conds W:=
 ⟨h.st,h.b2,h.blk,⟨(Kd.ej h.jm).2.1,(Kd.ej h.nY).2.1⟩,⟨fun k=>cj k\/ct k,⟨Kd.ur (Kd.mb h.jm) (fun _ hk=> .inl hk),Kd.et h.nY (fun _ hk=> .inr hk)⟩,fun k hk=>⟨hk.elim (fun hf=>⟨(h.fK k hf).2.1,(h.fK k hf).2.2.2.1⟩) (fun hf=>⟨(h.ac k hf).2.1,(h.ac k hf).2.2.2⟩),h.j5.2.2 k hk⟩⟩,h.c4,h.se,h.j5.2.1,h.kb⟩
theorem eb.again (h:eb ws w0 g aT Bs d b cj ct (.slice A vars.length c) cH vars conds W)(hb:Below W.heap.size W w1)(hF:Kd.N bc 33 w1 W.heap.size (fun k=>ct k\/W.heap.size<=k) (.slice A' l1.length c') l1)(hle:l1.length<=c'):
  GS ws w0 g aT Bs d b A c vars A' c' l1 (w1.setCell ⟨Bs,1,none⟩ (.slice A' l1.length c')):=by
 have h1:=h.below hb
 have hk:Kept w1 (w1.setCell ⟨Bs,1,none⟩ (.slice A' l1.length c')) (fun k=>k=Bs):=fN (p:=⟨Bs,1,none⟩) (S:=fun k=>k=Bs) (Kept.refl w1 _) (.inl rfl) _
 have hlt:=az h.blk
 have zV:=az h.b2
 have axe:=h.st.lt
 refine⟨h1.st.kept hk (fun e=>h.ml.2.1 e.symm),iD h1.b2 hk (fun e=>h.ml.2.2 e.symm),a6 h1.blk 1 _ rfl,⟨(Kd.ej h.jm).2.1,hle⟩,⟨fun k=>cj k\/ct k\/W.heap.size<=k,⟨Kd.ur (Kd.l4 (Kd.mb h1.jm) hk (fun k hf e=>(h.fK k hf).2.2.1 e)) (fun _ hk=> .inl hk),eK (Kd.et (Kd.r6 hF hk (fun k hf e=>?_)) (fun _ hk=> .inr hk)) h.c4.size⟩,fun k hk=>⟨?_,hk.elim (fun hf=>h.j5.2.2 k (.inl hf)) (fun hf=>hf.elim (fun hf=>h.j5.2.2 k (.inr hf)) (fun hf=>bj h.kb.1 hf))⟩⟩,h1.c4.setCell h.ml.1 _,h.se,h.j5.2.1,CO h1.kb hk (fun k e=> .inr (e▸h.j5.1))⟩
 ·subst e
  exact hf.elim (fun hf=>(h.ac _ hf).2.2.1 rfl) (fun hf=>tA0)
 ·rcases hk with hf|hf|hf
  ·exact⟨(h.fK k hf).2.1,(h.fK k hf).2.2.2.1⟩
  ·exact⟨(h.ac k hf).2.1,(h.ac k hf).2.2.2⟩
  ·exact⟨tA0,tA0⟩
theorem eb.first {fg:Nat}(h:eb ws w0 g aT Bs d b cj ct (.slice (some ⟨fg,0,none⟩) vars.length c) (.slice A' conds.length c') vars conds W)(hp:0<vars.length)(r:Int):
  ∃tY:List aq,tY.length=vars.length/\(∀v∈tY,∃u∈vars,v.f0=u.f0)/\GS ws w0 g aT Bs d b (some ⟨fg,0,none⟩) c tY A' c' conds (W.setCell ⟨fg,1,none⟩ (.int .i64 r)):=by
 obtain⟨cells,hb⟩:=Kd.tq h.jm fg rfl
 have hg:cj fg:=h.jm.1 fg rfl
 have hk:Kept W (W.setCell ⟨fg,1,none⟩ (.int .i64 r)) (fun k=>k=fg):=fN (p:=⟨fg,1,none⟩) (S:=fun k=>k=fg) (Kept.refl W _) (.inl rfl) _
 obtain⟨tY,e1,e2,e3⟩:=aqX hb (Kd.ej h.jm).2.2 hp r
 have hle:=(Kd.ej h.jm).2.1
 refine⟨tY,e1,e2,h.st.kept hk (fun e=>(h.fK _ hg).2.1 e.symm),iD h.b2 hk (fun e=>(h.fK _ hg).2.2.2.1 e.symm),by rw[e1];exact iD h.blk hk (fun e=>(h.fK _ hg).2.2.1 e.symm),⟨tA0,(Kd.ej h.nY).2.1⟩,⟨fun k=>k=fg\/ct k,⟨Kd.ur e3 (fun _ hk=> .inl hk),Kd.et (Kd.r6 h.nY hk (fun k hf e=>by subst e;exact(h.fK _ hg).2.2.2.2 hf)) (fun _ hk=> .inr hk)⟩,fun k hk=>⟨?_,h.j5.2.2 k (hk.elim (fun e=> .inl (e▸hg)) .inr)⟩⟩,h.c4.setCell (h.fK _ hg).1.1 _,h.se,h.j5.2.1,CO h.kb hk (fun k e=> .inr (h.j5.2.2 k (.inl (e▸hg))))⟩
 rcases hk with rfl|hf
 ·exact⟨(h.fK _ hg).2.1,(h.fK _ hg).2.2.2.1⟩
 ·exact⟨(h.ac k hf).2.1,(h.ac k hf).2.2.2⟩
theorem GS.done (h:GS ws w0 g aT Bs d b A c l0 A' c' l1 W):(((W.setCell ⟨aT,0,none⟩ (.slice A l0.length c)).setCell ⟨aT,1,none⟩ (.slice A' l1.length c')).heap[aT]?=some (.cells #[.slice A l0.length c,.slice A' l1.length c'] 29 (0,0)))/\
  AS ws w0 ((W.setCell ⟨aT,0,none⟩ (.slice A l0.length c)).setCell ⟨aT,1,none⟩ (.slice A' l1.length c')) g A A' c' l0 l1/\
  dV w0 ((W.setCell ⟨aT,0,none⟩ (.slice A l0.length c)).setCell ⟨aT,1,none⟩ (.slice A' l1.length c')) g d b/\Below w0.heap.size w0 ((W.setCell ⟨aT,0,none⟩ (.slice A l0.length c)).setCell ⟨aT,1,none⟩ (.slice A' l1.length c')):=by
 have anx:Kept W (W.setCell ⟨aT,0,none⟩ (.slice A l0.length c)) (fun k=>k=aT):=fN (p:=⟨aT,0,none⟩) (S:=fun k=>k=aT) (Kept.refl W _) (.inl rfl) _
 have hk:Kept W ((W.setCell ⟨aT,0,none⟩ (.slice A l0.length c)).setCell ⟨aT,1,none⟩ (.slice A' l1.length c')) (fun k=>k=aT):=fN (p:=⟨aT,1,none⟩) (S:=fun k=>k=aT) anx (.inl rfl) _
 obtain⟨ok,⟨h1,h2⟩,h3⟩:=h.rd
 exact⟨a6 (a6 h.b2 0 _ rfl) 1 _ rfl,⟨⟨ok,Kd.l4 h1 hk (fun k hf e=>(h3 k hf).1.2 e),Kd.r6 h2 hk (fun k hf e=>(h3 k hf).1.2 e),fun hg=>(h3 g hg).1.1 rfl,fun k hf=>(h3 k hf).2⟩,CO h.kb hk (fun k e=> .inr (e▸h.j5))⟩,h.st.kept hk (fun e=>h.se.2 e.symm),(h.c4.setCell h.se.1 _).setCell h.se.1 _⟩
end
variable {base:Nat}
theorem aq6 {w W:World}{ok:Nat->Prop}{xs l:List aj}{L:List Value}{m:Nat}(hb:Below w.heap.size w W)(hX:W.heap[w.heap.size]?=some (.cells L.toArray 33 (0,0)))(hL:L.length=m * 2)(h:BJ w ok xs L l)(hl:l.length=m)(hm:m<=1000):
  Kd.N bc 33 W w.heap.size (fun k=>ok k\/w.heap.size<=k) (.slice (some ⟨w.heap.size,0,none⟩) l.length m) l:=by
 have hch:∀(j:Nat) (x:aj) (c:List Value),l[j]?=some x->(Kd.chunks 2 l.length L)[j]?=some c->∃v0 v1,c=[v0,v1]/\Kd.eI bc w ok x [v0,v1]:=fun j x c hx hc=>by
  obtain⟨_,v0,v1,a0,a1,a2⟩:=h j x hx
  refine⟨v0,v1,?_,a2⟩
  rw[Kd.BX hc]
  have hj:=(iC.1 a1).1
  apply List.ext_getElem?
  intro i
  match i with
  | 0=>rw[jC tA0,List.getElem?_drop,show j * 2+0=2 * j by omega,a0];rfl
  | 1=>rw[jC tA0,List.getElem?_drop,show j * 2+1=2 * j+1 by omega,a1];rfl
  | i+2=>rw[List.getElem?_eq_none tAg];rfl
 have hlen:∀r∈Kd.chunks 2 l.length L,r.length=2:=fun r hr=>by
  obtain⟨j,hj⟩:=List.getElem?_of_mem hr
  have gQ:j<l.length:=by have:=(iC.1 hj).1;rwa[Kd.oJ]at this
  obtain⟨v0,v1,e,_⟩:=hch j _ r (b8 gQ) hj
  rw[e];rfl
 refine LB (rows:=Kd.chunks 2 l.length L) ⟨L.toArray,hX,by rw[Kd.oJ];omega,by simp only[maxLen];omega,by rw[show bc.sz=2 from rfl];simpa using hL,hlen,?_⟩ (bl _) (.inr (bl _)) (Kd.oJ _ _ _) (fun j x c hx hc=>?_)
 ·rw[Kd.oJ]
  have S6:=IE hlen
  rw[Kd.oJ]at S6
  apply List.ext_getElem?
  intro i
  by_cases hi:i<l.length * 2
  ·have hj:i / 2<l.length:=by omega
   have iF:=Ms hlen (j:=i / 2) (i:=i % 2) (by rw[Kd.oJ];exact hj) (Nat.mod_lt _ tA0)
   rw[show i / 2 * 2+i % 2=i by omega]at iF
   rw[iF,jC (by rw[show bc.sz=2 from rfl];exact hi)]
   have hg:(Kd.chunks 2 l.length L)[i / 2]?=some ((Kd.chunks 2 l.length L).getD (i / 2) []):=by
    rw[List.getD_eq_getElem?_getD,b8 (by rw[Kd.oJ];exact hj)];rfl
   rw[Kd.BX hg,jC (Nat.mod_lt _ tA0),List.getElem?_drop,show i / 2 * 2+i % 2=i by omega]
  ·rw[List.getElem?_eq_none (by rw[bQ,show bc.sz=2 from rfl];omega),List.getElem?_eq_none tA0]
 ·obtain⟨v0,v1,e,Fv⟩:=hch j x c hx hc
  subst e
  refine Kd.nx (Foot.old Fv hb) (fun k hk=>⟨.inl hk.1,by have:=hk.2;omega⟩)
theorem apN (w:World)(hb:base<=w.heap.size)(ok:Nat->Prop)(ho:ok w.heap.size):Kd.N bc 33 (w.alloc (.cells (madeCells #[.int .i64 0,.slice none 0 0] (0 * 2)) 33)) base ok (.slice (some ⟨w.heap.size,0,none⟩) ([]:List aj).length 0) []:=by
 rw[show madeCells #[.int .i64 0,.slice none 0 0] (0 * 2)=#[] by simp[madeCells]]
 exact H6 bc 33 w base hb ok ho
theorem ai5 (ok:Nat->Prop)(A:Option Addr)(c:Nat)(xs:List aj)(w:World)(hr:Kd.F bc w ok A xs.length xs)(hc:xs.length<=c)(h3:xs.length<=3):
  Calls Tryz.prog 42 #[.slice A xs.length c,.int .i64 40] w fun e w'=>∃(A':Option Addr) (c':Nat) (l:List aj),e= .returned (.slice A' l.length c')/\l.length<=c'/\Kd.N bc 33 w' w.heap.size (fun k=>ok k\/w.heap.size<=k) (.slice A' l.length c') l/\(∀x∈l,x∈xs)/\l.length<=120/\Below w.heap.size w w':=by
 have bT:=ae hr
 obtain⟨m,Tw⟩:∃m,m=xs.length * 40:=⟨_,rfl⟩
 have dC:af (EO.f (xs.length:Int) 40=some (0,(m:Int))):=⟨by rw[Tw];exact apS xs.length h3⟩
 have FJ:=aci m tA0
 have hm:=(Kd.gY hr).2.1
 have vh:m<=120:=tA0
 have KU:=ae Tw
 clear hr Tw
 by_cases h0:xs=[]
 ·subst h0
  obtain rfl:m=0:=by simpa using KU.o
  have axi:∀W:World,(Instr.makeSlice 27 (.int .i64 0) (.int .i64 0)).run Tryz.prog W= .ok (.slice (some ⟨W.heap.size,0,none⟩) 0 0) (W.alloc (.cells (madeCells #[.int .i64 0,.slice none 0 0] (0 * 2)) 33)):=aci 0 tA0
  have hv:=fun(W:World) (X:Option Addr) (bf:Nat)=>arK (P:=Tryz.prog) W 27 27 3 33 2 X A 0 0 0 bf Tryz.underlying27 Vi rfl
  clear FJ
  go_enter Tryz.func42,Tryz.ntmps42
  go_wp2_with (first|(go_at_call 105;refine(EO.calls _ _ _ _ _ dC.o).mono ?_;rintro e w1 ⟨rfl,cg,rfl⟩)|(refine aem _ rfl (.tmp 31) (.tmp 32) 27 27 rfl _ _ (goInt 0) rfl rfl _ (hv _ _ _) ?_))
  refine wp_loop_rounds 1 ?_
  rw[rounds_succ]
  go_wp2
  go_ret
  exact⟨_,_,[],rfl,bl _,apN _ (Nat.le_of_eq tA2) _ (.inr (Nat.le_of_eq tA2)),fun x hx=>hx,tA2,ax (eG (Below.refl _ _) _) _⟩
 ·have yw:0<xs.length:=by
   cases xs with
   | nil=>exact absurd rfl h0
   | cons x azn=>simp
  obtain⟨ad,rfl,_⟩:=(Kd.gY bT.o).2.2 yw
  obtain⟨Bx,sD,Fm,hL2⟩:=arE bT.o
  have KB:af (∀W:World,Below w.heap.size w W->W.heap[w.heap.size]?=some (.cells (madeCells #[.int .i64 0,.slice none 0 0] (m * 2)) 33 (0,0))->∃W',(Builtin.copy_ #[27,27] 3 #[.slice (some ⟨w.heap.size,0,none⟩) m m,.slice (some ad) xs.length c]).run Tryz.prog W= .ok (.int .i64 (xs.length:Int)) W'/\xS w ok xs m w.heap.size xs W'):=⟨aq5 sD Fm hL2 (by have:=KU.o;omega)⟩
  clear sD Fm hL2 h0
  go_enter Tryz.func42,Tryz.ntmps42
  go_wp2_with (first|(go_at_call 105;refine(EO.calls _ _ _ _ _ dC.o).mono ?_;rintro e w1 ⟨rfl,cg,rfl⟩;obtain⟨W2,hrun,HST⟩:=KB.o ((w.drewN cg).alloc (.cells (madeCells #[.int .i64 0,.slice none 0 0] (m * 2)) 33)) (ax (eG (Below.refl _ _) _) _) (a8 (w.drewN cg) _);have fM:=ae hrun;have vO:=ae HST;clear hrun HST)|(refine aem _ rfl (.tmp 31) (.tmp 32) 27 27 rfl _ _ (.int .i64 (xs.length:Int)) rfl rfl _ fM.o ?_))
  clear FJ
  go_loopg [8] m (fun bL kE wr=>∃l:List aj,l.length<=m/\m-l.length<=bL/\kE= .int .i64 (l.length:Int)/\0<l.length/\af (xS w ok xs m w.heap.size l wr))
  case atStart=>exact⟨xs,by have:=KU.o;omega,tA0,rfl,yw,vO⟩
  case round=>
   obtain⟨l,hl,hg,rfl,hl0,HS⟩:=hrel
   by_cases hlt:l.length<m
   ·have cp:(l.length:Int)< (m:Int):=by omega
    obtain⟨W',hrun,HST⟩:=aq7 (show xS w ok xs m w.heap.size l wr.drew from HS.o.drewN 1) (bl _) hl0 hlt
    obtain⟨q,hq⟩:∃q,q=Nat.min l.length (m-l.length):=⟨_,rfl⟩
    rw[<- hq]at hrun HST
    have TG:q<=l.length:=by rw[hq];exact Nat.min_le_left _ _
    have TH:q<=m-l.length:=by rw[hq];exact Nat.min_le_right _ _
    have ayd:0<q:=by rw[hq];exact Nat.lt_min.2 ⟨hl0,tA0⟩
    have fV:=ae HST
    have K2:=ae hrun
    clear HST hrun hq
    go_wp2
    clear dC hm KU KB bT yw hc h3
    have hne:¬ m=l.length:=tA0
    go_region_law (refine asx rfl (.tmp 41) (.tmp 44) 27 27 tA5 (.slice (some ⟨w.heap.size,l.length * 2,none⟩) (m-l.length) (m-l.length)) (.slice (some ⟨w.heap.size,0,none⟩) l.length m) (.int .i64 (q:Int)) ?hd ?hs W' K2.o ?_;(case hd=>go_simp);(case hs=>go_simp))
    all_goals
     go_wp2
     go_roundg (m- (l.length+q))
     case measure=>omega
     case rel=>exact⟨l++l.take q,tAb,tAb,by rw[show(l++l.take q).length=l.length+q by simp;omega,Ni,eM _ tA0];rfl,tAb,fV⟩
   ·have cp:¬ (l.length:Int)< (m:Int):=by omega
    have I5:l.length=m:=tA0
    go_wp2
    go_ret
    obtain⟨L,q1,q2,q3,q4,q5⟩:=HS.o
    exact⟨_,m,l,by rw[I5];rfl,tA0,aq6 q5 q2 q1 q3 I5 tA0,fun x hx=>by
     obtain⟨j,hj⟩:=List.getElem?_of_mem hx
     exact(q3 j x hj).1,tA0,q5⟩
end Go.Proofs.YtjgakaembhmhpaaGreatDoor.PA.Two
namespace Go.Proofs.YtjgakaembhmhpaaGreatDoor.PA
open Go.RowKit Go.Proofs.YtjgakaembhmhpaaGreatDoorW.PrintWords Go.Proofs.YtjgakaembhmhpaaGreatDoorW.PrintLast Go.Proofs.YtjgakaembhmhpaaGreatDoorW.PrintMore Go.Proofs.YtjgakaembhmhpaaGreatDoorM
theorem alP (sides:List aq)(hs:sides.length<=1000)(f:aj)(hl:f.f1.length<=1000)(hn:∀t∈f.f1,t.f0.size<=100):∀(m kk k:Nat),kk+m=sides.length->m+6000<k->pM.l0 k ((sides.take kk).map (·.f0)) sides (sides.length:Int) (kk:Int) f.f0 f.f1=some (gG (sides.map (·.f0)) f):=by
 intro m
 induction m with
 | zero=>
  intro kk k h1 h2
  cases k with
  | zero=>omega
  | succ k=>
   rw[pM.l0,if_neg tA0,List.take_of_length_le tA0,Ys _ (by simpa using hs) f hl hn k tA0]
   rfl
 | succ m ih=>
  intro kk k h1 h2
  cases k with
  | zero=>omega
  | succ k=>
   have e0:kk<sides.length:=tA0
   have r0:aw sides (kk:Int)=sides[kk]:=by simp[aw,List.getD,b8 e0]
   have ec:wrap64 ((kk:Int)+1)=((kk+1:Nat):Int):=tAh
   rw[pM.l0,if_pos tA0,if_pos tA0,if_pos tA0,if_pos (by rw[fc,bQ];omega),ec,r0]
   have:(sides.take kk).map (·.f0)++[sides[kk].f0]=(sides.take (kk+1)).map (·.f0):=by
    rw[kr e0,List.map_append]
    rfl
   rw[this]
   exact ih (kk+1) k tA0 tA0
theorem alO (sides:List aq)(conds:List aj)(hs:sides.length<=1000)(f:aj)(hl:f.f1.length<=1000)(hn:∀t∈f.f1,t.f0.size<=100)(k:Nat)(hk:10000<=k):pM.f k sides conds f.f0 f.f1=some (gG (sides.map (·.f0)) f):=by
 unfold pM.f
 have:=alP sides hs f hl hn sides.length 0 k tA0 tA0
 simpa using this
theorem XW {A A' ed:Option Addr}{c c' dR:Nat}{l0:List aq}{l1:List aj}{f:aj}{w:World}(h:cD A c l0 A' c' l1 w)(g:gl ed dR f w)(hs:l0.length<=1000):
  Calls Tryz.prog 16 #[.agg #[.slice A l0.length c,.slice A' l1.length c'],.agg #[.int .i64 f.f0,.slice ed f.f1.length dR]] w fun e w'=>e= .returned (.int .i64 (gG (l0.map (·.f0)) f))/\Below w.heap.size w w':=
 pM.calls 300000 A c l0 A' c' l1 f.f0 ed dR f.f1 _ w h.hs h.hc h.ks h.kc g.tm g.tc (alO l0 l1 hs f g.n1 g.n2 300000 tA0)
end Go.Proofs.YtjgakaembhmhpaaGreatDoor.PA
namespace Go.Proofs.YtjgakaembhmhpaaGreatDoor.PA.Two
open Go.RowKit Go.Proofs.YtjgakaembhmhpaaGreatDoorW.PrintWords Go.Proofs.YtjgakaembhmhpaaGreatDoorW.PrintLast Go.Proofs.YtjgakaembhmhpaaGreatDoorW.PrintMore Go.Proofs.YtjgakaembhmhpaaGreatDoorM
structure kT where
 n:Int
 t:List ay
 A:Option Addr
 c:Nat
def kT.form (z:kT):aj:=⟨z.n,z.t⟩
def wk (x:kT):List Value:=[.int .i64 x.n,.slice x.A x.t.length x.c]
abbrev rf (W:World)(X cap:Nat)(l:List (kT)):Prop:=ea 33 2 W X cap (l.map wk)
theorem rf.cell0 {W:World}{X cap j:Nat}{l:List (kT)}{x:kT}(h:rf W X cap l)(hj:l[j]?=some x):W.cell? ⟨X,j * 2,none⟩=some (.int .i64 x.n):=by
 obtain⟨hl,hx⟩:=iC.1 hj
 have:=ea.cell h (j:=j) (i:=0) tBg tA0
 simpa[List.getD,hj,wk]using this
theorem rf.cell1 {W:World}{X cap j:Nat}{l:List (kT)}{x:kT}(h:rf W X cap l)(hj:l[j]?=some x):W.cell? ⟨X,j * 2+1,none⟩=some (.slice x.A x.t.length x.c):=by
 obtain⟨hl,hx⟩:=iC.1 hj
 have:=ea.cell h (j:=j) (i:=1) tBg tA0
 simpa[List.getD,hj,wk]using this
theorem arJ (W:World)(b o n c:Nat)(hn:0<n)(hc:∀j,j<n * 2->(W.cell? ⟨b,o+j,none⟩).isSome=true)(hf:∀j,j<n * 2->W.frozen? ⟨b,o+j,none⟩=false):
  ∃zs:List Value,∀ty,(Builtin.clear_ #[27] ty #[.slice (some ⟨b,o,none⟩) n c]).run Tryz.prog W= .ok (.tuple #[]) (W.setCells b o zs):=by
 have hv:∀w,(zeroValue 33).run Tryz.prog w= .ok (.agg #[.int .i64 0,.slice none 0 0]) w:=Tryz.zeroValue33
 refine⟨(Builtin.zeroCells (Value.agg #[.int .i64 0,.slice none 0 0]).cells n).toList,fun ty=>?_⟩
 have hcs:(Value.agg #[.int .i64 0,.slice none 0 0]).cells=#[.int .i64 0,.slice none 0 0]:=rfl
 have hlen:(Builtin.zeroCells (Value.agg #[.int .i64 0,.slice none 0 0]).cells n).toList.length=n * 2:=tC2
 have sH:∀v∈(Builtin.zeroCells (Value.agg #[.int .i64 0,.slice none 0 0]).cells n).toList,v.oneCell'=true:=by
  rw[hcs]
  intro v hv
  simp only[Builtin.zeroCells,Array.toList_map,List.mem_map]at hv
  obtain⟨i,_,rfl⟩:=hv
  have:i % 2=0\/i % 2=1:=tA0
  show(#[Value.int .i64 0,Value.slice none 0 0][i % 2]!).oneCell'=true
  rcases this with e|e<;>rw[e]<;>rfl
 have hst:=run_storeCells_cells (P:=Tryz.prog) b o _ 0 W tBq tCd sH
 simp only[Nat.add_zero]at hst
 obtain⟨m,rfl⟩:∃m,n=m+1:=⟨n-1,tA0⟩
 simp[Builtin.clear_,run_underlying Tryz.underlying27,hv,hst]
theorem ah6 {X cap B:Nat}{l:List (kT)}{W:World}{pd:kT->Bool}(h:rf W X cap l)(hl:l.length<=1000)(hc:∀x∈l,∀W',Below W.heap.size W W'->Calls Tryz.prog 75 #[.agg #[.int .i64 x.n,.slice x.A x.t.length x.c],.pointer (some ⟨B,0,none⟩)] W' fun e w'=>e= .returned (.bool (pd x))/\Below W'.heap.size W' w'):
  Calls Tryz.prog 129 #[.slice (some ⟨X,0,none⟩) l.length cap,.func (.func 75) #[] #[.pointer (some ⟨B,0,none⟩)]] W fun e w'=>∃r:Int,e= .returned (.int .i64 r)/\((r= -1/\∀x∈l,pd x=false)\/∃i0:Nat,r=(i0:Int)/\∃x0,l[i0]?=some x0/\pd x0=true/\∀x∈l.take i0,pd x=false)/\Below W.heap.size W w':=by
 have bT:=ae h
 have HC:=ae hc
 have eg:=enters_of Tryz.func75 tA1 rfl
 clear h hc
 go_enter Tryz.func129,Tryz.ntmps129
 go_wp2
 go_loopg [5,8] l.length (fun bL _ kE wr=>∃kk:Nat,kk<=l.length/\l.length-kk<=bL/\kE= .int .i64 kk/\af (∀x∈l.take kk,pd x=false)/\af (Below W.heap.size W wr))
 case atStart=>exact⟨0,Nat.zero_le _,tA0,rfl,⟨tA2⟩,⟨Below.refl _ _⟩⟩
 case round=>
  obtain⟨kk,eO,hg,rfl,gm,ak⟩:=hrel
  by_cases hlt:kk<l.length
  ·have cp:(kk:Int)< (l.length:Int):=by omega
   obtain⟨y,jM⟩:∃y,af (l[kk]?=some y):=⟨_,⟨b8 hlt⟩⟩
   have bf:=rf.cell0 (ea.below bT.o ak.o) jM.o
   have c1:=rf.cell1 (ea.below bT.o ak.o) jM.o
   have dQ:af (l.take (kk+1)=l.take kk++[y]):=⟨by
    rw[List.take_add_one,jM.o]
    rfl⟩
   have nB:=ae (HC.o y (List.mem_of_getElem? jM.o) wr ak.o)
   have D9:af (pd y=pd y):=⟨rfl⟩
   obtain⟨q,dK⟩:∃q,af (pd y=q):=⟨_,⟨rfl⟩⟩
   rw[dK.o]at nB
   clear D9
   obtain⟨aK,aC,bM,eH⟩:=y
   cases q with
   | true=>
    go_wp2_with (go_at_fn 75)
    refine nB.o.mono ?_
    rintro e w2 ⟨rfl,hb⟩
    have aI:=ae (au ak.o hb)
    clear hb
    go_wp2
    go_ret
    exact⟨_,rfl,Or.inr ⟨kk,rfl,_,jM.o,dK.o,gm.o⟩,aI.o⟩
   | false=>
    go_wp2_with (go_at_fn 75)
    refine nB.o.mono ?_
    rintro e w2 ⟨rfl,hb⟩
    have aI:=ae (au ak.o hb)
    clear hb
    go_wp2
    go_roundg (l.length- (kk+1))
    case measure=>omega
    case rel=>exact⟨kk+1,tA0,tA0,tA7,⟨fun t ht=>by
     rw[dQ.o]at ht
     rcases List.mem_append.1 ht with ht|ht
     ·exact gm.o t ht
     ·rw[il.1 ht];exact dK.o⟩,aI⟩
  ·have cp:¬ (kk:Int)< (l.length:Int):=by omega
   have di:kk=l.length:=tA0
   have p6:=gm.o
   rw[di,fJ]at p6
   have e5:=ae p6
   clear p6 di
   go_wp2
   go_ret
   exact⟨_,rfl,Or.inl ⟨rfl,e5.o⟩,ak.o⟩
theorem asa {l:List (kT)}{i:Nat}{x:kT}:(l.map wk).set i (wk x)=(l.set i x).map wk:=by
 rw[List.map_set]
theorem OJ {X cap B:Nat}{l:List (kT)}{w0 W:World}{pd:kT->Bool}(h:rf W X cap l)(hl:l.length<=1000)(hX:w0.heap.size<=X)(hB:Below w0.heap.size w0 W)(hc:∀x∈l,∀W',Kept W W' (fun k=>k=X)->Calls Tryz.prog 75 #[.agg #[.int .i64 x.n,.slice x.A x.t.length x.c],.pointer (some ⟨B,0,none⟩)] W' fun e w'=>e= .returned (.bool (pd x))/\Below W'.heap.size W' w'):
  Calls Tryz.prog 74 #[.slice (some ⟨X,0,none⟩) l.length cap,.func (.func 75) #[] #[.pointer (some ⟨B,0,none⟩)]] W fun e w'=>e= .returned (.slice (some ⟨X,0,none⟩) (fo pd l).length cap)/\af (rf w' X cap (fo pd l))/\af (Kept W w' (fun k=>k=X))/\af (Below w0.heap.size w0 w'):=by
 have bT:=ae h
 have ak:=ae hB
 have HC:=ae hc
 have eg:=enters_of Tryz.func75 tA1 rfl
 have nE:=ae (ah6 (B:=B) h hl (fun x hx W' hW=>hc x hx W' (Kept.gF hW _)))
 clear h hB hc
 go_enter Tryz.func74,Tryz.ntmps74
 go_wp2_with (go_at_call 129;refine nE.o.mono ?_;rintro e w1 ⟨r,rfl,hr,hb⟩;have bI:=ae hb;have fM:=ae (ea.below bT.o hb);clear hb;obtain⟨fW,hz⟩|⟨i0,fW,x0,ru,hz0,hz⟩:=hr)
 ·have gm:af (fo pd l=l):=⟨NF hz⟩
  rw[gm.o]
  clear hz
  subst fW
  go_wp2
  go_ret
  exact⟨rfl,fM,⟨Kept.gF bI.o _⟩,⟨cm ak.o ak.o.size bI.o⟩⟩
 ·subst fW
  have hr1:((i0:Int)== -1)=false:=ey.2 tA0
  have bA:=ae (cm ak.o ak.o.size bI.o)
  have anr:i0<l.length:=(iC.1 ru).1
  have aaV:(i0:Int)< (l.length:Int):=tA0
  have gm:af (fo pd (l.take (i0+1))=l.take i0):=⟨by
   rw[List.take_add_one,ru]
   show fo pd (l.take i0++[x0])=_
   rw[NG,if_pos hz0,NF hz]⟩
  clear hz hz0 ru
  go_wp2
  go_loopg [5,6,7] l.length (fun bL tQ qG _ wr=>∃(i j:Nat) (cur:List (kT)),i<j/\j<=l.length/\l.length-j<=bL/\tQ= .int .i64 i/\qG= .int .i64 j/\cur.length=l.length/\af (cur.take i=fo pd (l.take j))/\af (cur.drop j=l.drop j)/\af (rf wr X cap cur)/\af (Kept W wr (fun k=>k=X))/\af (Below w0.heap.size w0 wr))
  case atStart=>exact⟨i0,i0+1,l,tA0,tA0,tA0,rfl,tEh,rfl,⟨gm.o.symm⟩,⟨rfl⟩,fM,⟨Kept.gF bI.o _⟩,bA⟩
  case round=>
   obtain⟨i,j,cur,Ce,hj,hg,rfl,rfl,gN,A5,HD,b9,HK,dX⟩:=hrel
   by_cases hlt:j<l.length
   ·have cp:(j:Int)< (l.length:Int):=by omega
    have IY:(i:Int)< (l.length:Int):=tA0
    obtain⟨y,p5⟩:∃y,af (l[j]?=some y):=⟨_,⟨b8 hlt⟩⟩
    have jM:af (cur[j]?=some y):=⟨by
     have h1:=congrArg (fun x=>x[0]?) HD.o
     simp only[List.getElem?_drop,Nat.add_zero]at h1
     rw[h1];exact p5.o⟩
    obtain⟨atg,En⟩:∃y,af (cur[i]?=some y):=⟨_,⟨b8 tA0⟩⟩
    have dQ:af (fo pd (l.take (j+1))=if pd y=true then fo pd (l.take j)else fo pd (l.take j)++[y]):=⟨by
     rw[List.take_add_one,p5.o]
     exact NG pd _ _⟩
    have bf:=rf.cell0 b9.o jM.o
    have c1:=rf.cell1 b9.o jM.o
    have eJ:=ae gN
    clear gN
    have nB:=ae (HC.o y (List.mem_of_getElem? p5.o))
    obtain⟨q,dK⟩:∃q,af (pd y=q):=⟨_,⟨rfl⟩⟩
    rw[dK.o]at nB dQ
    obtain⟨aK,aC,bM,eH⟩:=y
    have ie:=ae (ax (Below.refl wr.heap.size wr) (.cells #[.int .i64 aK,.slice bM aC.length eH] 33))
    have ki:=ae (a8 wr (.cells #[.int .i64 aK,.slice bM aC.length eH] 33))
    have G6:=ae (nB.o _ (HK.o.below ie.o))
    cases q with
    | true=>
     go_wp2_with (go_at_fn 75)
     refine G6.o.mono ?_
     rintro e w2 ⟨rfl,hb⟩
     have aI:=ae (au ie.o hb)
     clear hb bf c1
     have e9:=ae (ea.below b9.o aI.o)
     have dP:=ae (HK.o.below aI.o)
     have o7:=ae (cm dX.o dX.o.size aI.o)
     go_wp2
     go_roundg (l.length- (j+1))
     case measure=>omega
     case rel=>exact⟨i,j+1,cur,tA0,tA0,tA0,rfl,tA7,eJ.o,⟨tEk⟩,⟨by
      have:=congrArg (List.drop 1) HD.o
      rwa[List.drop_drop,List.drop_drop]at this⟩,e9,dP,o7⟩
    | false=>
     go_wp2_with (go_at_fn 75)
     refine G6.o.mono ?_
     rintro e w2 ⟨rfl,hb⟩
     have aI:=ae (au ie.o hb)
     have gJ:=ae (av ki.o hb)
     clear hb bf c1
     have e9:=ae (ea.below b9.o aI.o)
     have dP:=ae (HK.o.below aI.o)
     have o7:=ae (cm dX.o dX.o.size aI.o)
     have z0:w2.cell? ⟨wr.heap.size,0,none⟩=some (.int .i64 aK):=ah gJ.o 0
     have c2:w2.cell? ⟨wr.heap.size,1,none⟩=some (.slice bM aC.length eH):=ah gJ.o 1
     have s0:∃u,w2.cell? ⟨X,i * 2,none⟩=some u:=⟨_,rf.cell0 e9.o En.o⟩
     have s1:∃u,w2.cell? ⟨X,i * 2+1,none⟩=some u:=⟨_,rf.cell1 e9.o En.o⟩
     obtain⟨u0,s0⟩:=s0
     obtain⟨u1,s1⟩:=s1
     have f0:=ea.frozen e9.o (i * 2)
     have f1:=ea.frozen e9.o (i * 2+1)
     have sJ:=ea.lt e9.o
     go_wp2
     go_roundg (l.length- (j+1))
     case measure=>omega
     case rel=>exact⟨i+1,j+1,cur.set i ⟨aK,aC,bM,eH⟩,tA0,tA0,tA0,tA7,tA7,tC4,⟨tD9⟩,⟨by
      rw[List.drop_set_of_lt tA0]
      have:=congrArg (List.drop 1) HD.o
      rwa[List.drop_drop,List.drop_drop]at this⟩,⟨by
      have:=ea.set e9.o (j:=i) (r:=wk ⟨aK,aC,bM,eH⟩) tC8 rfl
      rw[asa]at this
      exact this⟩,⟨fN (p:=⟨X,i * 2+1,none⟩) (fN (p:=⟨X,i * 2,none⟩) (dP.o) (.inl rfl) _) (.inl rfl) _⟩,⟨((o7.o).setCell (p:=⟨X,i * 2,none⟩) hX _).setCell (p:=⟨X,i * 2+1,none⟩) hX _⟩⟩
   ·have cp:¬ (j:Int)< (l.length:Int):=by omega
    have mG:j=l.length:=tA0
    subst mG
    have B9:l.length<=cap:=by
     have:=ea.acd bT.o
     rwa[fc]at this
    obtain⟨zs,IU⟩:=arJ wr X (i * 2) (l.length-i) (cap-i) tA0 (fun k hk=>by
     obtain⟨Rq,b1,b2,b3,b4,aX,eR⟩:=b9.o
     rw[mj b1]
     have:i * 2+k<Rq.size:=tA0
     simp[Array.getElem?_eq_getElem this]) (fun k hk=>ea.frozen b9.o _)
    have eJ:=ae gN
    have fx:af (fo pd l=cur.take i):=⟨by rw[A5.o,fJ]⟩
    have A7:af ((cur.take i).length=i):=⟨tAg⟩
    clear gN
    have Sr:(0:Int)<=(i:Int):=tA0
    have mJ:(i:Int)<=(l.length:Int):=tA0
    have Te:(i:Int)<=(cap:Int):=tA0
    have hne:¬ cap=i:=tA0
    go_wp2
    go_ret
    rw[fx.o,A7.o]
    exact⟨rfl,⟨by
     have:=ea.clear b9.o i tC8 zs
     rw[<- List.map_take]at this
     exact this⟩,⟨CP X (S:=fun k=>k=X) rfl zs _ _ HK.o⟩,⟨BM X hX zs _ _ dX.o⟩⟩
theorem adp {W:World}{ok:Nat->Prop}:∀{xs:List aj} {rows:List (List Value)},rows.length=xs.length->(∀(j:Nat) x c,xs[j]?=some x->rows[j]?=some c->Kd.eI bc W ok x c)->∃zs:List kT,rows=zs.map wk/\zs.map kT.form=xs/\∀z∈zs,Kd.eI bc W ok z.form (wk z)/\z.t.length<=z.c
 | [],[],_,_=>⟨[],rfl,rfl,tA2⟩
 | x::xs,r::rows,hl,hf=>by
  obtain⟨zs,e1,e2,e3⟩:=adp (xs:=xs) (rows:=rows) tBj (fun j x c hx hc=>hf (j+1) x c (by simpa using hx) (by simpa using hc))
  have h0:=hf 0 x r rfl rfl
  obtain⟨A,c,rfl,hle,_⟩:=FV (Kd.o6 h0)
  exact⟨⟨x.f0,x.f1,A,c⟩::zs,by rw[e1];rfl,by rw[List.map_cons,e2];rfl,fun z hz=>by
   rcases List.mem_cons.1 hz with rfl|hz
   ·exact⟨h0,hle⟩
   ·exact e3 z hz⟩
 | [],_::_,h,_=>tAk
 | _::_,[],h,_=>tAk
theorem UA (pd:aj->Bool):∀zs:List kT,(fo (fun z=>pd z.form) zs).map kT.form=fo pd (zs.map kT.form)
 | []=>rfl
 | z::zs=>by
  unfold fo
  rw[List.map_cons,List.filter_cons,List.filter_cons]
  have ih:=UA pd zs
  unfold fo at ih
  by_cases h:pd z.form=true
  ·rw[if_neg tAl,if_neg tAl];exact ih
  ·rw[if_pos tAl,if_pos tAl,List.map_cons,ih]
theorem ah7 (A:Option Addr)(c B:Nat)(W:World):
  Calls Tryz.prog 129 #[.slice A 0 c,.func (.func 75) #[] #[.pointer (some ⟨B,0,none⟩)]] W fun e w'=>e= .returned (.int .i64 (-1))/\Below W.heap.size W w':=by
 go_enter Tryz.func129,Tryz.ntmps129
 go_wp2
 refine wp_loop_rounds 1 ?_
 rw[rounds_succ]
 go_wp2
 go_ret
 exact⟨rfl,Below.refl _ _⟩
theorem afc (A:Option Addr)(c B:Nat)(W:World):
  Calls Tryz.prog 74 #[.slice A 0 c,.func (.func 75) #[] #[.pointer (some ⟨B,0,none⟩)]] W fun e w'=>e= .returned (.slice A 0 c)/\Below W.heap.size W w':=by
 go_enter Tryz.func74,Tryz.ntmps74
 go_wp2_with (go_at_call 129;refine(ah7 _ _ _ _).mono ?_;rintro e w1 ⟨rfl,hb⟩)
 go_ret
 exact⟨rfl,hb⟩
theorem afa {w0 W:World}{ok:Nat->Prop}{v:Value}{xs:List aj}{B:Nat}{pd:aj->Bool}(h:Kd.N bc 33 W w0.heap.size ok v xs)(hl:xs.length<=1000)(hB:Below w0.heap.size w0 W)(hc:∀x∈xs,∀A c W',x.f1.length<=c->cf.C W' A x.f1.length x.f1->Kept W W' ok->Calls Tryz.prog 75 #[.agg #[.int .i64 x.f0,.slice A x.f1.length c],.pointer (some ⟨B,0,none⟩)] W' fun e w'=>e= .returned (.bool (pd x))/\Below W'.heap.size W' w'):
  Calls Tryz.prog 74 #[v,.func (.func 75) #[] #[.pointer (some ⟨B,0,none⟩)]] W fun e w'=>∃A c,e= .returned (.slice A (fo pd xs).length c)/\Kd.N bc 33 w' w0.heap.size ok (.slice A (fo pd xs).length c) (fo pd xs)/\Kept W w' ok/\Below w0.heap.size w0 w':=by
 by_cases hne:xs=[]
 ·subst hne
  obtain⟨A,c,rfl⟩:=Kd.c3 h
  refine(afc A c B W).mono ?_
  rintro e w1 ⟨rfl,hb⟩
  exact⟨A,c,rfl,Kd.r6 h (Kept.gF hb (fun _=>False)) (fun _ _ hf=>hf),Kept.gF hb _,cm hB hB.size hb⟩
 ·obtain⟨X,cap,rows,rfl,hk,hX,kz,hR,hf⟩:=QQ h hne
  obtain⟨zs,e1,e2,e3⟩:=adp kz hf
  subst e1
  have hzl:zs.length=xs.length:=by rw[<- e2,fc]
  have hD:=OJ (B:=B) (w0:=w0) (pd:=fun z=>pd z.form) hR (by rw[hzl];exact hl) hX hB (fun z hz W' hW=>by
   obtain⟨q1,q2⟩:=e3 z hz
   have q3:=Kd.o6 (Foot.step q1 (fun k fP hlt=>hW.2 k hlt (fun e=>fP.2 e)))
   obtain⟨aN,c1,r1,r2,r3⟩:=FV q3
   simp only[wk,kT.form,List.cons.injEq,Value.slice.injEq,true_and,and_true]at r1
   obtain⟨rfl,rfl⟩:=r1
   exact hc z.form (by rw[<- e2];exact List.mem_map_of_mem hz) z.A z.c W' q2 r3 (hW.mono (fun k e=>e▸hk)))
  rw[hzl]at hD
  refine hD.mono ?_
  rintro e w1 ⟨rfl,⟨k1⟩,⟨k2⟩,⟨k3⟩⟩
  have abv:(fo pd xs).length=(fo (fun z=>pd z.form) zs).length:=by rw[<- e2,<- UA,fc]
  have hn:Kd.N bc 33 w1 w0.heap.size ok (.slice (some ⟨X,0,none⟩) (fo pd xs).length cap) (fo pd xs):=by
   refine LB k1 hX hk (by rw[fc];exact abv.symm) (fun j x c hx hc=>?_)
   have hz:((fo (fun z=>pd z.form) zs).map kT.form)[j]?=some x:=by rw[UA,e2];exact hx
   rw[List.getElem?_map]at hc hz
   obtain⟨z,h1,rfl⟩:=Option.map_eq_some_iff.1 hc
   rw[h1]at hz
   obtain rfl:=bo hz
   have hm:z∈zs:=(List.mem_filter.1 (List.mem_of_getElem? h1)).1
   exact Foot.step (e3 z hm).1 (fun k fP hlt=>k2.2 k hlt (fun e=>fP.2 e))
  exact⟨some ⟨X,0,none⟩,cap,by rw[abv],hn,k2.mono (fun k e=>e▸hk),k3⟩
theorem aql {B:Nat}{A A' ed:Option Addr}{c c' dR:Nat}{l0:List aq}{l1:List aj}{f:aj}{W:World}(hB:W.heap[B]?=some (.cells #[.slice A l0.length c,.slice A' l1.length c'] 29 (0,0)))(h:cD A c l0 A' c' l1 W)(g:gl ed dR f W)(hs:l0.length<=1000):
  Calls Tryz.prog 75 #[.agg #[.int .i64 f.f0,.slice ed f.f1.length dR],.pointer (some ⟨B,0,none⟩)] W fun e w'=>e= .returned (.bool (gG (l0.map (·.f0)) f !=0))/\Below W.heap.size W w':=by
 have ak:=ae (ax (Below.refl W.heap.size W) (.cells #[.int .i64 f.f0,.slice ed f.f1.length dR] 33))
 have HC:=ae (XW (h.below ak.o) (g.below ak.o) hs)
 have aK:W.cell? ⟨B,0,none⟩=some (.slice A l0.length c):=ah hB 0
 have aC:W.cell? ⟨B,1,none⟩=some (.slice A' l1.length c'):=ah hB 1
 have Nv:=az hB
 have hne:¬ B=W.heap.size:=tA0
 have rv:¬ W.heap.size=B:=tA0
 generalize gG (l0.map (·.f0)) f=q at *
 clear hB h g
 go_enter Tryz.func75,Tryz.ntmps75
 go_wp2_with (go_at_call 16;refine HC.o.mono ?_;rintro e w2 ⟨rfl,hb⟩;have aI:=ae (au ak.o hb);clear hb)
 go_ret
 exact⟨rfl,aI.o⟩
structure mf (w0 bt:World)(g T:Nat)(d:List Int)(b:Nat)(oW cH:Value)(ss:List aq)(W:World):Prop where
 st:dV w0 W g d b
 c4:Below w0.heap.size w0 W
 rA:Kept bt W (fun k=>k=g\/k=T)
 tb:W.heap[T]?=some (.cells #[oW,cH] 29 (0,0))
 ns:Kd.N cu 77 W bt.heap.size (fun k=>some k=oW.ownBlock) oW ss
 gt:g<bt.heap.size/\T<bt.heap.size/\T≠g/\w0.heap.size<=T
section
variable {w0 bt W W' w1:World}{g T:Nat}{d:List Int}{b b':Nat}{oW cH:Value}{ss:List aq}
theorem mf.own (h:mf w0 bt g T d b oW cH ss W):∀k,some k=oW.ownBlock->bt.heap.size<=k/\k<W.heap.size:=fun k hk=>⟨Kd.eK h.ns k hk.symm,Kd.BD h.ns k hk.symm⟩
theorem mf.keep (h:mf w0 bt g T d b oW cH ss W)(hk:bF W W' g none)(hst:dV w0 W' g d b')(hB:Below w0.heap.size w0 W'):mf w0 bt g T d b' oW cH ss W' where
 st:=hst
 c4:=hB
 rA:=h.rA.aqc hk (.inl (.inl rfl))
 tb:=iD h.tb (Jx hk) h.gt.2.2.1
 ns:=Kd.r6 h.ns (Jx hk) (fun k fP e=>by have h1:=(h.own k fP).1;have h2:=h.gt.1;have h3:k=g:=e;omega)
 gt:=h.gt
theorem mf.below (h:mf w0 bt g T d b oW cH ss W)(hb:Below W.heap.size W W'):mf w0 bt g T d b oW cH ss W':=
 h.keep (bF.gF hb g none) (h.st.below hb) (cm h.c4 h.c4.size hb)
theorem mf.far (h:mf w0 bt g T d b oW cH ss W){p:Addr}(hp:bt.heap.size<=p.block)(hn:some p.block≠oW.ownBlock)(u:Value):mf w0 bt g T d b oW cH ss (W.setCell p u) where
 st:=h.st.kept (fN (S:=fun k=>k=p.block) (Kept.refl W _) (.inl rfl) u) (fun e=>by have h1:=h.gt.1;have h3:g=p.block:=e;omega)
 c4:=h.c4.setCell (bj h.gt.2.2.2 (bj (Nat.le_of_lt h.gt.2.1) hp)) u
 rA:=h.rA.setCell (.inr hp) u
 tb:=(jZ _ _ _ _ (fun e=>by have h1:=h.gt.2.1;rw[e]at h1;omega)).trans h.tb
 ns:=Kd.cw h.ns (fun k hk e=>hn (by rw[<- e];exact hk)) u
 gt:=h.gt
theorem mf.pick (h:mf w0 bt g T d b oW cH ss W)(hb:b<=1000000)(X:Nat)(hr:gL W X [0,0,1,-1]):
  Calls Tryz.prog 40 #[.pointer (some ⟨g,0,none⟩),.slice (some ⟨X,0,none⟩) 4 4] W fun e w'=>∃r,e= .returned (.int .i64 r)/\af (mf w0 bt g T d (b+1) oW cH ss w')/\af (bF W w' g none):=
 (Ez h.st hb h.c4 X 4 [0,0,1,-1] hr tA3 tA3 tA3).mono fun e w' ⟨r,he,_,hst,hB,hK⟩=>⟨r,he,⟨h.keep hK hst hB⟩,⟨hK⟩⟩
theorem mf.more (h:mf w0 bt g T d b oW cH ss W){v1:Value}{x:aq}(hb:Below bt.heap.size W w1)(hN:Kd.N cu 77 w1 bt.heap.size (fun k=>some k=v1.ownBlock) v1 (ss++[x])):mf w0 bt g T d b v1 cH (ss++[x]) (w1.setCell ⟨T,0,none⟩ v1):=by
 have hk:Kept W w1 (fun k=>bt.heap.size<=k):=⟨hb.size,fun k hk hn=>hb.block k (Nat.lt_of_not_le hn)⟩
 have hk2:Kept W (w1.setCell ⟨T,0,none⟩ v1) (fun k=>bt.heap.size<=k\/k=T):=(hk.mono (fun k h=> .inl h)).setCell (.inl (.inr rfl)) v1
 have abM:w1.heap[T]?=some (.cells #[oW,cH] 29 (0,0)):=(hb.block T h.gt.2.1).trans h.tb
 refine⟨h.st.kept hk2 (fun e=>e.elim (fun e=>by have:=h.gt.1;omega) (fun e=>h.gt.2.2.1 e.symm)),?_,h.rA.yP hk2 (fun k hk=>hk.elim .inr (fun e=> .inl (.inr e))),a6 abM 0 v1 rfl,?_,h.gt⟩
 ·exact(h.c4.trans (dM hb (by have:=h.gt;omega))).setCell h.gt.2.2.2 v1
 ·refine Kd.cw (p:=⟨T,0,none⟩) hN (fun k hk e=>?_) v1
  have h1:=Kd.eK hN k hk.symm
  have h2:=h.gt.2.1
  have h3:k=T:=e
  omega
end
end Go.Proofs.YtjgakaembhmhpaaGreatDoor.PA.Two
namespace Go.Proofs.YtjgakaembhmhpaaGreatDoor.PA
def cmpL:List Int->List Int->Int
 | [],[]=>0
 | [],_::_=> -1
 | _::_,[]=>1
 | x::xs,y::ys=>if x<y then-1 else if y<x then 1 else cmpL xs ys
theorem Mc:∀x,cmpL x x=0
 | []=>rfl
 | x::xs=>by simp[cmpL,Mc xs]
theorem YS:∀{x y z:List Int},cmpL x y<0->cmpL y z<0->cmpL x z<0
 | [],[],_,h,_=>tBv
 | [],_::_,[],_,h=>tBv
 | [],_::_,_::_,_,_=>by simp[cmpL]
 | _::_,[],_,h,_=>tBv
 | _::_,_::_,[],_,h=>tBv
 | x::xs,y::ys,z::zs,h,k=>by
  unfold cmpL at h k ⊢
  by_cases h1:x<y
  ·by_cases k1:y<z
   ·have:x<z:=by omega
    simp[this]
   ·by_cases k2:z<y
    ·simp[k1,k2]at k
    ·have:x<z:=by omega
     simp[this]
  ·by_cases h2:y<x
   ·simp[h1,h2]at h
   ·simp only[h1,h2,if_false]at h
    by_cases k1:y<z
    ·have:x<z:=by omega
     simp[this]
    ·by_cases k2:z<y
     ·simp[k1,k2]at k
     ·simp only[k1,k2,if_false]at k
      have a:¬ x<z:=tA0
      have b:¬ z<x:=tA0
      simp only[a,b,if_false]
      exact YS h k
def Ul (x y:List Int):Prop:=cmpL x y<0
def xT (l:List (List Int)):Prop:=l.Pairwise Ul
theorem xT.eq:∀{a b:List (List Int)},xT a->xT b->(∀x,x∈a↔x∈b)->a=b
 | [],[],_,_,_=>rfl
 | [],y::b,_,_,h=>absurd ((h y).2 List.mem_cons_self) tA2
 | x::a,[],_,_,h=>absurd ((h x).1 List.mem_cons_self) tA2
 | x::a,y::b,ha,hb,h=>by
  have ⟨ha1,ha2⟩:=List.pairwise_cons.1 ha
  have ⟨hb1,hb2⟩:=List.pairwise_cons.1 hb
  have Sg:x=y:=by
   rcases List.mem_cons.1 ((h x).1 List.mem_cons_self)with e|e
   ·exact e
   ·rcases List.mem_cons.1 ((h y).2 List.mem_cons_self)with e'|e'
    ·exact e'.symm
    ·have p:=hb1 x e
     have q:=ha1 y e'
     have:=YS p q
     rw[Mc]at this
     exact absurd this tA0
  subst Sg
  have:a=b:=xT.eq ha2 hb2 fun z=>by
   have hz:=h z
   simp only[List.mem_cons]at hz
   constructor
   ·intro hm
    rcases hz.1 (Or.inr hm)with e|e
    ·subst e
     have:=ha1 z hm
     rw[Ul,Mc]at this
     exact absurd this tA0
    ·exact e
   ·intro hm
    rcases hz.2 (Or.inr hm)with e|e
    ·subst e
     have:=hb1 z hm
     rw[Ul,Mc]at this
     exact absurd this tA0
    ·exact e
  rw[this]
theorem wR {α:Type}{p:List α->Prop}(h0:p [])(h1:∀l v,p l->p (l++[v]))(l:List α):p l:=by
 have h:∀l:List α,p l.reverse:=by
  intro l
  induction l with
  | nil=>exact h0
  | cons a t ih=>rw[List.reverse_cons];exact h1 _ _ ih
 have:=h l.reverse
 rwa[List.reverse_reverse]at this
open Go.RowKit Go.Proofs.YtjgakaembhmhpaaGreatDoorW.PrintWords Go.Proofs.YtjgakaembhmhpaaGreatDoorW.PrintLast Go.Proofs.YtjgakaembhmhpaaGreatDoorW.PrintMore Go.Proofs.YtjgakaembhmhpaaGreatDoorM
def kN (l:List ay):Nat:=l.foldl (fun g t=>Int.gcd (g:Int) t.f1) 0
theorem Mv (l:List ay)(t:ay):kN (l++[t])=Int.gcd (kN l:Int) t.f1:=by
 unfold kN
 rw[List.foldl_append]
 rfl
def rC (f:aj):aj:=if 0<kN f.f1 then⟨f.f0 / (kN f.f1:Int),f.f1.map fun t=>⟨t.f0,t.f1.tdiv (kN f.f1:Int)⟩⟩else f
def mr:List aj->aj->List aj
 | [],f=>[f]
 | x::r,f=>if x.f1=f.f1 then⟨min x.f0 f.f0,x.f1⟩::r else x::mr r f
def tB (f:aj):Bool:=decide (kN f.f1=0/\0<=f.f0)
def tS (out:List aj)(f:aj):List aj:=if tB f=true then out else mr out (rC f)
def dT (l:List aj):List aj:=l.foldl tS []
def jG (l:List aj):List aj:=(l.filter fun f=> !tB f).map rC
theorem ab3 (l:List aj)(f:aj):jG (l++[f])=if tB f=true then jG l else jG l++[rC f]:=by
 unfold jG
 rw[List.filter_append,List.map_append]
 by_cases h:tB f=true
 ·rw[if_pos h,List.filter_cons_of_neg tAl]
  simp
 ·rw[if_neg h,List.filter_cons_of_pos tAl]
  simp
theorem asK (l:List aj):dT l=(jG l).foldl mr []:=by
 refine wR (p:=fun l=>dT l=(jG l).foldl mr []) rfl (fun l f ih=>?_) l
 have e:dT (l++[f])=tS (dT l) f:=by
  unfold dT
  rw[List.foldl_append]
  rfl
 rw[e,ih,ab3]
 unfold tS
 by_cases h:tB f=true
 ·rw[if_pos h,if_pos h]
 ·rw[if_neg h,if_neg h,List.foldl_append]
  rfl
def iI (l:List aj)(k:List ay):Option Int:=l.foldl (fun o f=>if f.f1=k then(match o with|none=>some f.f0|some n=>some (min n f.f0))else o) none
theorem FW (l:List aj)(f:aj)(k:List ay):iI (l++[f]) k=if f.f1=k then(match iI l k with|none=>some f.f0|some n=>some (min n f.f0))else iI l k:=by
 unfold iI
 rw[List.foldl_append]
 rfl
def lL (l:List aj):List (List ay):=l.foldl (fun acc f=>if f.f1∈acc then acc else acc++[f.f1]) []
theorem Nt (l:List aj)(f:aj):lL (l++[f])=if f.f1∈lL l then lL l else lL l++[f.f1]:=by
 unfold lL
 rw[List.foldl_append]
 rfl
theorem apr (l:List aj):(lL l).Nodup:=by
 refine wR (p:=fun l=>(lL l).Nodup) List.nodup_nil (fun l f ih=>?_) l
 rw[Nt]
 by_cases h:f.f1∈lL l
 ·rw[if_pos h];exact ih
 ·rw[if_neg h,List.nodup_append]
  exact⟨ih,tA2,fun a ha b hb e=>h (by simp at hb;subst hb;exact e▸ha)⟩
theorem acb (l:List aj)(k:List ay):k∈lL l↔(iI l k).isSome=true:=by
 refine wR (p:=fun l=>k∈lL l↔(iI l k).isSome=true) (by simp[lL,iI]) (fun l f ih=>?_) l
 rw[Nt,FW]
 by_cases e:f.f1=k
 ·rw[if_pos e]
  have hr:((match iI l k with|none=>some f.f0|some n=>some (min n f.f0)).isSome=true):=by
   cases iI l k<;>rfl
  by_cases h:f.f1∈lL l
  ·rw[if_pos h]
   exact⟨fun _=>hr,fun _=>e▸h⟩
  ·rw[if_neg h]
   exact⟨fun _=>hr,fun _=>by rw[e];simp⟩
 ·rw[if_neg e,<- ih]
  by_cases h:f.f1∈lL l
  ·rw[if_pos h]
  ·rw[if_neg h,List.mem_append,il]
   exact⟨fun h=>h.elim id (fun h=>absurd h.symm e),Or.inl⟩
def k7 (all l:List aj):List aj:=l.foldl (fun out f=>if f.f1∈out.map (·.f1)then out else out++[⟨(iI all f.f1).getD 0,f.f1⟩]) []
theorem Sj (all l:List aj)(f:aj):k7 all (l++[f])=if f.f1∈(k7 all l).map (·.f1)then k7 all l else k7 all l++[⟨(iI all f.f1).getD 0,f.f1⟩]:=by
 unfold k7
 rw[List.foldl_append]
 rfl
def atKey (all:List aj)(k:List ay):aj:=⟨(iI all k).getD 0,k⟩
theorem alC (all l:List aj):k7 all l=(lL l).map (atKey all):=by
 refine wR (p:=fun l=>k7 all l=(lL l).map (atKey all)) rfl (fun l f ih=>?_) l
 rw[Sj,Nt,ih]
 have hm:((lL l).map (atKey all)).map (·.f1)=lL l:=by
  rw[List.map_map]
  exact(List.map_congr_left (fun k _=>rfl)).trans (List.map_id _)
 rw[hm]
 by_cases h:f.f1∈lL l
 ·rw[if_pos h,if_pos h]
 ·rw[if_neg h,if_neg h,List.map_append]
  rfl
theorem NL:∀(out:List aj) (f:aj),(∀x∈out,x.f1≠f.f1)->mr out f=out++[f]
 | [],_,_=>rfl
 | x::r,f,h=>by
  rw[mr,if_neg (h x tA2),NL r f (fun y hy=>h y (jk _ hy))]
  rfl
theorem ac7:∀(ks:List (List ay)) (F:List ay->aj) (f:aj),ks.Nodup->(∀k,(F k).f1=k)->f.f1∈ks->mr (ks.map F) f=ks.map fun k=>if k=f.f1 then⟨min (F k).f0 f.f0,k⟩else F k
 | [],_,_,_,_,h=>tAk
 | k::ks,F,f,hn,hF,hm=>by
  obtain⟨h1,h2⟩:=List.nodup_cons.1 hn
  rw[List.map_cons,List.map_cons,mr,hF k]
  by_cases e:k=f.f1
  ·rw[if_pos e,if_pos e]
   congr 1
   exact List.map_congr_left fun k' fP=>(if_neg (fun e'=>h1 (by rw[e,<- e'];exact fP))).symm
  ·rw[if_neg e,if_neg e,ac7 ks F f h2 hF ((List.mem_cons.1 hm).resolve_left (fun h=>e h.symm))]
theorem alK (l:List aj):l.foldl mr []=(lL l).map (atKey l):=by
 refine wR (p:=fun l=>l.foldl mr []=(lL l).map (atKey l)) rfl (fun l f ih=>?_) l
 rw[List.foldl_append,ih,List.foldl_cons,List.foldl_nil,Nt]
 by_cases h:f.f1∈lL l
 ·rw[if_pos h,ac7 _ _ _ (apr l) (fun _=>rfl) h]
  refine List.map_congr_left fun k hk=>?_
  unfold atKey
  rw[FW]
  obtain⟨n,hn⟩:=Option.isSome_iff_exists.1 ((acb l k).1 hk)
  by_cases e:k=f.f1
  ·rw[if_pos e,if_pos e.symm,hn]
   rfl
  ·rw[if_neg e,if_neg (fun h=>e h.symm)]
 ·rw[if_neg h,NL _ _ (fun x hx=>by
   obtain⟨k,hk,rfl⟩:=List.mem_map.1 hx
   exact fun e=>h (by rw[<- e];exact hk)),List.map_append]
  congr 1
  ·refine List.map_congr_left fun k hk=>?_
   unfold atKey
   rw[FW,if_neg (fun e=>h (by rw[e];exact hk))]
  ·have h0:iI l f.f1=none:=by
    cases e:iI l f.f1 with
    | none=>rfl
    | some n=>exact absurd ((acb l f.f1).2 (by rw[e];rfl)) h
   simp only[List.map_cons,List.map_nil,atKey]
   rw[FW,if_pos rfl,h0]
   rfl
theorem asJ (l:List aj):dT l=k7 (jG l) (jG l):=by
 rw[asK,alK,alC]
theorem ZQ (a b:Int):Int.gcd b (Int.tmod a b)=Int.gcd a b:=by
 unfold Int.gcd
 rw[Int.natAbs_tmod,Nat.gcd_comm,<- Nat.gcd_rec,Nat.gcd_comm]
theorem acs (a:Int)(ha:a.natAbs<=4611686018427387904):mx a (wrap64 (-a))=(a.natAbs:Int):=by
 rw[eM _ tA0]
 unfold mx
 split<;>omega
theorem J4 (a b:Int)(hb:b≠0):(Int.tmod a b).natAbs<b.natAbs:=by
 rw[Int.natAbs_tmod]
 exact Nat.mod_lt _ tA0
theorem Y1:∀(k:Nat) (a b:Int),b.natAbs<k->a.natAbs<=4611686018427387904->b.natAbs<=4611686018427387904->sI.l0 k a b=some (Int.gcd a b:Int)
 | 0,_,_,h,_,_=>absurd h tA0
 | k+1,a,b,h,ha,hb=>by
  rw[sI.l0]
  by_cases e:b=0
  ·rw[if_pos e,acs a ha,e]
   simp
  ·rw[if_neg e,Y1 k b _ tBy hb tBy,ZQ]
theorem akz (a b:Int)(ha:a.natAbs<=4611686018427387904)(hb:b.natAbs<=4611686018427387904):sI.f (b.natAbs+1) a b=some (Int.gcd a b:Int):=
 Y1 _ a b (Nat.lt_succ_self _) ha hb
theorem Y4:∀(k:Nat) (a b:Int),b.natAbs<k->a.natAbs<=4611686018427387904->b.natAbs<=4611686018427387904->sW.l0 k a b=some (Int.gcd a b:Int)
 | 0,_,_,h,_,_=>absurd h tA0
 | k+1,a,b,h,ha,hb=>by
  rw[sW.l0]
  by_cases e:b=0
  ·rw[if_pos e,acs a ha,e]
   simp
  ·rw[if_neg e,Y4 k b _ tBy hb tBy,ZQ]
theorem akQ (a b:Int)(ha:a.natAbs<=4611686018427387904)(hb:b.natAbs<=4611686018427387904):sW.f (b.natAbs+1) a b=some (Int.gcd a b:Int):=
 Y4 _ a b (Nat.lt_succ_self _) ha hb
theorem Oa (a g:Int)(ha:a.natAbs<=4611686018427387904):(Int.tdiv a g).natAbs<=4611686018427387904:=by
 rw[Int.natAbs_tdiv]
 exact bj (Nat.div_le_self _ _) ha
theorem adW (a g:Int)(hg:0<g):(Int.tmod a g<0->a / g=Int.tdiv a g-1)/\(¬ Int.tmod a g<0->a / g=Int.tdiv a g):=by
 have h1:=Int.mul_tdiv_add_tmod a g
 have h2:=J4 a g tA0
 constructor
 ·intro h
  refine((Int.ediv_emod_unique (r:=g+Int.tmod a g) hg).2 ⟨?_,tA0,tA0⟩).1
  rw[Int.mul_sub,Int.mul_one]
  omega
 ·intro h
  refine((Int.ediv_emod_unique (r:=Int.tmod a g) hg).2 ⟨?_,tA0,tA0⟩).1
  omega
theorem asM (a g:Int):(0<=a->0<=Int.tmod a g)/\(a<0->Int.tmod a g<=0):=by
 refine⟨fun h=>Int.tmod_nonneg g h,fun h=>?_⟩
 have:=Int.tmod_nonneg g (show 0<= -a by omega)
 rw[Int.neg_tmod]at this
 omega
theorem akP (a g:Int)(ha:a.natAbs<=4611686018427387904)(hg:0<g):Jz.f a g=some (a / g):=by
 have h1:=Oa a g ha
 obtain⟨d1,d2⟩:=adW a g hg
 unfold Jz.f
 rw[if_neg tA0,eM (Int.tdiv a g) tA0]
 by_cases h:Int.tmod a g<0
 ·rw[if_pos h,eM _ tA0,d1 h]
 ·rw[if_neg h,d2 h]
theorem alI (a g:Int)(ha:a.natAbs<=4611686018427387904)(hg:0<g):Ka.f a g=some (a / g):=by
 have h1:=Oa a g ha
 obtain⟨d1,d2⟩:=adW a g hg
 obtain⟨s1,s2⟩:=asM a g
 unfold Ka.f
 rw[if_neg tA0,eM (Int.tdiv a g) tA0]
 by_cases h:Int.tmod a g=0
 ·rw[if_pos h,d2 tA0]
 ·rw[if_neg h]
  by_cases hn:a<0
  ·have:=s2 hn
   rw[if_pos hn,eM _ tA0,d1 tA0]
  ·have:=s1 tA0
   rw[if_neg hn,d2 tA0]
end Go.Proofs.YtjgakaembhmhpaaGreatDoor.PA
