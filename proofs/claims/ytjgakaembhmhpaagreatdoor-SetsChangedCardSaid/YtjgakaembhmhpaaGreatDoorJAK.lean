/- Part of the proof of SetsChanged: the walk and the plain laws. It holds without further conditions. -/
import Derived.Laws.CopyOwn
import Derived.Test.YtjgakaembhmhpaaGreatDoorJAJ
set_option linter.unusedVariables false
set_option linter.unusedSimpArgs false
set_option maxHeartbeats 16000000
set_option maxRecDepth 100000
namespace Go.Proofs.YtjgakaembhmhpaaGreatDoor.PA
open Go.RowKit Go.Proofs.YtjgakaembhmhpaaGreatDoorW.PrintWords Go.Proofs.YtjgakaembhmhpaaGreatDoorW.PrintLast Go.Proofs.YtjgakaembhmhpaaGreatDoorW.PrintMore Go.Proofs.YtjgakaembhmhpaaGreatDoorM
def oX (lo:Int):Nat->List Int
 | 0=>[]
 | c+1=>lo::oX (lo+1) c
def qj (P:List Int->Bool):List aq->List Int->List (List Int)
 | [],pre=>if P pre then [pre]else []
 | s::r,pre=>(oX s.f1 (s.f2+1-s.f1).toNat).flatMap fun v=>qj P r (pre++[v])
abbrev rp (Bs cA dp gj:Nat):Array Value:=#[.pointer (some ⟨dp,0,none⟩),.pointer (some ⟨Bs,0,none⟩),.pointer (some ⟨cA,0,none⟩),.pointer (some ⟨gj,0,none⟩)]
structure r8 (w0:World)(n:Nat)(box:Array Value)(Bs cA X dp gj:Nat)(x:List Int)(s:List (List Int))(wr:World):Prop where
 hs:wr.heap[Bs]?=some (.cells box 29 (0,0))
 hx:wr.heap[dp]?=some (.cells #[.slice (some ⟨X,0,none⟩) n n] 22 (0,0))
 hg:wr.heap[gj]?=some (.cells #[.func (.func 93) #[] (rp Bs cA dp gj)] 127 (0,0))
 row:gL wr X x
 len:x.length=n
 o:∃F,Lr cA w0.heap.size s F wr/\(∀k,F k->w0.heap.size<=k)/\¬ F Bs/\¬ F dp/\¬ F gj/\¬ F X
 c4:Below w0.heap.size w0 wr
 old:w0.heap.size<=X
theorem r8.below {w0:World}{n:Nat}{box:Array Value}{Bs cA X dp gj:Nat}{x:List Int}{s:List (List Int)}{wr w1:World}(h:r8 w0 n box Bs cA X dp gj x s wr)(hb:Below wr.heap.size wr w1):r8 w0 n box Bs cA X dp gj x s w1:=by
 obtain⟨h1,h2,h3,h4,h5,⟨F,h6,h7⟩,h8,iF⟩:=h
 exact⟨av h1 hb,av h2 hb,av h3 hb,h4.same (hb.block X h4.lt),h5,⟨F,(QT _ _).1 s F wr w1 h6 hb.size (fun k hk=>hb.block k ((QT _ _).2 s F wr h6 k hk)),h7⟩,au h8 hb,iF⟩
theorem r8.setRow {w0:World}{n:Nat}{box:Array Value}{Bs cA X dp gj:Nat}{x:List Int}{s:List (List Int)}{wr:World}(h:r8 w0 n box Bs cA X dp gj x s wr)(i:Nat)(v:Int):r8 w0 n box Bs cA X dp gj (x.set i v) s (wr.setCell ⟨X,i,none⟩ (.int .i64 v)):=by
 obtain⟨h1,h2,h3,h4,h5,⟨F,h6,h7,h8,iF,h10,h11⟩,Fj,k8⟩:=h
 have e1:Bs≠X:=EP h1 h4 tA3
 have e2:dp≠X:=EP h2 h4 tA3
 have e3:gj≠X:=EP h3 h4 tA3
 exact⟨(jZ wr _ _ Bs e1).trans h1,(jZ wr _ _ dp e2).trans h2,(jZ wr _ _ gj e3).trans h3,h4.set i v,by simpa using h5,
  ⟨F,(QT _ _).1 s F wr _ h6 tB8 (fun k hk=>jZ wr _ _ k (fun e=>h11 (by subst e;exact hk))),h7,h8,iF,h10,h11⟩,Fj.setCell k8 _,k8⟩
def BG:Nat:=5000000
theorem alX (w0:World)(sides:List aq)(conds:List aj)(As dJ:Option Addr)(cs cc:Nat)(Bs cA X dp gj:Nat)(x:List Int)(s:List (List Int))(W:World)
  (hs:Kd.C cu w0 As sides.length sides) (hcs:sides.length<=cs) (hc:Kd.C bc w0 dJ conds.length conds) (hcc:conds.length<=cc) (bX:wL sides conds=true)
  (jQ:r8 w0 sides.length #[.slice As sides.length cs,.slice dJ conds.length cc] Bs cA X dp gj x s W) (hl:s.length<BG):
  Calls Tryz.prog 93 (#[.int .i64 (sides.length:Int)]++rp Bs cA dp gj) W fun e w'=>e= .returned (.tuple #[])/\r8 w0 sides.length #[.slice As sides.length cs,.slice dJ conds.length cc] Bs cA X dp gj x (s++if j1 sides conds x then [x]else []) w':=by
 have ig:=ae jQ
 have hf:Nk.f sides conds x=some (j1 sides conds x):=by
  unfold Nk.f
  rw[if_pos]
  rw[Bool.and_eq_true,decide_eq_true_eq]
  exact⟨jQ.len.symm,bX⟩
 have vM:af (∀w,r8 w0 sides.length #[.slice As sides.length cs,.slice dJ conds.length cc] Bs cA X dp gj x s w->Calls Tryz.prog 94 #[.agg #[.slice As sides.length cs,.slice dJ conds.length cc],.slice (some ⟨X,0,none⟩) sides.length sides.length] w fun e w'=>e= .returned (.bool (j1 sides conds x))/\r8 w0 sides.length #[.slice As sides.length cs,.slice dJ conds.length cc] Bs cA X dp gj x s w'):=⟨fun w h=>by
  have wE:=h.row.reads (by rw[h.len];exact hs.2.1)
  have:=apd sides conds x As dJ (some ⟨X,0,none⟩) cs cc sides.length _ w (Kd.bN hs h.c4) hcs (Kd.bN hc h.c4) hcc wE hf
  rw[h.len]at this
  exact this.mono fun e w' ⟨he,hb⟩=>⟨he,h.below hb⟩⟩
 have x0:W.cell? ⟨dp,0,none⟩=some (.slice (some ⟨X,0,none⟩) sides.length sides.length):=ah jQ.hx 0
 have s0:W.cell? ⟨Bs,0,none⟩=some (.slice As sides.length cs):=ah jQ.hs 0
 have s1:W.cell? ⟨Bs,1,none⟩=some (.slice dJ conds.length cc):=ah jQ.hs 1
 have hm:=hs.2.1
 have hn:sides.length<1000:=by
  unfold wL at bX
  simp only[Bool.and_eq_true,decide_eq_true_eq]at bX
  exact bX.1
 clear hs hc jQ bX hf
 cases hb:j1 sides conds x with
 | false=>
  rw[hb]at vM
  clear hb
  go_enter Tryz.func93,Tryz.ntmps93
  go_wp2_with (go_at_call 94;refine(vM.o _ ig.o).mono ?_;rintro e w1 ⟨rfl,Mz⟩)
  refine bodyPost_ret (results_none rfl _ _ _) rfl ⟨rfl,?_⟩
  simpa using Mz
 | true=>
  rw[hb]at vM
  clear hb
  go_enter Tryz.func93,Tryz.ntmps93
  go_wp2_with (go_at_call 94;refine(vM.o _ ig.o).mono ?_;rintro e w1 ⟨rfl,Mz⟩)
  have fU:=ae Mz
  obtain⟨p1,oa,lN,NJ,acU,⟨F,hI,hF,n1,n2,n3,JI⟩,hB,F4⟩:=Mz
  have nE:=ae hI
  have o9:=ae hF
  have ak:=ae hB
  have rX:af (¬ F Bs/\¬ F dp/\¬ F gj/\¬ F X):=⟨n1,n2,n3,JI⟩
  have cv:=ae (NJ.reads tA0)
  have iA:af (x.length=sides.length):=⟨acU⟩
  obtain⟨h2,h4,u,h5,h7⟩:=hI
  obtain⟨A',c',rfl⟩:=Kd.c3 h7
  have bm:=ae h7
  have eD:=az h5
  have bW:w1.cell? ⟨cA,0,none⟩=some (.slice A' s.length c'):=ah h5 0
  have f5:=ar h5 0
  have OS:=ae h5
  have x1:w1.cell? ⟨dp,0,none⟩=some (.slice (some ⟨X,0,none⟩) sides.length sides.length):=ah oa 0
  have GX:=ae oa
  have HC:af (∀W1:World,Below w1.heap.size w1 W1->Calls Tryz.prog 95 #[.slice (some ⟨X,0,none⟩) sides.length sides.length] W1 fun e w'=>∃(fG:Option Addr) (bb:Nat),e= .returned (.slice fG x.length bb)/\af (Kd.R (Kd.int .i64) 3 w' w1.heap.size (fun _=>True) (.slice fG x.length bb) x)/\(w'.cell? ⟨cA,0,none⟩=some (.slice A' s.length c')/\w'.frozen? ⟨cA,0,none⟩=false/\cA<w'.heap.size/\af (Below w1.heap.size w1 w'))):=⟨fun W1 s2=>by
   have:=ae5 ⟨X,0,none⟩ x.length x W1 (Kd.bN cv.o s2) tBi
   rw[iA.o]at this ⊢
   exact this.mono fun e w' ⟨v,he,hR,hb⟩=>by
    obtain⟨fG,bb,hv⟩:=Kd.r9 hR
    subst hv
    rw[iA.o]at he hR
    have yn:=au s2 hb
    exact⟨fG,bb,he,⟨Kd.BH hR s2.size⟩,bw yn bW,ar (av OS.o yn) 0,az (av OS.o yn),⟨yn⟩⟩⟩
  have Bi:af ((s.length+1) * 24<=140737488355328):=⟨by unfold BG at hl;omega⟩
  clear h2 h4 h7 hF hB h5 p1 oa lN NJ acU F4 n1 n2 n3 JI x0 s0 s1
  have gy:af (∀k,w1.heap.size<=k->((F k/\k≠cA)\/w1.heap.size<=k)/\some k≠(Value.slice A' s.length c').ownBlock):=⟨fun k hk=>⟨.inr hk,fun e=>by
   have h1:=bm.o.1 k e.symm
   have h2:=nE.o.2.1 k h1.1
   omega⟩⟩
  go_region_law (first|(refine Kd.th (Kd.slice 3 (Kd.int .i64)) w0.heap.size tA5 (.tmp 13) (.tmp 16) 48 22 (.slice none 0 0) 24 tA5 Tryz.underlying48 ao6 rfl tA3 tA3 (.slice A' s.length c') s x [.slice fG x.length bb] (fun k=>(F k/\k≠cA)\/w1.heap.size<=k) (fun k=>w1.heap.size<=k) tA5 tA5 (Kd.V4 (Kd.ais (Kd.pw (Kd.LF K2.o) (fun k h=>h.2.1)))) gy.o (fun _ h=> .inr (bj Bu.o.size h)) (Kd.et (Kd.dz bm.o Bu.o) (fun _ h=> .inl h)) (cm ak.o ak.o.size Bu.o) (bj ak.o.size Bu.o.size) Bi.o ?_;intro v3 w3 Pv bS hg hat;have HK:=ae (Kept.Al (S:=fun k=>F k/\k≠cA) hg (Kept.gF Bu.o _) (fun k hk=> .inl (bm.o.1 k hk)));obtain⟨gX,aM,rfl⟩:=Kd.c3 Pv;have D6:=ae Pv;have dX:=ae bS;have aX:=iD OS.o HK.o (fun h=>h.2 rfl);have d7:w3.cell? ⟨cA,0,none⟩=some (.slice A' s.length c'):=(mj aX 0).trans rfl;have f7:=ar aX 0;have ayj:=az aX;clear Pv bS hg hat aX)|(go_simp;go_at_call 95;refine(HC.o _ (by first|exact cB (Below.refl _ _)|exact Below.refl _ _)).mono ?_;rintro e w2 ⟨fG,bb,rfl,K2,d5,g5,ayi,Bu⟩))
  all_goals
   obtain⟨F',iv,i2,i3⟩:=aiH nE.o HK.o D6.o
   have fk:(s++[x]).length=s.length+1:=tA2
   rw[fk]at iv i3
   have Wo:=dX.o.setCell (p:=⟨cA,0,none⟩) (o9.o _ nE.o.1) (.slice gX (s.length+1) aM)
   have mK:∀k,k<w1.heap.size->¬ F k->¬ F' k:=fun k h1 h2 h3=>(i2 k h3).elim h2 (fun h=>tA0)
   have Hc:=ae (r8.mk (n:=sides.length) (iD fU.o.hs i3 rX.o.1) (iD fU.o.hx i3 rX.o.2.1) (iD fU.o.hg i3 rX.o.2.2.1) (fU.o.row.same (i3.2 X fU.o.row.lt rX.o.2.2.2)) iA.o ⟨F',iv,fun k hk=>(i2 k hk).elim (o9.o k) (fun h=>bj ak.o.size h),mK _ (az fU.o.hs) rX.o.1,mK _ (az fU.o.hx) rX.o.2.1,mK _ (az fU.o.hg) rX.o.2.2.1,mK _ fU.o.row.lt rX.o.2.2.2⟩ Wo fU.o.old)
   clear iv i2 i3 Wo mK fk
   go_wp2
   refine bodyPost_ret (results_none rfl _ _ _) rfl ⟨rfl,?_⟩
   simpa using Hc.o
def yH (sides:List aq)(conds:List aj):Bool:=wL sides conds&&sides.all fun s=>decide (-1000001<=s.f1)&&decide (s.f2<=1000001)
abbrev vV (w0:World)(sides:List aq)(conds:List aj)(As dJ:Option Addr)(cs cc Bs cA X dp gj:Nat)(x:List Int)(s:List (List Int))(wr:World):Prop:=r8 w0 sides.length #[.slice As sides.length cs,.slice dJ conds.length cc] Bs cA X dp gj x s wr
theorem asG {x3 x:List Int}{i:Nat}{q:Int}(h:x3.take (i+1)=x.take i++[q])(hi:i<x.length):x3.getD i 0=q:=by
 have h1:(x3.take (i+1))[i]?=some q:=by
  rw[h,List.getElem?_append_right tAb]
  have:(List.take i x).length=i:=tAb
  rw[this,Nat.sub_self]
  rfl
 rw[jC (Nat.lt_succ_self i)]at h1
 simp[List.getD,h1]
theorem arD {W:World}{X n:Nat}{x3 x:List Int}{i:Nat}{q:Int}(h:gL W X x3)(hi:i<n)(hx:i<x.length)(hl:x3.length=n)(h3:x3.take (i+1)=x.take i++[q]):W.cell? ⟨X,i,none⟩=some (.int .i64 q):=by
 have:=h.cell i tA0
 rwa[asG h3 hx]at this
theorem alY (w0:World)(sides:List aq)(conds:List aj)(As dJ:Option Addr)(cs cc:Nat)(Bs cA X dp gj:Nat)
  (hs:Kd.C cu w0 As sides.length sides) (hcs:sides.length<=cs) (hc:Kd.C bc w0 dJ conds.length conds) (hcc:conds.length<=cc) (bX:yH sides conds=true):
  ∀(m i:Nat) (x:List Int) (s:List (List Int)) (W:World),i+m=sides.length->vV w0 sides conds As dJ cs cc Bs cA X dp gj x s W->s.length+(qj (j1 sides conds) (sides.drop i) (x.take i)).length<BG->
  Calls Tryz.prog 93 (#[.int .i64 (i:Int)]++rp Bs cA dp gj) W fun e w'=>e= .returned (.tuple #[])/\∃x':List Int,x'.take i=x.take i/\vV w0 sides conds As dJ cs cc Bs cA X dp gj x' (s++qj (j1 sides conds) (sides.drop i) (x.take i)) w':=by
 have Jb:wL sides conds=true:=by
  unfold yH at bX
  exact(Bool.and_eq_true _ _▸bX).1
 have abt:∀y∈sides,-1000001<=y.f1/\y.f2<=1000001:=fun y hy=>by
  unfold yH at bX
  simp only[Bool.and_eq_true,decide_eq_true_eq,List.all_eq_true]at bX
  exact bX.2 y hy
 intro m
 induction m with
 | zero=>
  intro i x s W hi jQ hl
  obtain rfl:i=sides.length:=tA0
  have ht:x.take sides.length=x:=by rw[<- jQ.len];exact fJ
  have hd:sides.drop sides.length=[]:=List.drop_length
  rw[ht,hd]at hl ⊢
  have:=alX w0 sides conds As dJ cs cc Bs cA X dp gj x s W hs hcs hc hcc Jb jQ tA0
  exact this.mono fun e w' ⟨he,hp⟩=>⟨he,x,ht,hp⟩
 | succ m ih=>
  intro i x s W hi jQ hl
  have hlt:i<sides.length:=tA0
  have Tv:i<x.length:=by rw[jQ.len];exact hlt
  have hne:¬ (i:Int)=(sides.length:Int):=tA0
  have HS:=ae hs
  have ig:=ae jQ
  have agC:=ae ih
  have hm:=hs.2.1
  have hn:sides.length<1000:=by
   unfold wL at Jb
   simp only[Bool.and_eq_true,decide_eq_true_eq]at Jb
   exact Jb.1
  obtain⟨oH,e,hs0,hs1,hs2⟩:=fe hs (i:Int) tA0 tA0
  cases e
  have dQ:af (sides.drop i=aw sides (i:Int)::sides.drop (i+1)):=⟨by
   rw[lF hlt]
   simp[aw,List.getD,b8 hlt]⟩
  have nJ:=ae (abt (aw sides (i:Int)) (by
   have:aw sides (i:Int)=sides[i]:=tC1
   rw[this];exact List.getElem_mem hlt))
  simp only[eQ]at hs0 hs1 hs2
  generalize aw sides (i:Int)=y at *
  obtain⟨aK,aC,bM⟩:=y
  have vO:af (w0.cell? _=_):=⟨hs1⟩
  have fV:af (w0.cell? _=_):=⟨hs2⟩
  have br:=ae hl
  have zt:af (vV w0 sides conds (some oH) dJ cs cc Bs cA X dp gj (x.set i aC) s ((W.setCell ⟨X,i,none⟩ (.int .i64 aC)).drew)):=⟨(jQ.setRow i aC).below (cB (Below.refl _ _))⟩
  have zk:af ((x.set i aC).take i=x.take i/\(x.set i aC).getD i 0=aC):=⟨by rw[List.take_set_of_le (bl _)],by simp[List.getD,Tv]⟩
  have eg:=enters_of Tryz.func93 tA1 rfl
  have x0:W.cell? ⟨dp,0,none⟩=some (.slice (some ⟨X,0,none⟩) sides.length sides.length):=ah jQ.hx 0
  have s0:W.cell? ⟨Bs,0,none⟩=some (.slice (some oH) sides.length cs):=ah jQ.hs 0
  have r0:=jQ.row.cell i Tv
  have r1:=jQ.row.frozen i
  have r2:=jQ.row.lt
  have l1:=bw jQ.c4 hs1
  clear hs hc bX Jb abt jQ ih hs0 hs1 hs2 hl
  go_enter Tryz.func93,Tryz.ntmps93
  go_wp2
  go_region_law (fail)
  all_goals
   clear x0 s0 r0 r1 r2 l1
   generalize (W.setCell ⟨X,i,none⟩ (.int .i64 aC)).drew=W1 at *
   go_wp2
   go_loopg [27] (bM+1-aC).toNat (fun bL _ wr=>∃(c:Nat) (q:Int) (x1:List Int) (s1:List (List Int)),af (c<=bL)/\af (x1.take i=x.take i/\x1.getD i 0=q)/\af (-1000001<=q/\(q+c=bM+1\/(c=0/\bM<q)))/\af (vV w0 sides conds (some oH) dJ cs cc Bs cA X dp gj x1 s1 wr)/\af (s++qj (j1 sides conds) (sides.drop i) (x.take i)=s1++(oX q c).flatMap fun v=>qj (j1 sides conds) (sides.drop (i+1)) (x.take i++[v])))
   case atStart=>exact⟨(bM+1-aC).toNat,aC,x.set i aC,s,⟨bl _⟩,zk,⟨nJ.o.1,tA0⟩,zt,⟨by rw[dQ.o];rfl⟩⟩
   case round=>
    clear zt zk
    obtain⟨c,q,x1,s1,HG,cJ,dK,fU,fx⟩:=hrel
    have hq:=dK.o
    have ayg:=nJ.o.2
    have x0:wr.cell? ⟨dp,0,none⟩=some (.slice (some ⟨X,0,none⟩) sides.length sides.length):=ah fU.o.hx 0
    have s0:wr.cell? ⟨Bs,0,none⟩=some (.slice (some oH) sides.length cs):=ah fU.o.hs 0
    have g0:wr.cell? ⟨gj,0,none⟩=some (.func (.func 93) #[] (rp Bs cA dp gj)):=ah fU.o.hg 0
    have r0:=fU.o.row.cell i (by rw[fU.o.len];exact hlt)
    rw[cJ.o.2]at r0
    have l2:=bw fU.o.c4 fV.o
    cases c with
    | zero=>
     have aog:¬ q<=bM:=by simp at hq;omega
     clear hq
     go_wp2
     go_quiet (fail)
     go_wp2
     refine bodyPost_end (results_none rfl _ _ _) rfl ⟨rfl,x1,cJ.o.1,?_⟩
     rw[fx.o]
     simpa[oX]using fU.o.below (eG (Below.refl _ _) _)
    | succ c1=>
     have aog:q<=bM:=by simp at hq;omega
     clear hq
     have Xt:af (x1.take (i+1)=x.take i++[q]):=⟨by
      have h1:i<x1.length:=by rw[fU.o.len];exact hlt
      rw[kr h1,cJ.o.1]
      congr 2
      have:=cJ.o.2
      simpa[List.getD,b8 h1]using this⟩
     have HC:af (∀W2,vV w0 sides conds (some oH) dJ cs cc Bs cA X dp gj x1 s1 W2->Calls Tryz.prog 93 #[.int .i64 ((i:Int)+1),.pointer (some ⟨dp,0,none⟩),.pointer (some ⟨Bs,0,none⟩),.pointer (some ⟨cA,0,none⟩),.pointer (some ⟨gj,0,none⟩)] W2 fun e w'=>e= .returned (.tuple #[])/\∃x':List Int,x'.take (i+1)=x.take i++[q]/\vV w0 sides conds (some oH) dJ cs cc Bs cA X dp gj x' (s1++qj (j1 sides conds) (sides.drop (i+1)) (x.take i++[q])) w'):=⟨fun W2 h=>by
      have h2:=agC.o (i+1) x1 s1 W2 tA0 h (by
       rw[Xt.o]
       have h3:=br.o
       have h4:=congrArg List.length fx.o
       simp only[fZ,oX,List.flatMap_cons]at h4
       omega)
      rw[Xt.o]at h2
      exact h2⟩
     go_wp2
     go_quiet (fail)
     have g1:(wr.drewN nq).cell? ⟨gj,0,none⟩=some (.func (.func 93) #[] (rp Bs cA dp gj)):=g0
     have l8:af (vV w0 sides conds (some oH) dJ cs cc Bs cA X dp gj x1 s1 (wr.drewN nq)):=⟨fU.o.below (eG (Below.refl _ _) _)⟩
     clear x0 s0 g0 r0 l2
     generalize wr.drewN nq=W2 at *
     go_wp2_with (go_at_fn 93)
     refine(HC.o _ l8.o).mono ?_
     rintro e w3 ⟨rfl,x3,hx3,vo⟩
     have eC:=ae hx3
     have Hw:=ae vo
     have x0:w3.cell? ⟨dp,0,none⟩=some (.slice (some ⟨X,0,none⟩) sides.length sides.length):=ah vo.hx 0
     have r0:=arD vo.row hlt Tv vo.len hx3
     have r1:=vo.row.frozen i
     have r2:=vo.row.lt
     clear hx3 vo
     go_wp2
     go_roundg c1
     case measure=>have:=HG.o;omega
     case rel=>
      have hq:=dK.o
      have e1:(wrap64 (q+1))=q+1:=eM _ tA0
      refine⟨c1,q+1,x3.set i (wrap64 (q+1)),_,⟨bl _⟩,⟨?_,?_⟩,⟨tA0,tA0⟩,⟨Hw.o.setRow i _⟩,⟨?_⟩⟩
      ·rw[List.take_set_of_le (bl _)]
       have:=congrArg (List.take i) eC.o
       rw[List.take_take,Nat.min_eq_left (Nat.le_succ i),List.take_append_of_le_length tAb,List.take_take,Nat.min_self]at this
       exact this
      ·rw[e1]
       have:i<x3.length:=by rw[Hw.o.len];exact hlt
       simp[List.getD,this]
      ·rw[fx.o]
       simp[oX]
theorem arL {P:Program}(w:World)(a:Addr)(m:Mode)(fn:Fn)(ts b:Array Value):(store a (.func fn ts b) m).run P w=stored P w a (.func fn ts b) m:=run_store P w a _ m rfl
def AA.f (ag:List aq)(ai:List aj):Option (List (List Int)):=
 if yH ag ai then(if ag.any (fun v=>decide (v.f2<v.f1))then some []else(if(qj (j1 ag ai) ag []).length<BG then some (qj (j1 ag ai) ag [])else none))else none
theorem AA.calls (bP:Option Addr)(bh:Nat)(ag:List aq)(aQ:Option Addr)(aG:Nat)(ai:List aj)(r:List (List Int))(w:World)(kB:Kd.C cu w bP ag.length ag)(mn:ag.length<=bh)(h9:Kd.C bc w aQ ai.length ai)(iH:ai.length<=aG)(h:AA.f ag ai=some r):
  Calls Tryz.prog 34 #[.agg #[.slice bP ag.length bh,.slice aQ ai.length aG]] w fun e w'=>∃aed:Value,e= .returned aed/\Kd.V (Kd.slice 3 (Kd.int .i64)) 22 w' w.heap.size (fun k_=>(w.heap.size<=k_)) aed r/\Below w.heap.size w w':=by
 have HS:=ae kB
 have nC:=ae h9
 have HH:=ae h
 have hm:=kB.2.1
 have bX:yH ag ai=true:=by
  unfold AA.f at h
  by_cases bX:yH ag ai=true
  ·exact bX
  ·rw[if_neg bX]at h
   exact absurd h tA2
 have pY:=ae bX
 have hn:ag.length<1000:=by
  unfold yH wL at bX
  simp only[Bool.and_eq_true,decide_eq_true_eq]at bX
  exact bX.1.1
 have FJ:=ac1 (P:=Tryz.prog) 22 3 .i64 8 Tryz.underlying22 info3 tA3 ag.length tA0
 have eg:=enters_of Tryz.func93 tA1 rfl
 have hsz:((((w.alloc (.cells #[.slice bP ag.length bh,.slice aQ ai.length aG] 29)).alloc (.cells #[.slice none 0 0] 48)).alloc (.cells (madeCells #[.int .i64 0] ag.length) 3)).alloc (.cells #[.slice (some ⟨w.heap.size+1+1,0,none⟩) ag.length ag.length] 22)).heap.size=w.heap.size+1+1+1+1:=tA2
 have ky:=a8 ((((w.alloc (.cells #[.slice bP ag.length bh,.slice aQ ai.length aG] 29)).alloc (.cells #[.slice none 0 0] 48)).alloc (.cells (madeCells #[.int .i64 0] ag.length) 3)).alloc (.cells #[.slice (some ⟨w.heap.size+1+1,0,none⟩) ag.length ag.length] 22)) (.cells #[.func (.func 93) #[] (rp w.heap.size (w.heap.size+1) (w.heap.size+1+1+1) (w.heap.size+1+1+1+1))] 127)
 rw[hsz]at ky
 have hb4:=aH (a8 (((w.alloc (.cells #[.slice bP ag.length bh,.slice aQ ai.length aG] 29)).alloc (.cells #[.slice none 0 0] 48)).alloc (.cells (madeCells #[.int .i64 0] ag.length) 3)) (.cells #[.slice (some ⟨w.heap.size+1+1,0,none⟩) ag.length ag.length] 22)) (.cells #[.func (.func 93) #[] (rp w.heap.size (w.heap.size+1) (w.heap.size+1+1+1) (w.heap.size+1+1+1+1))] 127)
 rw[show(((w.alloc (.cells #[.slice bP ag.length bh,.slice aQ ai.length aG] 29)).alloc (.cells #[.slice none 0 0] 48)).alloc (.cells (madeCells #[.int .i64 0] ag.length) 3)).heap.size=w.heap.size+1+1+1 by simp]at hb4
 have hb3:=aH (aH (a8 ((w.alloc (.cells #[.slice bP ag.length bh,.slice aQ ai.length aG] 29)).alloc (.cells #[.slice none 0 0] 48)) (.cells (madeCells #[.int .i64 0] ag.length) 3)) (.cells #[.slice (some ⟨w.heap.size+1+1,0,none⟩) ag.length ag.length] 22)) (.cells #[.func (.func 93) #[] (rp w.heap.size (w.heap.size+1) (w.heap.size+1+1+1) (w.heap.size+1+1+1+1))] 127)
 rw[show((w.alloc (.cells #[.slice bP ag.length bh,.slice aQ ai.length aG] 29)).alloc (.cells #[.slice none 0 0] 48)).heap.size=w.heap.size+1+1 by simp]at hb3
 have hb2:=aH (aH (aH (a8 (w.alloc (.cells #[.slice bP ag.length bh,.slice aQ ai.length aG] 29)) (.cells #[.slice none 0 0] 48)) (.cells (madeCells #[.int .i64 0] ag.length) 3)) (.cells #[.slice (some ⟨w.heap.size+1+1,0,none⟩) ag.length ag.length] 22)) (.cells #[.func (.func 93) #[] (rp w.heap.size (w.heap.size+1) (w.heap.size+1+1+1) (w.heap.size+1+1+1+1))] 127)
 rw[show(w.alloc (.cells #[.slice bP ag.length bh,.slice aQ ai.length aG] 29)).heap.size=w.heap.size+1 by simp]at hb2
 have hb1:=aH (aH (aH (aH (a8 w (.cells #[.slice bP ag.length bh,.slice aQ ai.length aG] 29)) (.cells #[.slice none 0 0] 48)) (.cells (madeCells #[.int .i64 0] ag.length) 3)) (.cells #[.slice (some ⟨w.heap.size+1+1,0,none⟩) ag.length ag.length] 22)) (.cells #[.func (.func 93) #[] (rp w.heap.size (w.heap.size+1) (w.heap.size+1+1+1) (w.heap.size+1+1+1+1))] 127)
 have aaj:=ax (ax (ax (ax (ax (Below.refl w.heap.size w) (.cells #[.slice bP ag.length bh,.slice aQ ai.length aG] 29)) (.cells #[.slice none 0 0] 48)) (.cells (madeCells #[.int .i64 0] ag.length) 3)) (.cells #[.slice (some ⟨w.heap.size+1+1,0,none⟩) ag.length ag.length] 22)) (.cells #[.func (.func 93) #[] (rp w.heap.size (w.heap.size+1) (w.heap.size+1+1+1) (w.heap.size+1+1+1+1))] 127)
 have Eb:af (vV w ag ai bP aQ bh aG w.heap.size (w.heap.size+1) (w.heap.size+1+1) (w.heap.size+1+1+1) (w.heap.size+1+1+1+1) (List.replicate ag.length 0) [] ((((((w.alloc (.cells #[.slice bP ag.length bh,.slice aQ ai.length aG] 29)).alloc (.cells #[.slice none 0 0] 48)).alloc (.cells (madeCells #[.int .i64 0] ag.length) 3)).alloc (.cells #[.slice (some ⟨w.heap.size+1+1,0,none⟩) ag.length ag.length] 22)).alloc (.cells #[.func (.func 93) #[] (rp w.heap.size (w.heap.size+1) (w.heap.size+1+1+1) (w.heap.size+1+1+1+1))] 127)))):=⟨by
  refine r8.mk (hb1) (hb4) ky (by unfold gL;rw[<- ach];exact hb3) tA2 ⟨fun k=>k=w.heap.size+1,⟨rfl,fun k hk=>?_,.slice none 0 0,hb2,Kd.i1 _ _ _ _ _⟩,fun k hk=>tA0,tA0,tA0,tA0,tA0⟩ aaj tA0
  subst hk
  simp⟩
 clear kB h9 h bX hb1 hb2 hb3 hb4 ky aaj hsz
 have aom:= @arL Tryz.prog
 go_enter Tryz.func34,Tryz.ntmps34
 go_wp2
 clear FJ aom
 generalize (((((w.alloc (.cells #[.slice bP ag.length bh,.slice aQ ai.length aG] 29)).alloc (.cells #[.slice none 0 0] 48)).alloc (.cells (madeCells #[.int .i64 0] ag.length) 3)).alloc (.cells #[.slice (some ⟨w.heap.size+1+1,0,none⟩) ag.length ag.length] 22)).alloc (.cells #[.func (.func 93) #[] (rp w.heap.size (w.heap.size+1) (w.heap.size+1+1+1) (w.heap.size+1+1+1+1))] 127))=atG at *
 go_loopg [7,16] ag.length (fun bL _ arO wr=>∃kk:Nat,kk<=ag.length/\ag.length-kk<=bL/\arO= .int .i64 kk/\af (vV w ag ai bP aQ bh aG w.heap.size (w.heap.size+1) (w.heap.size+1+1) (w.heap.size+1+1+1) (w.heap.size+1+1+1+1) (List.replicate ag.length 0) [] wr)/\af (∀j,j<kk->¬ (ag.getD j z77).f2< (ag.getD j z77).f1))
 case atStart=>exact⟨0,Nat.zero_le _,tA0,rfl,Eb,⟨fun j hj=>absurd hj (Nat.not_lt_zero _)⟩⟩
 case round=>
  clear Eb
  obtain⟨kk,eO,hg,rfl,bs,fL⟩:=hrel
  by_cases hlt:kk<ag.length
  ·have cp:(kk:Int)< (ag.length:Int):=by omega
   obtain⟨oH,e,hs0,hs1,hs2⟩:=fe HS.o (kk:Int) tA0 tA0
   cases e
   replace hs0:=bw bs.o.c4 hs0
   replace hs1:=bw bs.o.c4 hs1
   replace hs2:=bw bs.o.c4 hs2
   simp only[eQ]at hs0 hs1 hs2
   have dQ:af (ag.getD kk z77=aw ag (kk:Int)):=⟨rfl⟩
   generalize aw ag (kk:Int)=y at *
   obtain⟨aK,aC,bM⟩:=y
   by_cases wz:bM<aC
   ·go_wp2
    go_ret
    have SM:ag.any (fun v=>decide (v.f2<v.f1))=true:=by
     refine List.any_eq_true.2 ⟨ag.getD kk z77,?_,?_⟩
     ·simp[List.getD,b8 hlt]
     ·rw[dQ.o]
      exact bn wz
    have qP:=HH.o
    unfold AA.f at qP
    rw[if_pos pY.o,if_pos SM]at qP
    obtain rfl:=bo qP
    exact⟨_,rfl,Kd.Q0 _ _ _ _ _,(bs.o.below (ax (Below.refl _ _) _)).c4⟩
   ·go_wp2
    go_roundg (ag.length- (kk+1))
    case measure=>omega
    case rel=>
     refine⟨kk+1,tA0,tA0,tA7,⟨bs.o.below (ax (Below.refl _ _) _)⟩,⟨fun j hj=>?_⟩⟩
     by_cases e:j=kk
     ·subst e
      rw[dQ.o]
      exact wz
     ·exact fL.o j tA0
  ·have cp:¬ (kk:Int)< (ag.length:Int):=by omega
   have:kk=ag.length:=tA0
   subst this
   have fx:af ((qj (j1 ag ai) ag []).length<BG/\r=qj (j1 ag ai) ag []):=⟨by
    have MX:ag.any (fun v=>decide (v.f2<v.f1))=false:=by
     rw[List.any_eq_false]
     intro v hv
     obtain⟨j,hj,rfl⟩:=List.getElem_of_mem hv
     have:=fL.o j hj
     simpa[List.getD,b8 hj]using this
    have qP:=HH.o
    unfold AA.f at qP
    rw[if_pos pY.o,MX]at qP
    by_cases hb:(qj (j1 ag ai) ag []).length<BG
    ·rw[if_pos hb]at qP
     exact⟨hb,(bo qP).symm⟩
    ·rw[if_neg hb]at qP
     exact absurd qP tA2⟩
   have HC:af (Calls Tryz.prog 93 #[.int .i64 0,.pointer (some ⟨w.heap.size+1+1+1,0,none⟩),.pointer (some ⟨w.heap.size,0,none⟩),.pointer (some ⟨w.heap.size+1,0,none⟩),.pointer (some ⟨w.heap.size+1+1+1+1,0,none⟩)] wr fun e w'=>e= .returned (.tuple #[])/\∃x':List Int,vV w ag ai bP aQ bh aG w.heap.size (w.heap.size+1) (w.heap.size+1+1) (w.heap.size+1+1+1) (w.heap.size+1+1+1+1) x' r w'):=⟨by
    have h1:=alY w ag ai bP aQ bh aG w.heap.size (w.heap.size+1) (w.heap.size+1+1) (w.heap.size+1+1+1) (w.heap.size+1+1+1+1) HS.o mn nC.o iH pY.o ag.length 0 _ [] wr tA0 bs.o (by simpa using fx.o.1)
    exact h1.mono fun e w' ⟨he,x',_,hp⟩=>⟨he,x',by simpa[fx.o.2]using hp⟩⟩
   have g0:wr.cell? ⟨w.heap.size+1+1+1+1,0,none⟩=some (.func (.func 93) #[] (rp w.heap.size (w.heap.size+1) (w.heap.size+1+1+1) (w.heap.size+1+1+1+1))):=ah bs.o.hg 0
   go_wp2_with (go_at_fn 93)
   refine HC.o.mono ?_
   rintro e w3 ⟨rfl,x3,vo⟩
   obtain⟨F,⟨h2,h4,u,h5,h7⟩,hF,_⟩:=vo.o
   have vw:w3.cell? ⟨w.heap.size+1,0,none⟩=some u:=ah h5 0
   have bS:=ae vo.c4
   obtain⟨A',c',rfl⟩:=Kd.c3 h7
   have uN:af (Kd.V (Kd.slice 3 (Kd.int .i64)) 22 w3 w.heap.size (fun k_=>(w.heap.size<=k_)) _ r):=⟨Kd.aiA (Kd.et h7 (fun k hk=>hF k hk.1))⟩
   clear vo h2 h4 h5 h7 hF
   go_wp2
   go_ret
   exact⟨_,rfl,uN.o,bS.o⟩
theorem alx (x0 x1:List Int)(hl:x0.length=x1.length)(hm:x0.length<=9223372036854775807):∀(m kk k:Nat),kk+m=x0.length->m<k->qH.l0 k x0 x1 (x0.length:Int) (kk:Int)=some (decide (x0.drop kk=x1.drop kk)):=by
 intro m
 induction m with
 | zero=>
  intro kk k h1 h2
  cases k with
  | zero=>omega
  | succ k=>
   rw[qH.l0,if_neg tA0]
   rw[ji tA0,ji tA0]
   simp
 | succ m ih=>
  intro kk k h1 h2
  cases k with
  | zero=>omega
  | succ k=>
   have e0:kk<x0.length:=tA0
   have e1:kk<x1.length:=tA0
   rw[qH.l0,if_pos tA0,if_pos tA0,if_pos tA0,if_pos tA0]
   have ec:wrap64 ((kk:Int)+1)=((kk+1:Nat):Int):=tAh
   have r0:rd x0 (kk:Int)=x0[kk]:=by simp[rd,gg,List.getD,b8 e0]
   have r1:rd x1 (kk:Int)=x1[kk]:=by simp[rd,gg,List.getD,b8 e1]
   have d0:x0.drop kk=x0[kk]::x0.drop (kk+1):=lF e0
   have d1:x1.drop kk=x1[kk]::x1.drop (kk+1):=lF e1
   rw[ec,r0,r1,d0,d1]
   by_cases he:x0[kk]=x1[kk]
   ·rw[if_pos he,ih (kk+1) k tA0 tA0]
    congr 1
    exact decide_eq_decide.2 (by simp only[he,List.cons.injEq,true_and])
   ·rw[if_neg he]
    simp only[List.cons.injEq,he,false_and,decide_false]
theorem alw (x0 x1:List Int)(hm:x0.length<=9223372036854775807):qH.f (x0.length+1) x0 x1=some (decide (x0=x1)):=by
 unfold qH.f
 by_cases hl:x0.length=x1.length
 ·rw[if_pos tA0]
  have:=alx x0 x1 hl hm x0.length 0 (x0.length+1) tA0 tA0
  simpa using this
 ·rw[if_neg tA0]
  have:x0≠x1:=fun e=>hl (by rw[e])
  simp[this]
theorem afi (cU:Option Addr)(bf:Nat)(l0:List Int)(aN:Option Addr)(c1:Nat)(l1:List Int)(w:World)(dS:Kd.C (Kd.int .i64) w cU l0.length l0)(hc0:l0.length<=bf)(hr1:Kd.C (Kd.int .i64) w aN l1.length l1)(hc1:l1.length<=c1):
  Calls Tryz.prog 72 #[.slice cU l0.length bf,.slice aN l1.length c1] w fun e w'=>e= .returned (.bool (decide (l0=l1)))/\aR w w':=
 qH.calls _ cU bf l0 aN c1 l1 _ w dS hc0 hr1 hc1 (alw l0 l1 dS.2.1)
def wN (xs:List (List Int))(i:Int):List Int:=xs.getD i.toNat ([]:List Int)
theorem Yt {w:World}{A:Option Addr}{n:Nat}{xs:List (List Int)}(h:Kd.C (Kd.slice 3 (Kd.int .i64)) w A n xs)(i:Int)(h0:0<=i)(h1:i<n):∃ad cU bf,A=some ad/\w.cell? (ad.add i.toNat)=some (.slice cU (wN xs i).length bf)/\(wN xs i).length<=bf/\(Kd.int .i64).C w cU (wN xs i).length (wN xs i):=by
 obtain⟨ad,c,e,_,hK,hc0⟩:=Kd.AR h ([]:List Int) i h0 h1
 have hc:∀j u,c[j]?=some u->w.cell? (ad.add (i.toNat * 1+j))=some u:=hc0
 obtain⟨cU,bf,rfl,l0,g0⟩:=hK
 exact⟨ad,cU,bf,e,by have hq:=hc 0 _ rfl;rwa[Nat.mul_one,Nat.add_zero]at hq,l0,g0⟩
theorem Y7 (l:List (List Int))(k:Nat)(h:k<l.length):l.drop k=wN l (k:Int)::l.drop (k+1):=by
 rw[lF h]
 simp[wN,List.getD,b8 h]
theorem py {B:Nat}{w W W':World}(h:Below B w W)(hd:aR W W'):Below B w W':=by
 obtain⟨n,rfl⟩:=hd
 exact eG h n
theorem afe (cU:Option Addr)(bf:Nat)(l0:List (List Int))(aN:Option Addr)(c1:Nat)(l1:List (List Int))(w:World)(dS:Kd.C (Kd.slice 3 (Kd.int .i64)) w cU l0.length l0)(hr1:Kd.C (Kd.slice 3 (Kd.int .i64)) w aN l1.length l1):
  Calls Tryz.prog 71 #[.slice cU l0.length bf,.slice aN l1.length c1,.func (.func 72) #[] #[]] w fun e w'=>e= .returned (.bool (decide (l0=l1)))/\Below w.heap.size w w':=by
 have kj:=ae dS
 have fM:=ae hr1
 have FD:=dS.2.1
 have vh:=hr1.2.1
 have eg:=enters_of Tryz.func72 tA1 rfl
 clear dS hr1
 by_cases hl:(l0.length:Int)=(l1.length:Int)
 ·have br:af (l0.length=l1.length):=⟨tA0⟩
  go_enter Tryz.func71,Tryz.ntmps71
  have wD:¬ ((l0.length:Int)≠(l1.length:Int)):=fun h=>h hl
  go_wp2
  clear hl wD
  go_loopg [7,8,9,17] l0.length (fun bL _ _ _ sR wr=>∃kk:Nat,kk<=l0.length/\l0.length-kk<=bL/\sR= .int .i64 kk/\af (Below w.heap.size w wr)/\af (decide (l0=l1)=decide (l0.drop kk=l1.drop kk)))
  case atStart=>exact⟨0,Nat.zero_le _,tA0,rfl,⟨Below.refl _ w⟩,⟨tA2⟩⟩
  case round=>
   obtain⟨kk,eO,hg,rfl,bs,fL⟩:=hrel
   by_cases hlt:kk<l0.length
   ·have kA:kk<l1.length:=by have:=br.o;omega
    have cp:(kk:Int)< (l0.length:Int):=tA0
    have zW:(kk:Int)< (l1.length:Int):=tA0
    obtain⟨oH,fG,bb,e,hx0,aa6,ZX⟩:=Yt kj.o (kk:Int) tA0 tA0
    cases e
    obtain⟨Rg,gX,aM,e,hx1,aa7,ZY⟩:=Yt fM.o (kk:Int) tA0 tA0
    cases e
    replace hx0:=bw bs.o hx0
    replace hx1:=bw bs.o hx1
    simp only[eQ]at hx0 hx1
    have HD:af (decide (l0.drop kk=l1.drop kk)=(decide (wN l0 (kk:Int)=wN l1 (kk:Int))&&decide (l0.drop (kk+1)=l1.drop (kk+1)))):=⟨by
     rw[Y7 l0 kk hlt,Y7 l1 kk kA]
     rw[Bool.eq_iff_iff]
     simp⟩
    have mo:=afi fG bb _ gX aM _ wr (Kd.bN ZX bs.o) aa6 (Kd.bN ZY bs.o) aa7
    clear ZX ZY aa6 aa7
    generalize wN l0 (kk:Int)=y at *
    generalize wN l1 (kk:Int)=z at *
    cases hq:decide (y=z)with
    | true=>
     rw[hq]at mo HD
     clear hq
     have HC:=ae mo
     clear mo
     go_wp2_with (go_at_fn 72)
     refine HC.o.mono ?_
     rintro e w' ⟨rfl,hb'⟩
     go_wp2
     go_roundg (l0.length- (kk+1))
     case measure=>omega
     case rel=>exact⟨kk+1,tA0,tA0,tA7,⟨py bs.o hb'⟩,⟨tBx⟩⟩
    | false=>
     rw[hq]at mo HD
     clear hq
     have HC:=ae mo
     clear mo
     go_wp2_with (go_at_fn 72)
     refine HC.o.mono ?_
     rintro e w' ⟨rfl,hb'⟩
     go_wp2
     go_ret
     rw[fL.o,HD.o]
     exact⟨rfl,py bs.o hb'⟩
   ·have cp:¬ (kk:Int)< (l0.length:Int):=by omega
    have zW:¬ (kk:Int)< (l1.length:Int):=tAz
    have:kk=l0.length:=tA0
    subst this
    go_wp2
    go_ret
    rw[fL.o,List.drop_length,ji tAz]
    exact⟨rfl,bs.o⟩
 ·have br:af (decide (l0=l1)=false):=⟨by
   rw[decide_eq_false_iff_not]
   intro e
   exact hl (by rw[e])⟩
  go_enter Tryz.func71,Tryz.ntmps71
  go_wp2
  go_ret
  rw[br.o]
  exact⟨rfl,Below.refl _ _⟩
theorem ai9 (cU:Option Addr)(bf:Nat)(l0:List (List Int))(aN:Option Addr)(c1:Nat)(l1:List (List Int))(w:World)(dS:Kd.C (Kd.slice 3 (Kd.int .i64)) w cU l0.length l0)(hr1:Kd.C (Kd.slice 3 (Kd.int .i64)) w aN l1.length l1):
  Calls Tryz.prog 23 #[.slice cU l0.length bf,.slice aN l1.length c1] w fun e w'=>e= .returned (.bool (decide (l0=l1)))/\Below w.heap.size w w':=by
 have HC:=ae (afe cU bf l0 aN c1 l1 w dS hr1)
 clear dS hr1
 go_enter Tryz.func23,Tryz.ntmps23
 go_wp2_with (go_at_call 71;refine HC.o.mono ?_;rintro e w' ⟨rfl,hb⟩)
 go_ret
 exact⟨rfl,hb⟩
theorem aqh (W:World)(a:ByteArray)(b c:Int):Kd.C cu (W.alloc (.cells #[.string a,.int .i64 b,.int .i64 c] 77)) (some ⟨W.heap.size,0,none⟩) 1 [⟨a,b,c⟩]:=by
 refine⟨rfl,tA3,fun _=>⟨_,rfl,fun j p hj=>?_⟩⟩
 have Tg:j=0:=by
  have:=(iC.1 hj).1
  simp at this
  exact this
 subst Tg
 have hp:p=⟨a,b,c⟩:=by simpa using hj.symm
 subst hp
 refine⟨[.string a,.int .i64 b,.int .i64 c],rfl,⟨[.string a],[.int .i64 b,.int .i64 c],rfl,rfl,[.int .i64 b],[.int .i64 c],rfl,rfl,rfl⟩,fun i u hu=>?_⟩
 have hb:=mj (a8 W (.cells #[.string a,.int .i64 b,.int .i64 c] 77)) i
 show(W.alloc _).cell? (Addr.add ⟨W.heap.size,0,none⟩ (0 * 3+i))=_
 rw[Nat.zero_mul,Nat.zero_add,add_plain,hb]
 simpa using hu
theorem akB:Ij.f 40 [⟨⟨#[105]⟩,1,4⟩] []=some (4,0):=tA1
theorem akE (w:World):Calls Tryz.prog 24 #[] w fun e w'=>e= .returned (.bool true)/\Below w.heap.size w w':=by
 go_enter Tryz.func24,Tryz.ntmps24
 go_wp2_with (go_at_call 73;refine(Ij.calls 40 _ 1 [⟨⟨#[105]⟩,1,4⟩] _ 0 [] 4 0 _ (aqh w _ _ _) (bl _) (Kd.yY _ _) (bl _) akB).mono ?_;rintro e w' ⟨rfl,hb⟩)
 go_ret
 exact⟨rfl,au (ax (Below.refl _ _) _) hb⟩
theorem pK {a b:ByteArray}:a.toList=b.toList↔a=b:=by
 constructor
 ·intro h
  rw[ByteArray.toList_eq,ByteArray.toList_eq]at h
  exact Go.WideShapes.bytes_inj h
 ·intro h
  rw[h]
theorem ao5 (l:List ByteArray)(s:ByteArray)(hl:l.length<=1000000):∀(m kk k:Nat),kk+m=l.length->m<k->pJ.l0 k l s (l.length:Int) (kk:Int)=some (idxFrom (fun x=>decide (s=x)) (l.drop kk) (kk:Int)):=by
 intro m
 induction m with
 | zero=>
  intro kk k h1 h2
  cases k with
  | zero=>omega
  | succ k=>
   rw[pJ.l0,if_neg tA0,ji tA0]
   rfl
 | succ m ih=>
  intro kk k h1 h2
  cases k with
  | zero=>omega
  | succ k=>
   have e0:kk<l.length:=tA0
   rw[pJ.l0,if_pos tA0,if_pos tA0,if_pos tA0]
   have ec:wrap64 ((kk:Int)+1)=((kk+1:Nat):Int):=tAh
   have r0:gg ByteArray.empty l (kk:Int)=l.getD kk ByteArray.empty:=by simp[gg]
   rw[ec,r0,T2 (fun x=>decide (s=x)) l ByteArray.empty kk e0,ih (kk+1) k tA0 tA0]
   by_cases he:s=l.getD kk ByteArray.empty
   ·rw[if_pos (pK.2 he),if_pos (by simpa using he)]
   ·rw[if_neg (fun h=>he (pK.1 h)),if_neg (by simpa using he)]
theorem Mf (l:List ByteArray)(s:ByteArray)(k:Nat)(hl:l.length<=1000000)(hk:l.length<k):kF.f k l s=some (l.any fun x=>decide (s=x)):=by
 unfold kF.f pJ.f
 have:=ao5 l s hl l.length 0 k tA0 hk
 rw[show((0:Nat):Int)=0 from rfl]at this
 rw[this]
 simp only[Option.bind_some,List.drop_zero]
 congr 1
 have h2:=FR (fun x=>decide (s=x)) l 0 tA0
 have h3:decide (idxFrom (fun x=>decide (s=x)) l 0>=0)=decide (0<=idxFrom (fun x=>decide (s=x)) l 0):=rfl
 rw[h3,h2]
def yG (b:Int):Bool:=(decide (97<=b)&&decide (b<=122))||((decide (48<=b)&&decide (b<=57))||decide (b=95))
theorem T6 (b:Int)(h:0<=b/\b<=255):(Lib.indexByte ((⟨#[95]⟩:ByteArray).data.toList) b.toNat.toUInt8<0)↔b≠95:=by
 obtain⟨n,rfl⟩:=Int.eq_ofNat_of_zero_le h.1
 have hn:n<=255:=tA0
 show Lib.indexByte [95] (Int.toNat (n:Int)).toUInt8<0↔_
 rw[eQ]
 unfold Lib.indexByte
 by_cases e:n=95
 ·subst e
  simp
 ·have hne:((95:UInt8)==n.toUInt8)=false:=by
   rw[ey]
   intro he
   have:=congrArg UInt8.toNat he
   simp at this
   omega
  rw[hne]
  simp[Lib.indexByte]
  omega
theorem aka (s:ByteArray)(hs:s.size<=1000000):∀(m kk k:Nat),kk+m=s.size->m<k->fC.l0 k s ⟨#[95]⟩ (s.size:Int) (kk:Int)=some ((List.range' kk m).all fun i=>yG (bG s (i:Int))):=by
 intro m
 induction m with
 | zero=>
  intro kk k h1 h2
  cases k with
  | zero=>omega
  | succ k=>rw[fC.l0,if_neg tA0];rfl
 | succ m ih=>
  intro kk k h1 h2
  cases k with
  | zero=>omega
  | succ k=>
   have ec:wrap64 ((kk:Int)+1)=((kk+1:Nat):Int):=tAh
   have hb:=Yz s (kk:Int)
   rw[fC.l0,if_pos tA0,if_pos tA0,if_pos tA0,ec,ih (kk+1) k tA0 tA0,List.range'_succ,List.all_cons]
   unfold tN.f yB.f strings_IndexByte.f yG
   generalize bG s (kk:Int)=b at *
   by_cases c1:97<=b
   ·rw[if_pos c1]
    by_cases bb:b<=122
    ·simp[c1,bb]
    ·have aM:¬ b<=57:=by omega
     have aV:b≠95:=tA0
     have bW:b>=48:=tA0
     simp[c1,bb,aM,aV,bW,T6 b hb]
   ·rw[if_neg c1]
    by_cases bb:48<=b
    ·by_cases aM:b<=57
     ·simp[c1,bb,aM]
     ·by_cases aV:b=95
      ·subst aV
       have auf:Lib.indexByte [95] 95=0:=tA3
       simp
       intro h
       omega
      ·simp[c1,bb,aM,aV,T6 b hb]
    ·have aV:b≠95:=by omega
     simp[c1,bb,aV,T6 b hb]
theorem apZ (s:ByteArray)(hs:s.size<=1000000):∀(m kk k:Nat),kk+m=s.size->m<k->dA.l0 k s (s.size:Int) (kk:Int)=some ((List.range' kk m).all fun i=>yG (bG s (i:Int))):=by
 intro m
 induction m with
 | zero=>
  intro kk k h1 h2
  cases k with
  | zero=>omega
  | succ k=>rw[dA.l0,if_neg tA0];rfl
 | succ m ih=>
  intro kk k h1 h2
  cases k with
  | zero=>omega
  | succ k=>
   have ec:wrap64 ((kk:Int)+1)=((kk+1:Nat):Int):=tAh
   have hb:=Yz s (kk:Int)
   rw[dA.l0,if_pos tA0,if_pos tA0,if_pos tA0,ec,ih (kk+1) k tA0 tA0,List.range'_succ,List.all_cons]
   unfold yG
   generalize bG s (kk:Int)=b at *
   by_cases c1:97<=b<;>by_cases bb:b<=122<;>by_cases aM:48<=b<;>by_cases aV:b<=57<;>by_cases bW:b=95<;>first|(exfalso;omega)|(simp[c1,bb,aM,aV,bW])|(subst bW;simp)
def Dv:List ByteArray:=[⟨#[97,114,114,97,121]⟩,⟨#[102,111,114]⟩,⟨#[105,102]⟩,⟨#[109,97,120]⟩,⟨#[109,105,110]⟩]
def eE (s:ByteArray):Bool:=(decide (1<=s.size)&&decide (s.size<=40))&&(!(Dv.any fun x=>decide (s=x))&&((decide (97<=bG s 0)&&decide (bG s 0<=122))&&(List.range' 0 s.size).all fun i=>yG (bG s (i:Int))))
theorem ard (s:ByteArray):yC.f s=some (Dv.any fun x=>decide (s=x)):=by
 have h:∀l:List UInt8,(s.toList=l)↔s=⟨l.toArray⟩:=fun l=>by
  have:(⟨l.toArray⟩:ByteArray).toList=l:=tCy
  rw[<- pK,this]
 unfold yC.f Dv
 simp only[h,List.any_cons,List.any_nil,Bool.or_false]
 by_cases c1:s=⟨#[97,114,114,97,121]⟩
 ·simp[c1]
 ·by_cases bb:s=⟨#[102,111,114]⟩
  ·simp[c1,bb]
  ·by_cases aM:s=⟨#[105,102]⟩
   ·simp[c1,bb,aM]
   ·by_cases aV:s=⟨#[109,97,120]⟩
    ·simp[c1,bb,aM,aV]
    ·by_cases bW:s=⟨#[109,105,110]⟩
     ·simp[c1,bb,aM,aV,bW]
     ·simp[c1,bb,aM,aV,bW]
theorem T9 (s:ByteArray)(hs:s.size<=1000000)(k:Nat)(hk:s.size+10<=k):nX.f k s=some (eE s):=by
 unfold nX.f
 rw[ard]
 have hl0:=aka s hs s.size 0
 obtain⟨k1,rfl⟩:∃k1,k=k1+1:=⟨k-1,tA0⟩
 have hj:∀x:Bool,fC.fl (k1+1) s ⟨#[95]⟩ x=some (!x&&(List.range' 0 s.size).all fun i=>yG (bG s (i:Int))):=fun x=>by
  rw[fC.fl]
  cases x with
  | true=>rfl
  | false=>
   rw[if_neg tA2,show((0:Int))=((0:Nat):Int)from rfl,hl0 k1 tA0 tA0]
   rfl
 unfold fC.f eE
 by_cases c1:(s.size:Int)<1
 ·rw[if_pos c1,hj]
  have:¬ 1<=s.size:=tA0
  simp[this]
 ·rw[if_neg c1]
  by_cases bb:(s.size:Int)>40
  ·rw[if_pos bb,hj]
   have:¬ s.size<=40:=tA0
   simp[this]
  ·rw[if_neg bb,if_pos tA0]
   unfold tN.f
   have h1:1<=s.size:=tA0
   have h2:s.size<=40:=tA0
   by_cases aM:97<=bG s 0
   ·rw[if_pos aM]
    simp only[Option.bind_some,hj]
    cases hA:((List.range' 0 s.size).all fun i=>yG (bG s (i:Int)))<;>cases hB:decide (bG s 0<=122)<;>cases hC:(Dv.any fun x=>decide (s=x))<;>simp_all
   ·rw[if_neg aM]
    simp only[Option.bind_some,hj]
    simp[aM]
theorem Uo (s:ByteArray)(hs:s.size<=1000000)(k:Nat)(hk:s.size+10<=k):dA.f k s=some (eE s):=by
 unfold dA.f fE.f
 have hl0:=apZ s hs s.size 0
 rw[show(([(⟨#[97,114,114,97,121]⟩:ByteArray),(⟨#[102,111,114]⟩:ByteArray),(⟨#[105,102]⟩:ByteArray),(⟨#[109,97,120]⟩:ByteArray),(⟨#[109,105,110]⟩:ByteArray)]:List ByteArray))=Dv from rfl]
 rw[Mf Dv s k tA3 (by show 5<k;omega)]
 obtain⟨k1,rfl⟩:∃k1,k=k1+1:=⟨k-1,tA0⟩
 have hj:∀x:Bool,dA.fl (k1+1) s x=some (!x&&(List.range' 0 s.size).all fun i=>yG (bG s (i:Int))):=fun x=>by
  rw[dA.fl]
  cases x with
  | true=>rfl
  | false=>
   rw[if_neg tA2,show((0:Int))=((0:Nat):Int)from rfl,hl0 k1 tA0 tA0]
   rfl
 unfold eE
 by_cases c1:(1:Int)<=(s.size:Int)
 ·rw[if_pos c1]
  have h1:1<=s.size:=tA0
  by_cases bb:(s.size:Int)<=40
  ·have h2:s.size<=40:=by omega
   have hp:(0:Int)< (s.size:Int):=tA0
   simp only[Option.bind_some,hj,bb,h1,h2,decide_true,if_true,if_pos hp]
   cases hC:(Dv.any fun x=>decide (s=x))
   ·by_cases aM:bG s 0<97
    ·have:¬ 97<=bG s 0:=by omega
     simp[aM,this]
    ·have YE:97<=bG s 0:=by omega
     by_cases aV:bG s 0<=122
     ·have:¬ bG s 0>122:=by omega
      simp[aM,YE,aV,this]
     ·have:bG s 0>122:=by omega
      simp[aM,YE,aV,this]
   ·simp
  ·have h2:¬ s.size<=40:=by omega
   simp[bb,h2,hj]
 ·rw[if_neg c1]
  have h1:¬ 1<=s.size:=tA0
  simp[h1,hj]
theorem OE (a b:Int)(hb:1<=b)(hb2:b<=1099511627776):∃r,ll.f a b=some r/\0<=r/\r<b:=by
 unfold ll.f
 rw[if_neg tA0,if_neg tA0]
 have h1:=Int.tmod_lt_of_pos a (show 0<b by omega)
 have h2: -b<Int.tmod a b:=by
  by_cases ha:0<=a
  ·have:=Int.tmod_nonneg b ha
   omega
  ·have h3:=Int.tmod_lt_of_pos (-a) (show 0<b by omega)
   rw[Int.neg_tmod]at h3
   omega
 by_cases h:Int.tmod a b<0
 ·rw[if_pos h]
  have e:wrap64 (Int.tmod a b+b)=Int.tmod a b+b:=eM _ tA0
  exact⟨_,rfl,tA0,tA0⟩
 ·rw[if_neg h]
  exact⟨_,rfl,tA0,h1⟩
theorem H7 (d:List Int)(s a:Int)(hs:0<=s)(hs2:s<=1000000)(ha:1<=a)(ha2:a<=1099511627776):∃r,oZ.f d s a=some (r,s+1)/\0<=r/\r<a:=by
 unfold oZ.f
 have e1:wrap64 (s+1)=s+1:=eM _ tA0
 have e2:wrap64 (s+1-1)=s:=by rw[show s+1-1=s by omega];exact eM _ tA0
 rw[e1,e2]
 by_cases h0:(d.length:Int)=0
 ·rw[if_pos h0]
  obtain⟨r,h1,h2⟩:=OE (wrap64 ((s+1) * 7919)) a ha ha2
  rw[h1]
  exact⟨r,rfl,h2⟩
 ·rw[if_neg h0]
  have hp:(0:Int)< (d.length:Int):=tA0
  have h1:=Int.tmod_lt_of_pos s hp
  have h2:=Int.tmod_nonneg (d.length:Int) hs
  rw[if_pos h2,if_pos h1]
  obtain⟨r1,g1,g2,g3⟩:=OE (rd d (Int.tmod s (d.length:Int))) 1073741824 tA0 tA0
  rw[g1]
  simp only[Option.bind_some]
  obtain⟨r2,k1,k2⟩:=OE (wrap64 (r1+wrap64 (wrap64 (Int.tdiv s (d.length:Int)) * wrap64 (7919+Int.tmod s (d.length:Int))))) a ha ha2
  rw[k1]
  exact⟨r2,rfl,k2⟩
theorem Ya (d:List Int)(s:Int)(l:List Int)(hs:0<=s)(hs2:s<=1000000)(hl:1<=l.length)(hl2:l.length<=1000):∃r,vC.f d s l=some (r,s+1)/\r∈l:=by
 unfold vC.f
 obtain⟨r,h1,h2,h3⟩:=H7 d s (l.length:Int) hs hs2 tA0 tA0
 rw[h1]
 simp only[Option.bind_some]
 rw[if_pos h2,if_pos h3]
 refine⟨_,rfl,?_⟩
 have hr:r.toNat<l.length:=tA0
 simp only[rd,gg,List.getD,b8 hr]
 exact List.getElem_mem hr
theorem ajd (d:List Int)(s:Int)(l:List ByteArray)(hs:0<=s)(hs2:s<=1000000)(hl:1<=l.length)(hl2:l.length<=1000):∃r,J8.f d s l=some (r,s+1)/\r∈l:=by
 unfold J8.f
 obtain⟨r,h1,h2,h3⟩:=H7 d s (l.length:Int) hs hs2 tA0 tA0
 rw[h1]
 simp only[Option.bind_some]
 rw[if_pos h2,if_pos h3]
 refine⟨_,rfl,?_⟩
 have hr:r.toNat<l.length:=tA0
 simp only[gg,List.getD,b8 hr]
 exact List.getElem_mem hr
theorem V8 (d:List Int)(s a:Int)(hs:0<=s)(hs2:s<=1000000)(ha:1<=a)(ha2:a<=1000):∃r,yQ.f d s a=some (r,s+1):=by
 unfold yQ.f
 obtain⟨r,h1,h2,h3⟩:=H7 d s a hs hs2 ha tA0
 rw[h1]
 exact⟨_,rfl⟩
theorem aiK (d:List Int)(s a b:Int)(hs:0<=s)(hs2:s<1000000)(h0: -1000<=a)(h1:a<=b)(h2:b<=1000):∃r,J7.f d s a b=some (r,s+2):=by
 unfold J7.f
 obtain⟨f,e1⟩:=V8 d s 12 hs tA0 tA0 tA0
 rw[e1]
 simp only[Option.bind_some]
 have e3:s+1+1=s+2:=tA0
 cases f with
 | true=>
  rw[if_pos rfl]
  obtain⟨r,e2,_⟩:=Ya d (s+1) ([wrap64 (a-1),wrap64 (b+1),a,b,(-1099511627776),1099511627776]:List Int) tA0 tA0 tA2 tA2
  rw[e2,e3]
  exact⟨_,rfl⟩
 | false=>
  rw[if_neg tA2]
  unfold Ay.f
  rw[if_neg tA0]
  have w1:wrap64 (b-a)=b-a:=eM _ tA0
  have w2:wrap64 (b-a+1)=b-a+1:=eM _ tA0
  rw[w1,w2]
  obtain⟨r,e2,_,_⟩:=H7 d (s+1) (b-a+1) tA0 tA0 tA0 tA0
  rw[e2,e3]
  exact⟨_,rfl⟩
def dV (w0 w:World)(g:Nat)(d:List Int)(b:Nat):Prop:=∃pos:Int,0<=pos/\pos<=b/\bB w0 w g d pos
theorem dV.below {w0 w w1:World}{g:Nat}{d:List Int}{b:Nat}(h:dV w0 w g d b)(hb:Below w.heap.size w w1):dV w0 w1 g d b:=by
 obtain⟨p,h1,h2,h3⟩:=h
 exact⟨p,h1,h2,h3.below hb⟩
theorem dV.kept {w0 w w1:World}{g:Nat}{d:List Int}{b:Nat}{S:Nat->Prop}(h:dV w0 w g d b)(hk:Kept w w1 S)(hn:¬ S g):dV w0 w1 g d b:=by
 obtain⟨p,h1,h2,h3⟩:=h
 exact⟨p,h1,h2,h3.kept hk hn⟩
theorem dV.lt {w0 w:World}{g:Nat}{d:List Int}{b:Nat}(h:dV w0 w g d b):g<w.heap.size:=by
 obtain⟨p,h1,h2,h3⟩:=h
 exact h3.lt
theorem Yf {w0 w:World}{g:Nat}{d:List Int}{b:Nat}(h:dV w0 w g d b)(hb:b<=1000000)(hB:Below w0.heap.size w0 w)(a:Int)(ha:1<=a)(ha2:a<=1000):
  Calls Tryz.prog 10 #[.pointer (some ⟨g,0,none⟩),.int .i64 a] w fun e w'=>∃r,e= .returned (.int .i64 r)/\(0<=r/\r<a)/\dV w0 w' g d (b+1)/\Below w0.heap.size w0 w'/\bF w w' g none:=by
 obtain⟨p,h1,h2,h3⟩:=h
 obtain⟨r,e1,e2,e3⟩:=H7 d p a h1 tA0 ha tA0
 exact(oZ.calls g d p a r (p+1) w0 w h3 hB e1).mono fun e w' ⟨he,hI,oK,hK⟩=>⟨r,he,⟨e2,e3⟩,⟨p+1,tA0,tA0,hI⟩,oK,hK⟩
theorem LI {w0 w:World}{g:Nat}{d:List Int}{b:Nat}(h:dV w0 w g d b)(hb:b<=1000000)(hB:Below w0.heap.size w0 w)(a:Int)(ha:1<=a)(ha2:a<=1000):
  Calls Tryz.prog 9 #[.pointer (some ⟨g,0,none⟩),.int .i64 a] w fun e w'=>∃r,e= .returned (.bool r)/\dV w0 w' g d (b+1)/\Below w0.heap.size w0 w'/\bF w w' g none:=by
 obtain⟨p,h1,h2,h3⟩:=h
 obtain⟨r,e1⟩:=V8 d p a h1 tA0 ha tA0
 exact(yQ.calls g d p a r (p+1) w0 w h3 hB e1).mono fun e w' ⟨he,hI,oK,hK⟩=>⟨r,he,⟨p+1,tA0,tA0,hI⟩,oK,hK⟩
theorem ajg {w0 w:World}{g:Nat}{d:List Int}{b:Nat}(h:dV w0 w g d b)(hb:b<1000000)(hB:Below w0.heap.size w0 w)(a c:Int)(ha: -1000<=a)(SL:a<=c)(hc:c<=1000):
  Calls Tryz.prog 41 #[.pointer (some ⟨g,0,none⟩),.int .i64 a,.int .i64 c] w fun e w'=>∃r,e= .returned (.int .i64 r)/\dV w0 w' g d (b+2)/\Below w0.heap.size w0 w'/\bF w w' g none:=by
 obtain⟨p,h1,h2,h3⟩:=h
 obtain⟨r,e1⟩:=aiK d p a c h1 tA0 ha SL hc
 exact(J7.calls g d p a c r (p+2) w0 w h3 hB e1).mono fun e w' ⟨he,hI,oK,hK⟩=>⟨r,he,⟨p+2,tA0,tA0,hI⟩,oK,hK⟩
theorem Ez {w0 w:World}{g:Nat}{d:List Int}{b:Nat}(h:dV w0 w g d b)(hb:b<=1000000)(hB:Below w0.heap.size w0 w)(X c:Nat)(l:List Int)(hr:gL w X l)(hc:l.length<=c)(hl:1<=l.length)(hl2:l.length<=1000):
  Calls Tryz.prog 40 #[.pointer (some ⟨g,0,none⟩),.slice (some ⟨X,0,none⟩) l.length c] w fun e w'=>∃r,e= .returned (.int .i64 r)/\r∈l/\dV w0 w' g d (b+1)/\Below w0.heap.size w0 w'/\bF w w' g none:=by
 obtain⟨p,h1,h2,h3⟩:=h
 obtain⟨r,e1,e2⟩:=Ya d p l h1 tA0 hl hl2
 have hne:∀ad:Addr,(some ⟨X,0,none⟩:Option Addr)=some ad->0<l.length->ad.block≠g:=by
  intro ad e _ hg
  injection e with e
  subst e
  obtain⟨cU,bf,hb0,_⟩:=h3
  exact EP hr hb0 tA3 hg
 exact(vC.calls g d p _ c l r (p+1) w0 w h3 hB (hr.reads tA0) hc hne e1).mono fun e w' ⟨he,hI,oK,hK⟩=>⟨r,he,e2,⟨p+1,tA0,tA0,hI⟩,oK,hK⟩
theorem adq {P:Program}(w:World)(uZ yM ty elem:TypeId)(sz g o Fe RM:Nat)(a:Addr)(Gb Vc:Nat)(cur:Array Value)(t:TypeId)(cs:List Value)
  (hu:P.underlying uZ=some (.slice elem)) (hs:(P.info? elem).map (·.size)=some sz)
  (hg:w.heap[g]?=some (.cells cur t (0,0))) (hn:cs.length=Nat.min Gb Fe * sz)
  (aoo:∀j v,cs[j]?=some v->w.cell? (a.add j)=some v) (zQ:o+cs.length<=cur.size) (h1:∀v∈cs,v.oneCell'=true):
  (Builtin.copy_ #[uZ,yM] ty #[.slice (some ⟨g,o,none⟩) Fe RM,.slice (some a) Gb Vc]).run P w=
   .ok (goInt (Nat.min Gb Fe)) (w.setRow g (cur.toList.take o++cs++cur.toList.drop (o+cs.length)).toArray):=by
 have hl:=run_loadCells_list (P:=P) w a cs aoo
 have hst:=run_storeCells_at P g o t cs 0 cur w hg (by simpa using zQ) h1
 cases hq:P.info? elem with
 | none=>simp[hq]at hs
 | some i=>
  have hi:i.size=sz:=by simpa[hq]using hs
  simp[Builtin.copy_,run_underlying hu,Builtin.lenOf,Builtin.firstCells,sizeOf,typeInfo,hq,hi,<- hn,hl,hst]
theorem arK {P:Program}(w:World)(uZ yM ty elem:TypeId)(sz:Nat)(d a:Option Addr)(Fe RM Gb Vc:Nat)(hu:P.underlying uZ=some (.slice elem))(hs:(P.info? elem).map (·.size)=some sz)(hn:Nat.min Gb Fe=0):
  (Builtin.copy_ #[uZ,yM] ty #[.slice d Fe RM,.slice a Gb Vc]).run P w= .ok (goInt 0) w:=by
 cases hq:P.info? elem with
 | none=>simp[hq]at hs
 | some i=>
  have hi:i.size=sz:=by simpa[hq]using hs
  cases a<;>cases d<;>simp[Builtin.copy_,run_underlying hu,Builtin.lenOf,Builtin.firstCells,sizeOf,typeInfo,hq,hi,hn,loadCells,loadCellsFrom,storeCells,Result.andThen]
def BJ (w:World)(ok:Nat->Prop)(xs:List aj)(L:List Value)(l:List aj):Prop:=∀(e:Nat) (x:aj),l[e]?=some x->x∈xs/\∃v0 v1,L[2 * e]?=some v0/\L[2 * e+1]?=some v1/\Kd.eI bc w ok x [v0,v1]
theorem aq4 {w:World}{ok:Nat->Prop}{xs l:List aj}{L:List Value}{c:Nat}(h:BJ w ok xs L l)(hc:c<=l.length)(hL:2 * (l.length+c)<=L.length):
  BJ w ok xs (L.take (2 * l.length)++L.take (2 * c)++L.drop (2 * l.length+2 * c)) (l++l.take c):=by
 intro e x he
 by_cases h1:e<l.length
 ·rw[qb h1]at he
  obtain⟨hx,v0,v1,a0,a1,a2⟩:=h e x he
  refine⟨hx,v0,v1,?_,?_,a2⟩
  ·rw[List.append_assoc,qb tAb,jC tA0]
   exact a0
  ·rw[List.append_assoc,qb tAb,jC tA0]
   exact a1
 ·have h2:e-l.length<c:=by
   have:=(iC.1 he).1
   simp at this
   omega
  rw[List.getElem?_append_right tA0,jC h2]at he
  obtain⟨hx,v0,v1,a0,a1,a2⟩:=h _ x he
  have fk:(L.take (2 * l.length)).length=2 * l.length:=tAb
  refine⟨hx,v0,v1,?_,?_,a2⟩
  ·rw[List.append_assoc,List.getElem?_append_right tA0,fk,qb tAb,jC tA0]
   rw[show 2 * e-2 * l.length=2 * (e-l.length) by omega]
   exact a0
  ·rw[List.append_assoc,List.getElem?_append_right tA0,fk,qb tAb,jC tA0]
   rw[show 2 * e+1-2 * l.length=2 * (e-l.length)+1 by omega]
   exact a1
theorem arE {w:World}{ok:Nat->Prop}{ad:Addr}{xs:List aj}(h:Kd.F bc w ok (some ad) xs.length xs):∃L:List Value,L.length=2 * xs.length/\(∀j v,L[j]?=some v->w.cell? (ad.add j)=some v/\v.oneCell'=true)/\BJ w ok xs L xs:=by
 obtain⟨L,⟨h1,h2⟩,h3⟩:=lC.Nj (Kd.OP h)
 have hsz:bc.sz=2:=rfl
 rw[hsz]at h1 h2
 have yx:BJ w ok xs L xs:=by
  intro e x he
  have hlt:=(iC.1 he).1
  have hK:=h2 e x he
  have a0:e * 2<L.length:=tA0
  have a1:e * 2+1<L.length:=tA0
  have hd:(L.drop (e * 2)).take 2=[L[e * 2],L[e * 2+1]]:=by
   rw[lF a0,lF a1]
   rfl
  rw[hd]at hK
  refine⟨List.mem_of_getElem? he,_,_,?_,?_,hK⟩
  ·rw[Nat.mul_comm 2 e]
   exact b8 a0
  ·rw[Nat.mul_comm 2 e]
   exact b8 a1
 refine⟨L,tA0,fun j v hj=>⟨h3 j v hj,?_⟩,yx⟩
 have gQ:=(iC.1 hj).1
 obtain⟨x,hx⟩:∃x,xs[j / 2]?=some x:=⟨_,b8 tA0⟩
 obtain⟨_,v0,v1,a0,a1,a2⟩:=yx _ _ hx
 have ho:=bc.lA (Foot.now a2)
 rcases Nat.mod_two_eq_zero_or_one j with hm|hm
 ·rw[show 2 * (j / 2)=j by omega,hj]at a0
  injection a0 with a0
  subst a0
  exact ho _ tA2
 ·rw[show 2 * (j / 2)+1=j by omega,hj]at a1
  injection a1 with a1
  subst a1
  exact ho _ tA2
theorem jR:(Tryz.prog.info? 33).map (fun i=>(i.zero,i.size,i.bytes))=some (some (.agg #[.int .i64 0,.slice none 0 0]),2,32):=tA1
theorem abU:∃i,Tryz.prog.info? 33=some i/\i.zero=some (.agg #[.int .i64 0,.slice none 0 0])/\i.size=2/\i.bytes=32:=by
 have h:=jR
 cases hq:Tryz.prog.info? 33 with
 | none=>rw[hq]at h;exact absurd h tA2
 | some i=>
  rw[hq]at h
  simp only[Option.map_some,Option.some.injEq,Prod.mk.injEq]at h
  exact⟨i,rfl,h.1,h.2.1,h.2.2⟩
theorem Vi:(Tryz.prog.info? 33).map (·.size)=some 2:=by
 obtain⟨i,h,_,h2,_⟩:=abU
 rw[h,Option.map_some,h2]
theorem aci (m:Nat)(hm:m<=100000)(W:World):(Instr.makeSlice 27 (.int .i64 (m:Int)) (.int .i64 (m:Int))).run Tryz.prog W= .ok (.slice (some ⟨W.heap.size,0,none⟩) m m) (W.alloc (.cells (madeCells #[.int .i64 0,.slice none 0 0] (m * 2)) 33)):=by
 obtain⟨i,h,hz,h2,h3⟩:=abU
 have hr:=run_make (P:=Tryz.prog) W 27 33 i _ Tryz.underlying27 h hz .i64 .i64 (m:Int) (m:Int) tA0 tA0 (by rw[h3];omega) tA0
 rw[h2,eQ]at hr
 exact hr
theorem apS (n:Nat)(hn:n<=3):EO.f (n:Int) 40=some (0,((n * 40:Nat):Int)):=by
 rcases(by omega:n=0\/n=1\/n=2\/n=3)with rfl|rfl|rfl|rfl<;>kernel_rfl
theorem aem {P:Program}(w:World){ops:Array Oper}{rest:List Oper}{o:Oper}{a:Act}{Q:Exit->Act->World->Prop}(hgd:o.guard=none)(d s:Operand)(uZ yM:TypeId)
  (ho:o.op= .call { callee:= .builtin .copy,args:=#[d,s],argTypes:=#[uZ,yM]}) (IA sv v:Value) (hd:a.eval d=IA) (hs:a.eval s=sv) (w':World)
  (hrun:(Builtin.copy_ #[uZ,yM] o.type #[IA,sv]).run P w= .ok v w') (h:wpList P ops Q rest (a.put o.dst v) w'):wpList P ops Q (o::rest) a w:=by
 refine wpList_plain hgd fun K hK=>?_
 unfold Oper.wp
 simp[execOp,ho,resolve,invoke,builtin,hd,hs,hrun,Result.andThen]
 exact hK _ _ h
theorem asx {P:Program}{ops:Array Oper}{o:Oper}{a:Act}{w:World}{K:Act->World->Prop}{Q:Exit->Act->World->Prop}{E:Prop}(hgd:o.guard=none)(d s:Operand)(uZ yM:TypeId)
  (ho:o.op= .call { callee:= .builtin .copy,args:=#[d,s],argTypes:=#[uZ,yM]}) (IA sv v:Value) (hd:a.eval d=IA) (hs:a.eval s=sv) (w':World)
  (hrun:(Builtin.copy_ #[uZ,yM] o.type #[IA,sv]).run P w= .ok v w') (h:K (a.put o.dst v) w'):if Region.wanted o (yielded ops a.tmps)=true then Oper.wp P o a w K Q else E:=by
 have hw:Region.wanted o (yielded ops a.tmps)=true:=by simp[Region.wanted,hgd]
 rw[if_pos hw]
 unfold Oper.wp
 simp[execOp,ho,resolve,invoke,builtin,hd,hs,hrun,Result.andThen]
 exact h
def xS (w:World)(ok:Nat->Prop)(xs:List aj)(m X:Nat)(l:List aj)(W:World):Prop:=∃L:List Value,L.length=m * 2/\W.heap[X]?=some (.cells L.toArray 33 (0,0))/\BJ w ok xs L l/\(∀j v,L[j]?=some v->j<2 * l.length->v.oneCell'=true)/\Below w.heap.size w W
theorem aq5 {w:World}{ok:Nat->Prop}{xs:List aj}{m:Nat}{ad:Addr}{c:Nat}{Bx:List Value}(sD:Bx.length=2 * xs.length)(Fm:∀j v,Bx[j]?=some v->w.cell? (ad.add j)=some v/\v.oneCell'=true)(hL2:BJ w ok xs Bx xs)(hm:xs.length<=m)
  (W:World) (hb:Below w.heap.size w W) (hX:W.heap[w.heap.size]?=some (.cells (madeCells #[.int .i64 0,.slice none 0 0] (m * 2)) 33 (0,0))):
  ∃W',(Builtin.copy_ #[27,27] 3 #[.slice (some ⟨w.heap.size,0,none⟩) m m,.slice (some ad) xs.length c]).run Tryz.prog W= .ok (.int .i64 (xs.length:Int)) W'/\xS w ok xs m w.heap.size xs W':=by
 have abg:Nat.min xs.length m=xs.length:=Nat.min_eq_left hm
 have hsz:(madeCells #[.int .i64 0,.slice none 0 0] (m * 2)).size=m * 2:=size_madeCells _ _
 have hr:=adq (P:=Tryz.prog) W 27 27 3 33 2 w.heap.size 0 m m ad xs.length c _ 33 Bx Tryz.underlying27 Vi hX (by rw[abg];omega) (fun j v hj=>by
  have h1:=(Fm j v hj).1
  rw[<- h1]
  exact hb.cell (b7 w _ h1)) (by rw[hsz];omega) (fun v hv=>by
  obtain⟨j,hj⟩:=List.getElem?_of_mem hv
  exact(Fm j v hj).2)
 rw[abg]at hr
 refine⟨_,hr,Bx++(madeCells #[.int .i64 0,.slice none 0 0] (m * 2)).toList.drop (0+Bx.length),?_,?_,?_,?_,?_⟩
 ·simp only[fZ,List.length_drop,Array.length_toList,hsz]
  omega
 ·rw[setRow_heap W _ _ _ 33 (0,0) hX]
  simp
 ·intro e x he
  obtain⟨hx,v0,v1,a0,a1,a2⟩:=hL2 e x he
  have:=(iC.1 a1).1
  exact⟨hx,v0,v1,by rw[qb tA0];exact a0,by rw[qb tA0];exact a1,a2⟩
 ·intro j v hj hlt
  rw[qb tA0]at hj
  exact(Fm j v hj).2
 ·exact below_setRow hb (bl _) _
theorem aq7 {w:World}{ok:Nat->Prop}{xs l:List aj}{m X:Nat}{W:World}(h:xS w ok xs m X l W)(hX:w.heap.size<=X)(h0:0<l.length)(hm:l.length<m):
  ∃W',(Builtin.copy_ #[27,27] 3 #[.slice (some ⟨X,l.length * 2,none⟩) (m-l.length) (m-l.length),.slice (some ⟨X,0,none⟩) l.length m]).run Tryz.prog W= .ok (.int .i64 ((Nat.min l.length (m-l.length):Nat):Int)) W'/\xS w ok xs m X (l++l.take (Nat.min l.length (m-l.length))) W':=by
 obtain⟨L,h1,h2,h3,h4,h5⟩:=h
 generalize hc:Nat.min l.length (m-l.length)=c
 have hc1:c<=l.length:=by rw[<- hc];exact Nat.min_le_left _ _
 have hc2:c<=m-l.length:=by rw[<- hc];exact Nat.min_le_right _ _
 have hlt:(L.take (2 * c)).length=2 * c:=tAb
 have hr:=adq (P:=Tryz.prog) W 27 27 3 33 2 X (l.length * 2) (m-l.length) (m-l.length) ⟨X,0,none⟩ l.length m L.toArray 33 (L.take (2 * c)) Tryz.underlying27 Vi h2 (by rw[hc,hlt];omega) (fun j v hj=>by
  rw[add_plain,mj h2]
  have vd:=(iC.1 hj).1
  rw[hlt]at vd
  rw[jC vd]at hj
  simpa using hj) (by rw[hlt];simp;omega) (fun v hv=>by
  obtain⟨j,hj⟩:=List.getElem?_of_mem hv
  have vd:=(iC.1 hj).1
  rw[hlt]at vd
  rw[jC vd]at hj
  exact h4 j v hj tA0)
 rw[hc]at hr
 have e1:l.length * 2=2 * l.length:=Nat.mul_comm _ _
 refine⟨_,hr,L.take (2 * l.length)++L.take (2 * c)++L.drop (2 * l.length+2 * c),?_,?_,aq4 h3 hc1 tA0,?_,below_setRow h5 hX _⟩
 ·simp only[fZ,List.length_drop,hlt,bQ]
  omega
 ·rw[setRow_heap W _ _ _ 33 (0,0) h2,hlt,e1]
 ·intro j v hj gQ
  have fk:(L.take (2 * l.length)).length=2 * l.length:=tAb
  have hl2:(l++l.take c).length=l.length+c:=tAb
  rw[hl2]at gQ
  rw[List.append_assoc]at hj
  by_cases aaW:j<2 * l.length
  ·rw[qb tA0,jC aaW]at hj
   exact h4 j v hj aaW
  ·rw[List.getElem?_append_right tA0,fk,qb tA0,jC tA0]at hj
   exact h4 _ v hj tA0
theorem xS.drewN {w:World}{ok:Nat->Prop}{xs l:List aj}{m X:Nat}{W:World}(h:xS w ok xs m X l W)(n:Nat):xS w ok xs m X l (W.drewN n):=by
 obtain⟨L,h1,h2,h3,h4,h5⟩:=h
 exact⟨L,h1,h2,h3,h4,eG h5 n⟩
def kY (W:World)(X:Nat)(xs:List ByteArray):Prop:=W.heap[X]?=some (.cells (xs.map Value.string).toArray 9 (0,0))
theorem kY.cell {W:World}{X:Nat}{xs:List ByteArray}(h:kY W X xs)(i:Nat)(hi:i<xs.length):W.cell? ⟨X,i,none⟩=some (.string (xs.getD i ByteArray.empty)):=by
 rw[mj h i]
 simp[b8 hi,List.getD]
theorem kY.reads {W:World}{X:Nat}{xs:List ByteArray}(h:kY W X xs)(hl:xs.length<=9223372036854775807):Kd.C Kd.string W (some ⟨X,0,none⟩) xs.length xs:=by
 refine⟨rfl,hl,fun _=>⟨_,rfl,fun j p hj=>⟨[.string p],rfl,rfl,fun i u hu=>?_⟩⟩⟩
 have gQ:=(iC.1 hj).1
 cases i with
 | zero=>
  simp only[List.getElem?_cons_zero,Option.some.injEq]at hu
  subst hu
  have hc:=h.cell j gQ
  have e:xs.getD j ByteArray.empty=p:=tDe
  rw[e]at hc
  show W.cell? (Addr.add ⟨X,0,none⟩ (j * 1+0))=_
  rw[Nat.mul_one,Nat.add_zero,add_plain]
  exact hc
 | succ i=>simp at hu
theorem QY {w0 w:World}{g:Nat}{d:List Int}{b:Nat}(h:dV w0 w g d b)(hb:b<=1000000)(hB:Below w0.heap.size w0 w)(X c:Nat)(l:List ByteArray)(hr:kY w X l)(hc:l.length<=c)(hl:1<=l.length)(hl2:l.length<=1000):
  Calls Tryz.prog 8 #[.pointer (some ⟨g,0,none⟩),.slice (some ⟨X,0,none⟩) l.length c] w fun e w'=>∃r,e= .returned (.string r)/\r∈l/\dV w0 w' g d (b+1)/\Below w0.heap.size w0 w'/\bF w w' g none:=by
 obtain⟨p,h1,h2,h3⟩:=h
 obtain⟨r,e1,e2⟩:=ajd d p l h1 tA0 hl hl2
 have hne:∀ad:Addr,(some ⟨X,0,none⟩:Option Addr)=some ad->0<l.length->ad.block≠g:=by
  intro ad e _ hg
  injection e with e
  subst e
  obtain⟨cU,bf,hb0,_⟩:=h3
  exact EP hr hb0 tA3 hg
 exact(J8.calls g d p _ c l r (p+1) w0 w h3 hB (hr.reads tA0) hc hne e1).mono fun e w' ⟨he,hI,oK,hK⟩=>⟨r,he,e2,⟨p+1,tA0,tA0,hI⟩,oK,hK⟩
theorem Jx {W W':World}{g:Nat}(h:bF W W' g none):Kept W W' (fun k=>k=g):=⟨h.1,fun k hk hn=>h.2 k hk hn tA2⟩
def lK (a b c:Int):Bool:=decide (b<=a)&&decide (a<=c)
theorem Nu (a b c:Int):fQ.f a b c=some (lK a b c):=ab9 a b c
theorem NN (a b c:Int):fE.f a b c=some (lK a b c):=by
 unfold fE.f lK
 by_cases h:b<=a
 ·rw[if_pos h];simp[h]
 ·rw[if_neg h];simp[h]
def tX:ByteArray->List ay->Int
 | _,[]=>0
 | prev,t::r=>if eE t.f0=true then(if(decide (t.f1=0)|| !lK t.f1 (-1000) 1000)=true then 1 else if Op.bytesLess prev.toList t.f0.toList=true then tX t.f0 r else 7)else 5
theorem Mm (l:List ay)(k:Nat)(h:k<l.length):l.drop k=aJ l (k:Int)::l.drop (k+1):=by
 rw[lF h]
 simp[aJ,List.getD,b8 h]
theorem Ah (l:List ay)(k:Nat)(h:k<l.length):aJ l (k:Int)∈l:=by
 have:aJ l (k:Int)=l[k]:=by simp[aJ,List.getD,b8 h]
 rw[this]
 exact List.getElem_mem h
theorem alN (l:List ay)(hl:l.length<=1000000)(hn:∀t∈l,t.f0.size<=100):∀(m kk k:Nat) (prev:ByteArray),kk+m=l.length->2 * m+200<=k->gV.l0 k prev l (l.length:Int) (kk:Int)=some (tX prev (l.drop kk)):=by
 intro m
 induction m with
 | zero=>
  intro kk k prev h1 h2
  obtain⟨k,rfl⟩:∃k',k=k'+1:=⟨k-1,tA0⟩
  rw[gV.l0,if_neg tA0,ji tA0]
  rfl
 | succ m ih=>
  intro kk k prev h1 h2
  obtain⟨k,rfl⟩:∃k',k=k'+1+1:=⟨k-2,tA0⟩
  have e0:kk<l.length:=tA0
  have ec:wrap64 ((kk:Int)+1)=((kk+1:Nat):Int):=tAh
  have hm:=hn _ (Ah l kk e0)
  rw[Mm l kk e0]
  rw[gV.l0,if_pos tA0,if_pos tA0,if_pos tA0]
  generalize aJ l (kk:Int)=t at *
  rw[Uo t.f0 tA0 (k+1) tA0]
  simp only[Option.bind_some]
  rw[tX]
  have hj:∀b,gV.gR (k+1) prev l (l.length:Int) (kk:Int) b t.f0 t.f1=some (if b=true then 1 else if Op.bytesLess prev.toList t.f0.toList=true then tX t.f0 (l.drop (kk+1))else 7):=fun b=>by
   rw[gV.gR,ec,ih (kk+1) k t.f0 tA0 tA0]
   cases b<;>simp
   cases Op.bytesLess prev.toList t.f0.toList<;>simp
  by_cases hk:eE t.f0=true
  ·rw[if_pos hk,if_pos hk]
   by_cases hz:t.f1=0
   ·rw[if_pos hz,hj]
    simp[hz]
   ·rw[if_neg hz,NN]
    simp only[Option.bind_some,hj]
    simp[hz]
  ·rw[if_neg hk,if_neg hk]
def su (a:Int)(l:List ay):Int:=if lK a (-1000000) 1000000=true then(if l.length>12 then 2 else tX ⟨#[]⟩ l)else 1
theorem ZO (a:Int)(l:List ay)(hl:l.length<=1000000)(hn:∀t∈l,t.f0.size<=100)(k:Nat)(hk:2 * l.length+200<=k):gV.f k a l=some (su a l):=by
 unfold gV.f su
 rw[NN]
 simp only[Option.bind_some]
 have:=alN l hl hn l.length 0 k ⟨#[]⟩ tA0 hk
 rw[show((0:Nat):Int)=0 from rfl]at this
 rw[this]
 by_cases h1:lK a (-1000000) 1000000=true
 ·rw[if_pos h1,if_pos h1]
  by_cases h2:l.length>12
  ·rw[if_pos tA0,if_pos h2]
  ·rw[if_neg tA0,if_neg h2]
   rfl
 ·rw[if_neg h1,if_neg h1]
def JO (l:List ay)(kk:Nat):ByteArray:=if kk=0 then⟨#[]⟩else(aJ l ((kk-1:Nat):Int)).f0
theorem apG {s:ByteArray}(h:eE s=true):Op.bytesLess (⟨#[]⟩:ByteArray).toList s.toList=true:=by
 have h1:1<=s.size:=by
  unfold eE at h
  simp only[Bool.and_eq_true,decide_eq_true_eq]at h
  exact h.1.1
 have h2:s.toList≠[]:=by
  rw[ByteArray.toList_eq]
  intro e
  have:=congrArg List.length e
  simp at this
  have h3:s.size=0:=by
   show s.data.size=0
   simp[this]
  omega
 have h0:(⟨#[]⟩:ByteArray).toList=[]:=tCy
 rw[h0]
 cases hs:s.toList with
 | nil=>exact absurd hs h2
 | cons x xs=>rfl
theorem akh (a:Int)(l:List ay)(hl:l.length<=1000000)(hn:∀t∈l,t.f0.size<=100):∀(m kk k:Nat),kk+m=l.length->2 * m+200<=k->gq.l0 k l (l.length:Int) (kk:Int) a l=some (tX (JO l kk) (l.drop kk)):=by
 intro m
 induction m with
 | zero=>
  intro kk k h1 h2
  obtain⟨k,rfl⟩:∃k',k=k'+1:=⟨k-1,tA0⟩
  rw[gq.l0,if_neg tA0,ji tA0]
  rfl
 | succ m ih=>
  intro kk k h1 h2
  obtain⟨k,rfl⟩:∃k',k=k'+1+1:=⟨k-2,tA0⟩
  have e0:kk<l.length:=tA0
  have ec:wrap64 ((kk:Int)+1)=((kk+1:Nat):Int):=tAh
  have hm:=hn _ (Ah l kk e0)
  have Jd:JO l (kk+1)=(aJ l (kk:Int)).f0:=by unfold JO;rw[if_neg tA0];simp
  have CK:=ih (kk+1) k tA0 tA0
  rw[Jd]at CK
  rw[Mm l kk e0]
  rw[gq.l0,if_pos tA0,if_pos tA0,if_pos tA0]
  have abx:JO l kk=if kk=0 then⟨#[]⟩else(aJ l ((kk-1:Nat):Int)).f0:=rfl
  generalize aJ l (kk:Int)=t at *
  rw[T9 t.f0 tA0 (k+1) tA0]
  simp only[Option.bind_some]
  rw[tX]
  by_cases hk:eE t.f0=true
  ·have hj:∀b,gq.gR (k+1) (kk:Int) l (l.length:Int) (kk:Int) b a l t.f0 t.f1=some (if b=true then 1 else if Op.bytesLess (JO l kk).toList t.f0.toList=true then tX t.f0 (l.drop (kk+1))else 7):=fun b=>by
    rw[gq.gR,ec,CK]
    cases b with
    | true=>simp
    | false=>
     simp only[Bool.false_eq_true,if_false]
     by_cases h0:kk=0
     ·subst h0
      rw[if_neg tA2,abx,if_pos rfl,apG hk]
      simp
     ·have e1:wrap64 ((kk:Int)-1)=((kk-1:Nat):Int):=by rw[eM _ tA0];omega
      rw[if_pos tA0,e1,if_pos tA0,if_pos tA0,abx,if_neg h0]
      cases Op.bytesLess (aJ l ((kk-1:Nat):Int)).f0.toList t.f0.toList<;>simp
   rw[if_pos hk,if_pos hk]
   by_cases hz:t.f1=0
   ·rw[if_pos hz,hj]
    simp[hz]
   ·rw[if_neg hz,Nu]
    simp only[Option.bind_some,hj]
    simp[hz]
  ·rw[if_neg hk,if_neg hk]
theorem akg (a:Int)(l:List ay)(hl:l.length<=1000000)(hn:∀t∈l,t.f0.size<=100)(k:Nat)(hk:2 * l.length+200<=k):gq.f k a l=some (su a l):=by
 unfold gq.f su
 rw[Nu]
 simp only[Option.bind_some]
 have:=akh a l hl hn l.length 0 k tA0 hk
 rw[show((0:Nat):Int)=0 from rfl]at this
 rw[this]
 by_cases h1:lK a (-1000000) 1000000=true
 ·rw[if_pos h1,if_pos h1]
  by_cases h2:l.length>12
  ·rw[if_pos tA0,if_pos h2]
  ·rw[if_neg tA0,if_neg h2]
   rfl
 ·rw[if_neg h1,if_neg h1]
theorem Fg (l:List aq)(k:Nat)(h:k<l.length):l.drop k=aw l (k:Int)::l.drop (k+1):=by
 rw[lF h]
 simp[aw,List.getD,b8 h]
theorem acp (l:List aq)(k:Nat)(h:k<l.length):aw l (k:Int)∈l:=by
 have:aw l (k:Int)=l[k]:=by simp[aw,List.getD,b8 h]
 rw[this]
 exact List.getElem_mem h
theorem Y6 (l:List aj)(k:Nat)(h:k<l.length):l.drop k=bH l (k:Int)::l.drop (k+1):=by
 rw[lF h]
 simp[bH,List.getD,b8 h]
theorem acq (l:List aj)(k:Nat)(h:k<l.length):bH l (k:Int)∈l:=by
 have:bH l (k:Int)=l[k]:=by simp[bH,List.getD,b8 h]
 rw[this]
 exact List.getElem_mem h
def zD:Int->List aq->Int
 | _,[]=>0
 | n,s::r=>if wrap64 (n * wrap64 (wrap64 (s.f2-s.f1)+1))>200000 then 12 else zD (wrap64 (n * wrap64 (wrap64 (s.f2-s.f1)+1))) r
theorem akn (l:List aq)(hl:l.length<=1000000):∀(m kk k:Nat) (n:Int),kk+m=l.length->m<k->en.l3 k n l (l.length:Int) (kk:Int)=some (zD n (l.drop kk)):=by
 intro m
 induction m with
 | zero=>
  intro kk k n h1 h2
  obtain⟨k,rfl⟩:∃k',k=k'+1:=⟨k-1,tA0⟩
  rw[en.l3,if_neg tA0,ji tA0]
  rfl
 | succ m ih=>
  intro kk k n h1 h2
  obtain⟨k,rfl⟩:∃k',k=k'+1:=⟨k-1,tA0⟩
  have ec:wrap64 ((kk:Int)+1)=((kk+1:Nat):Int):=tAh
  rw[en.l3,if_pos tA0,if_pos tA0,if_pos tA0,Fg l kk tA0,zD,ec,ih (kk+1) k _ tA0 tA0]
  split<;>rfl
theorem aq3 (l:List aq)(hl:l.length<=1000000):∀(m kk k:Nat) (n:Int),kk+m=l.length->m<k->eA.l3 k n l (l.length:Int) (kk:Int)=some (zD n (l.drop kk)):=by
 intro m
 induction m with
 | zero=>
  intro kk k n h1 h2
  obtain⟨k,rfl⟩:∃k',k=k'+1:=⟨k-1,tA0⟩
  rw[eA.l3,if_neg tA0,ji tA0]
  rfl
 | succ m ih=>
  intro kk k n h1 h2
  obtain⟨k,rfl⟩:∃k',k=k'+1:=⟨k-1,tA0⟩
  have ec:wrap64 ((kk:Int)+1)=((kk+1:Nat):Int):=tAh
  rw[eA.l3,if_pos tA0,if_pos tA0,if_pos tA0,Fg l kk tA0,zD,ec,ih (kk+1) k _ tA0 tA0]
  split<;>rfl
def yg (all l:List aq):Int:=if l.any (fun s=>decide (s.f1>s.f2))=true then 0 else zD 1 all
theorem Zh (all:List aq)(s:aq)(r:List aq):yg all (s::r)=if s.f1>s.f2 then 0 else yg all r:=by
 unfold yg
 rw[List.any_cons]
 by_cases h:s.f1>s.f2<;>simp[h]
theorem akm (l:List aq)(conds:List aj)(hl:l.length<=1000000):∀(m kk k:Nat),kk+m=l.length->m+l.length+1<k->en.l2 k 1 l (l.length:Int) (kk:Int) l conds=some (yg l (l.drop kk)):=by
 intro m
 induction m with
 | zero=>
  intro kk k h1 h2
  obtain⟨k,rfl⟩:∃k',k=k'+1:=⟨k-1,tA0⟩
  have:=akn l hl l.length 0 k 1 tA0 tA0
  rw[show((0:Nat):Int)=0 from rfl]at this
  rw[en.l2,if_neg tA0,ji tA0,this]
  rfl
 | succ m ih=>
  intro kk k h1 h2
  obtain⟨k,rfl⟩:∃k',k=k'+1:=⟨k-1,tA0⟩
  have ec:wrap64 ((kk:Int)+1)=((kk+1:Nat):Int):=tAh
  rw[en.l2,if_pos tA0,if_pos tA0,if_pos tA0,Fg l kk tA0,Zh,ec,ih (kk+1) k tA0 tA0]
  split<;>rfl
theorem aq2 (l:List aq)(conds:List aj)(hl:l.length<=1000000):∀(m kk k:Nat),kk+m=l.length->m+l.length+1<k->eA.l2 k 1 l (l.length:Int) (kk:Int) l conds=some (yg l (l.drop kk)):=by
 intro m
 induction m with
 | zero=>
  intro kk k h1 h2
  obtain⟨k,rfl⟩:∃k',k=k'+1:=⟨k-1,tA0⟩
  have:=aq3 l hl l.length 0 k 1 tA0 tA0
  rw[show((0:Nat):Int)=0 from rfl]at this
  rw[eA.l2,if_neg tA0,ji tA0,this]
  rfl
 | succ m ih=>
  intro kk k h1 h2
  obtain⟨k,rfl⟩:∃k',k=k'+1:=⟨k-1,tA0⟩
  have ec:wrap64 ((kk:Int)+1)=((kk+1:Nat):Int):=tAh
  rw[eA.l2,if_pos tA0,if_pos tA0,if_pos tA0,Fg l kk tA0,Zh,ec,ih (kk+1) k tA0 tA0]
  split<;>rfl
def gG (names:List ByteArray)(f:aj):Int:=if su f.f0 f.f1=0 then(if f.f1.all (fun t=>names.any fun x=>decide (t.f0=x))=true then 0 else 16)else su f.f0 f.f1
theorem acS (names:List ByteArray)(t:ay)(r:List ay):(if(t::r).all (fun t=>names.any fun x=>decide (t.f0=x))=true then(0:Int)else 16)=if(names.any fun x=>decide (t.f0=x))=true then(if r.all (fun t=>names.any fun x=>decide (t.f0=x))=true then 0 else 16)else 16:=by
 rw[List.all_cons]
 cases(names.any fun x=>decide (t.f0=x))<;>rfl
theorem ajK (names:List ByteArray)(nT:names.length<=1000)(l:List ay)(hl:l.length<=1000000):∀(m kk k:Nat),kk+m=l.length->m+names.length+1<k->ln.l0 k names l (l.length:Int) (kk:Int)=some (if(l.drop kk).all (fun t=>names.any fun x=>decide (t.f0=x))=true then 0 else 16):=by
 intro m
 induction m with
 | zero=>
  intro kk k h1 h2
  obtain⟨k,rfl⟩:∃k',k=k'+1:=⟨k-1,tA0⟩
  rw[ln.l0,if_neg tA0,ji tA0]
  rfl
 | succ m ih=>
  intro kk k h1 h2
  obtain⟨k,rfl⟩:∃k',k=k'+1:=⟨k-1,tA0⟩
  have ec:wrap64 ((kk:Int)+1)=((kk+1:Nat):Int):=tAh
  rw[ln.l0,if_pos tA0,if_pos tA0,if_pos tA0,Mm l kk tA0,acS,ec,ih (kk+1) k tA0 tA0,Mf names _ k tA0 tA0]
  simp only[Option.bind_some]
  split<;>rfl
theorem Ys (names:List ByteArray)(nT:names.length<=1000)(f:aj)(hl:f.f1.length<=1000)(hn:∀t∈f.f1,t.f0.size<=100)(k:Nat)(hk:5000<=k):ln.f k f.f0 f.f1 names=some (gG names f):=by
 unfold ln.f gG
 have:=ajK names nT f.f1 tA0 f.f1.length 0 k tA0 tA0
 rw[show((0:Nat):Int)=0 from rfl]at this
 rw[ZO f.f0 f.f1 tA0 hn k tA0,this]
 simp only[Option.bind_some,List.drop_zero]
 split<;>rfl
theorem ash (sides:List aq)(conds:List aj)(s:ByteArray):∃i,px.f sides conds s=some i/\(decide (i<0)= !((sides.map (·.f0)).any fun x=>decide (s=x))):=by
 refine⟨_,rfl,?_⟩
 have h:=FR (fun x:aq=>x.f0.toList==s.toList) sides 0 tA0
 have e:(sides.map (·.f0)).any (fun x=>decide (s=x))=sides.any (fun x:aq=>x.f0.toList==s.toList):=by
  rw[List.any_map]
  congr 1
  funext x
  show decide (s=x.f0)=(x.f0.toList==s.toList)
  rw[Bool.eq_iff_iff]
  simp only[decide_eq_true_eq,beq_iff_eq]
  exact⟨fun h=>by rw[h],fun h=>(pK.1 h).symm⟩
 rw[e,<- h]
 by_cases h0:idxFrom (fun x:aq=>x.f0.toList==s.toList) sides 0<0
 ·have:¬ 0<=idxFrom (fun x:aq=>x.f0.toList==s.toList) sides 0:=by omega
  simp[h0,this]
 ·have:0<=idxFrom (fun x:aq=>x.f0.toList==s.toList) sides 0:=by omega
  simp[h0,this]
theorem aki (sides:List aq)(conds:List aj)(l:List ay)(hl:l.length<=1000000):∀(m kk k:Nat),kk+m=l.length->m<k->mh.l0 k l (l.length:Int) (kk:Int) sides conds=some (if(l.drop kk).all (fun t=>(sides.map (·.f0)).any fun x=>decide (t.f0=x))=true then 0 else 16):=by
 intro m
 induction m with
 | zero=>
  intro kk k h1 h2
  obtain⟨k,rfl⟩:∃k',k=k'+1:=⟨k-1,tA0⟩
  rw[mh.l0,if_neg tA0,ji tA0]
  rfl
 | succ m ih=>
  intro kk k h1 h2
  obtain⟨k,rfl⟩:∃k',k=k'+1:=⟨k-1,tA0⟩
  have ec:wrap64 ((kk:Int)+1)=((kk+1:Nat):Int):=tAh
  obtain⟨i,hi,hb⟩:=ash sides conds (aJ l (kk:Int)).f0
  rw[mh.l0,if_pos tA0,if_pos tA0,if_pos tA0,Mm l kk tA0,acS,ec,ih (kk+1) k tA0 tA0,hi]
  simp only[Option.bind_some]
  cases hc:(sides.map (·.f0)).any fun x=>decide ((aJ l (kk:Int)).f0=x)with
  | true=>
   rw[hc]at hb
   have:¬ i<0:=by simpa using hb
   rw[if_neg this,if_pos rfl]
  | false=>
   rw[hc]at hb
   have:i<0:=by simpa using hb
   rw[if_pos this,if_neg tA2]
theorem YO (sides:List aq)(conds:List aj)(f:aj)(hl:f.f1.length<=1000)(hn:∀t∈f.f1,t.f0.size<=100)(k:Nat)(hk:5000<=k):mh.f k sides conds f.f0 f.f1=some (gG (sides.map (·.f0)) f):=by
 unfold mh.f gG
 have:=aki sides conds f.f1 tA0 f.f1.length 0 k tA0 tA0
 rw[show((0:Nat):Int)=0 from rfl]at this
 rw[akg f.f0 f.f1 tA0 hn k tA0,this]
 simp only[Option.bind_some,List.drop_zero]
 split<;>rfl
def zG (names:List ByteArray)(sides:List aq):List aj->Int
 | []=>yg sides sides
 | f::r=>if gG names f=0 then zG names sides r else gG names f
theorem akl (sides:List aq)(hs:sides.length<=8)(l:List aj)(hl:l.length<=1000)(hf:∀f∈l,f.f1.length<=1000/\∀t∈f.f1,t.f0.size<=100):∀(m kk k:Nat),kk+m=l.length->m+6000<k->en.l1 k l (l.length:Int) (kk:Int) sides l=some (zG (sides.map (·.f0)) sides (l.drop kk)):=by
 intro m
 induction m with
 | zero=>
  intro kk k h1 h2
  obtain⟨k,rfl⟩:∃k',k=k'+1:=⟨k-1,tA0⟩
  have:=akm sides l tA0 sides.length 0 k tA0 tA0
  rw[show((0:Nat):Int)=0 from rfl]at this
  rw[en.l1,if_neg tA0,ji tA0,this]
  rfl
 | succ m ih=>
  intro kk k h1 h2
  obtain⟨k,rfl⟩:∃k',k=k'+1:=⟨k-1,tA0⟩
  have ec:wrap64 ((kk:Int)+1)=((kk+1:Nat):Int):=tAh
  obtain⟨f1,f2⟩:=hf _ (acq l kk tA0)
  rw[en.l1,if_pos tA0,if_pos tA0,if_pos tA0,Y6 l kk tA0,zG,ec,ih (kk+1) k tA0 tA0,YO sides l _ f1 f2 k tA0]
  simp only[Option.bind_some]
  split<;>rfl
theorem aq1 (sides:List aq)(hs:sides.length<=8)(l:List aj)(hl:l.length<=1000)(hf:∀f∈l,f.f1.length<=1000/\∀t∈f.f1,t.f0.size<=100)(names:List ByteArray)(nT:names.length<=1000):∀(m kk k:Nat),kk+m=l.length->m+6000<k->eA.l1 k names l (l.length:Int) (kk:Int) sides l=some (zG names sides (l.drop kk)):=by
 intro m
 induction m with
 | zero=>
  intro kk k h1 h2
  obtain⟨k,rfl⟩:∃k',k=k'+1:=⟨k-1,tA0⟩
  have:=aq2 sides l tA0 sides.length 0 k tA0 tA0
  rw[show((0:Nat):Int)=0 from rfl]at this
  rw[eA.l1,if_neg tA0,ji tA0,this]
  rfl
 | succ m ih=>
  intro kk k h1 h2
  obtain⟨k,rfl⟩:∃k',k=k'+1:=⟨k-1,tA0⟩
  have ec:wrap64 ((kk:Int)+1)=((kk+1:Nat):Int):=tAh
  obtain⟨f1,f2⟩:=hf _ (acq l kk tA0)
  rw[eA.l1,if_pos tA0,if_pos tA0,if_pos tA0,Y6 l kk tA0,zG,ec,ih (kk+1) k tA0 tA0,Ys names nT _ f1 f2 k tA0]
  simp only[Option.bind_some]
  split<;>rfl
def Ga (sides:List aq)(conds:List aj):Int:=if conds.length>60 then 2 else zG (sides.map (·.f0)) sides conds
def wQ (sides:List aq)(conds:List aj):List ByteArray->List aq->Int
 | _,[]=>Ga sides conds
 | seen,s::r=>if eE s.f0=true then(if(seen.any fun x=>decide (s.f0=x))=true then 6 else if lK s.f1 (-1000000) 1000000=true then(if lK s.f2 (-1000000) 1000000=true then wQ sides conds (seen++[s.f0]) r else 1)else 1)else 5
def cQ (sides:List aq)(conds:List aj):Int:=if sides.length>8 then 2 else wQ sides conds [] sides
theorem ao0 (sides:List aq)(s:ByteArray)(kk:Nat)(h:kk<sides.length)(hs:(sides.getD kk z77).f0=s):decide (idxFrom (fun x:aq=>x.f0.toList==s.toList) sides 0< (kk:Int))=((sides.take kk).map (·.f0)).any fun x=>decide (s=x):=by
 have key:∀(l:List aq) (i:Int) (n:Nat),n<l.length->(l.getD n z77).f0=s->decide (idxFrom (fun x:aq=>x.f0.toList==s.toList) l i<i+n)=((l.take n).map (·.f0)).any fun x=>decide (s=x):=by
  intro l
  induction l with
  | nil=>intro i n h1;simp at h1
  | cons y r ih=>
   intro i n h1 h2
   rw[idxFrom]
   cases n with
   | zero=>
    simp only[List.getD_cons_zero]at h2
    have:(y.f0.toList==s.toList)=true:=by rw[h2];simp
    rw[this]
    simp
   | succ n=>
    have CK:=ih (i+1) n (by simpa using h1) tBn
    simp only[List.take_succ_cons,List.map_cons,List.any_cons]
    by_cases hy:y.f0=s
    ·have:(y.f0.toList==s.toList)=true:=by rw[hy];simp
     rw[this]
     simp[hy]
     omega
    ·have h3:(y.f0.toList==s.toList)=false:=by
      rw[ey]
      exact fun e=>hy (pK.1 e)
     have h4:decide (s=y.f0)=false:=cE (fun e=>hy e.symm)
     rw[h3,h4,Bool.false_or,<- CK]
     simp only[Bool.false_eq_true,if_false]
     congr 1
     rw[eq_iff_iff]
     constructor<;>intro h5<;>(push_cast at h5 ⊢;omega)
 have:=key sides 0 kk h hs
 simpa using this
theorem acy (sides:List aq)(kk:Nat)(h:kk<sides.length):(sides.take kk).map (·.f0)++[(aw sides (kk:Int)).f0]=(sides.take (kk+1)).map (·.f0):=by
 rw[kr h,List.map_append]
 simp[aw,List.getD,b8 h]
theorem akk (sides:List aq)(hs:sides.length<=8)(wF:∀s∈sides,s.f0.size<=100)(l:List aj)(hl:l.length<=1000)(hf:∀f∈l,f.f1.length<=1000/\∀t∈f.f1,t.f0.size<=100):∀(m kk k:Nat),kk+m=sides.length->m+8000<k->en.l0 k sides (sides.length:Int) (kk:Int) sides l=some (wQ sides l ((sides.take kk).map (·.f0)) (sides.drop kk)):=by
 intro m
 induction m with
 | zero=>
  intro kk k h1 h2
  obtain⟨k,rfl⟩:∃k',k=k'+1:=⟨k-1,tA0⟩
  have:=akl sides hs l hl hf l.length 0 k tA0 tA0
  rw[show((0:Nat):Int)=0 from rfl,List.drop_zero]at this
  rw[en.l0,if_neg tA0,ji tA0,this,wQ]
  unfold Ga
  by_cases hc:l.length>60
  ·rw[if_pos tA0,if_pos hc]
  ·rw[if_neg tA0,if_neg hc]
 | succ m ih=>
  intro kk k h1 h2
  obtain⟨k,rfl⟩:∃k',k=k'+1:=⟨k-1,tA0⟩
  have ec:wrap64 ((kk:Int)+1)=((kk+1:Nat):Int):=tAh
  have hm:=wF _ (acp sides kk tA0)
  have hi:=ao0 sides (aw sides (kk:Int)).f0 kk tA0 rfl
  rw[en.l0,if_pos tA0,if_pos tA0,if_pos tA0,Fg sides kk tA0,wQ,ec,ih (kk+1) k tA0 tA0,T9 _ tA0 k tA0,Nu,Nu,<- acy sides kk tA0]
  unfold px.f
  simp only[Option.bind_some]
  generalize aw sides (kk:Int)=s at *
  rw[<- hi]
  by_cases c1:eE s.f0=true
  ·by_cases bb:idxFrom (fun x:aq=>x.f0.toList==s.f0.toList) sides 0< (kk:Int)
   ·simp[c1,bb]
   ·by_cases aM:lK s.f1 (-1000000) 1000000=true
    ·by_cases aV:lK s.f2 (-1000000) 1000000=true
     ·simp[c1,bb,aM,aV]
     ·simp[c1,bb,aM,aV]
    ·simp[c1,bb,aM]
  ·simp[c1]
theorem aq0 (sides:List aq)(hs:sides.length<=8)(wF:∀s∈sides,s.f0.size<=100)(l:List aj)(hl:l.length<=1000)(hf:∀f∈l,f.f1.length<=1000/\∀t∈f.f1,t.f0.size<=100):∀(m kk k:Nat),kk+m=sides.length->m+8000<k->eA.l0 k ((sides.take kk).map (·.f0)) sides (sides.length:Int) (kk:Int) sides l=some (wQ sides l ((sides.take kk).map (·.f0)) (sides.drop kk)):=by
 intro m
 induction m with
 | zero=>
  intro kk k h1 h2
  obtain⟨k,rfl⟩:∃k',k=k'+1:=⟨k-1,tA0⟩
  have ht:sides.take kk=sides:=List.take_of_length_le tA0
  rw[ht]
  have:=aq1 sides hs l hl hf (sides.map (·.f0)) tAb l.length 0 k tA0 tA0
  rw[show((0:Nat):Int)=0 from rfl,List.drop_zero]at this
  rw[eA.l0,if_neg tA0,ji tA0,this,wQ]
  unfold Ga
  by_cases hc:l.length>60
  ·rw[if_pos tA0,if_pos hc]
  ·rw[if_neg tA0,if_neg hc]
 | succ m ih=>
  intro kk k h1 h2
  obtain⟨k,rfl⟩:∃k',k=k'+1:=⟨k-1,tA0⟩
  have ec:wrap64 ((kk:Int)+1)=((kk+1:Nat):Int):=tAh
  have hm:=wF _ (acp sides kk tA0)
  have hlen:((sides.take kk).map (·.f0)).length<=8:=tAb
  have CK:=ih (kk+1) k tA0 tA0
  rw[<- acy sides kk tA0]at CK
  rw[eA.l0,if_pos tA0,if_pos tA0,if_pos tA0,Fg sides kk tA0,wQ,ec,CK,Uo _ tA0 k tA0,NN,NN,Mf _ _ k tA0 tA0,if_pos (show((sides.take kk).map (·.f0)).length<8796093022208 by omega)]
  simp only[Option.bind_some]
  generalize aw sides (kk:Int)=s at *
  by_cases c1:eE s.f0=true
  ·cases bb:((sides.take kk).map (·.f0)).any fun x=>decide (s.f0=x)
   ·by_cases aM:lK s.f1 (-1000000) 1000000=true
    ·by_cases aV:lK s.f2 (-1000000) 1000000=true
     ·simp only[c1,aM,aV,if_true,Bool.false_eq_true,if_false]
     ·simp only[c1,aM,aV,if_true,Bool.false_eq_true,if_false]
    ·simp only[c1,aM,if_true,Bool.false_eq_true,if_false]
   ·simp only[c1,if_true]
  ·simp only[c1,Bool.false_eq_true,if_false]
theorem akj (sides:List aq)(wF:∀s∈sides,s.f0.size<=100)(l:List aj)(hl:l.length<=1000)(hf:∀f∈l,f.f1.length<=1000/\∀t∈f.f1,t.f0.size<=100)(k:Nat)(hk:9000<=k):en.f k sides l=some (cQ sides l):=by
 unfold en.f cQ
 by_cases hs:sides.length>8
 ·rw[if_pos tA0,if_pos hs]
 ·rw[if_neg tA0,if_neg hs]
  have:=akk sides tA0 wF l hl hf sides.length 0 k tA0 tA0
  simpa using this
theorem aqY (sides:List aq)(wF:∀s∈sides,s.f0.size<=100)(l:List aj)(hl:l.length<=1000)(hf:∀f∈l,f.f1.length<=1000/\∀t∈f.f1,t.f0.size<=100)(k:Nat)(hk:9000<=k):eA.f k sides l=some (cQ sides l):=by
 unfold eA.f cQ
 by_cases hs:sides.length>8
 ·rw[if_pos tA0,if_pos hs]
 ·rw[if_neg tA0,if_neg hs]
  have:=aq0 sides tA0 wF l hl hf sides.length 0 k tA0 tA0
  simpa using this
def lG:List aq->List (List Int)
 | []=>[[]]
 | s::r=>(oX s.f1 (s.f2+1-s.f1).toNat).flatMap fun v=>(lG r).map (v:: ·)
theorem Zl (P:List Int->Bool):∀(sides:List aq) (pre:List Int),qj P sides pre=((lG sides).map (pre++ ·)).filter P
 | [],pre=>by
  simp only[qj,lG,List.map_cons,List.map_nil,List.append_nil]
  cases h:P pre<;>simp[h]
 | s::r,pre=>by
  simp only[qj,lG,List.map_flatMap,List.filter_flatMap]
  congr 1
  funext v
  rw[Zl P r (pre++[v]),List.map_map]
  congr 2
  funext y
  simp
def after:List aq->List Int->List (List Int)
 | s::ss,n::ns=>(after ss ns).map (n:: ·)++(oX (n+1) (s.f2-n).toNat).flatMap fun v=>(lG ss).map (v:: ·)
 | _,_=>[]
def Js:List aq->List Int->Prop
 | [],[]=>True
 | s::ss,n::ns=>(s.f1<=n/\n<=s.f2)/\Js ss ns
 | _,_=>False
theorem T4:∀(sides:List aq),(∀s∈sides,s.f1<=s.f2)->Js sides (sides.map (·.f1))
 | [],_=>trivial
 | s::r,h=>⟨⟨Int.le_refl _,h s tA2⟩,T4 r (fun y hy=>h y tB4)⟩
theorem LM:∀(sides:List aq),(∀s∈sides,s.f1<=s.f2)->lG sides=sides.map (·.f1)::after sides (sides.map (·.f1))
 | [],_=>rfl
 | s::r,h=>by
  have hs:=h s tA2
  obtain⟨c,hc⟩:∃c,(s.f2+1-s.f1).toNat=c+1:=⟨(s.f2-s.f1).toNat,tA0⟩
  have hc2:(s.f2-s.f1).toNat=c:=tA0
  rw[lG,hc,oX,List.flatMap_cons,LM r (fun y hy=>h y tB4),List.map_cons,List.map_cons,after,hc2,<- LM r (fun y hy=>h y tB4)]
  simp
theorem Us:∀(sides:List aq) (x:List Int),(∀s∈sides,s.f1<=s.f2/\ -2000000<=s.f1/\s.f2<=2000000)->Js sides x->(j3 sides x=none/\after sides x=[])\/∃t,j3 sides x=some t/\Js sides t/\after sides x=t::after sides t
 | [],[],_,_=> .inl ⟨rfl,rfl⟩
 | [],_::_,_,h=>h.elim
 | _::_,[],_,h=>h.elim
 | s::ss,n::ns,hb,h=>by
  obtain⟨hn,MZ⟩:=h
  have hs:=hb s tA2
  rcases Us ss ns (fun y hy=>hb y tB4) MZ with⟨h1,h2⟩|⟨t,h1,h2,h3⟩
  ·by_cases he:n=s.f2
   ·left
    refine⟨by rw[j3,h1];simp[he],?_⟩
    rw[after,h2,he]
    simp[oX]
   ·right
    have alz:wrap64 (n+1)=n+1:=eM _ tA0
    refine⟨(n+1)::ss.map (·.f1),by rw[j3,h1];simp[he,alz],⟨⟨tA0,tA0⟩,T4 ss (fun y hy=>(hb y tB4).1)⟩,?_⟩
    obtain⟨c,hc⟩:∃c,(s.f2-n).toNat=c+1:=⟨(s.f2-n-1).toNat,tA0⟩
    have hc2:(s.f2- (n+1)).toNat=c:=tA0
    have hA:=LM ss (fun y hy=>(hb y tB4).1)
    rw[after,h2,hc,oX,List.flatMap_cons,after,hc2,hA]
    simp
  ·right
   refine⟨n::t,by rw[j3,h1],⟨hn,h2⟩,?_⟩
   rw[after,h3,after]
   simp
section
variable {σ:Type}
def qF (P:List Int->Bool)(st:σ->List Int->Bool×σ):σ->List (List Int)->σ
 | s,[]=>s
 | s,y::r=>if P y=true then(if(st s y).1=true then qF P st (st s y).2 r else(st s y).2)else qF P st s r
theorem ak4 (sides:List aq)(conds:List aj)(hb:∀s∈sides,s.f1<=s.f2/\ -2000000<=s.f1/\s.f2<=2000000)(st:σ->List Int->Bool×σ):∀(m k:Nat) (s:σ) (x:List Int),(after sides x).length=m->m<k->Js sides x->sr sides conds st k s x=some (qF (lf sides conds) st s (x::after sides x)):=by
 intro m
 induction m with
 | zero=>
  intro k s x h1 h2 hx
  obtain⟨k,rfl⟩:∃k',k=k'+1:=⟨k-1,tA0⟩
  rcases Us sides x hb hx with⟨e1,e2⟩|⟨t,e1,e2,e3⟩
  ·rw[sr,e1,e2]
   simp only[qF,Option.elim]
   split
   ·split<;>rfl
   ·rfl
  ·rw[e3]at h1
   simp at h1
 | succ m ih=>
  intro k s x h1 h2 hx
  obtain⟨k,rfl⟩:∃k',k=k'+1:=⟨k-1,tA0⟩
  rcases Us sides x hb hx with⟨e1,e2⟩|⟨t,e1,e2,e3⟩
  ·rw[e2]at h1
   simp at h1
  ·rw[e3]at h1
   have ht:(after sides t).length=m:=by simpa using h1
   rw[sr,e1,e3,qF]
   simp only[Option.elim]
   rw[ih k s t ht tA0 e2,ih k (st s x).2 t ht tA0 e2]
   split
   ·split<;>rfl
   ·rfl
theorem ak1 (sides:List aq)(conds:List aj)(hb:∀s∈sides,-2000000<=s.f1/\s.f2<=2000000)(st:σ->List Int->Bool×σ)(s:σ)(k:Nat)(hk:(lG sides).length<=k):yf k sides conds st s=some (if sides.any (fun v=>decide (v.f2<v.f1))=true then s else qF (lf sides conds) st s (lG sides)):=by
 unfold yf
 by_cases h:sides.any (fun v=>decide (v.f2<v.f1))=true
 ·rw[if_pos h,if_pos h]
 ·rw[if_neg h,if_neg h]
  have hle:∀v∈sides,v.f1<=v.f2:=fun v hv=>by
   have:¬ v.f2<v.f1:=fun hl=>h (List.any_eq_true.2 ⟨v,hv,tBj⟩)
   omega
  have hs:=LM sides hle
  rw[hs]at hk ⊢
  exact ak4 sides conds (fun v hv=>⟨hle v hv,hb v hv⟩) st _ k s _ rfl tCg (T4 sides hle)
theorem U2 (P:List Int->Bool)(st:σ->List Int->Bool×σ):∀(l:List (List Int)) (s:σ),qF P st s l=qF (fun _=>true) st s (l.filter P)
 | [],s=>rfl
 | y::r,s=>by
  rw[qF]
  by_cases h:P y=true
  ·rw[if_pos h,List.filter_cons_of_pos h,qF,if_pos rfl,U2 P st r]
  ·rw[if_neg h,List.filter_cons_of_neg h,U2 P st r]
end
theorem Jr {a b c:Int}:lK a b c=true↔b<=a/\a<=c:=by simp[lK]
theorem Vh (sides:List aq)(conds:List aj):∀(l:List aq) (seen:List ByteArray),wQ sides conds seen l=0->
  (∀s∈l,eE s.f0=true/\(-1000000<=s.f1/\s.f1<=1000000)/\(-1000000<=s.f2/\s.f2<=1000000))/\(seen.Nodup->(seen++l.map (·.f0)).Nodup)/\Ga sides conds=0
 | [],seen,h=>⟨fun s hs=>absurd hs tA2,fun hn=>by simpa using hn,h⟩
 | s::r,seen,h=>by
  rw[wQ]at h
  by_cases c1:eE s.f0=true
  ·rw[if_pos c1]at h
   cases bb:seen.any fun x=>decide (s.f0=x)with
   | true=>rw[bb]at h;simp at h
   | false=>
    rw[bb]at h
    simp only[Bool.false_eq_true,if_false]at h
    by_cases aM:lK s.f1 (-1000000) 1000000=true
    ·rw[if_pos aM]at h
     by_cases aV:lK s.f2 (-1000000) 1000000=true
     ·rw[if_pos aV]at h
      obtain⟨h1,h2,h3⟩:=Vh sides conds r (seen++[s.f0]) h
      refine⟨fun y hy=>?_,fun hn=>?_,h3⟩
      ·rcases List.mem_cons.1 hy with rfl|hy
       ·exact⟨c1,Jr.1 aM,Jr.1 aV⟩
       ·exact h1 y hy
      ·have hm:s.f0∉seen:=fun hm=>by
        have:=List.any_eq_false.1 bb s.f0 hm
        simp at this
       have:=h2 (by
        rw[List.nodup_append]
        refine⟨hn,tA2,fun a ha b hb=>?_⟩
        rw[il.1 hb]
        exact fun e=>hm (e▸ha))
       simpa using this
     ·rw[if_neg aV]at h;simp at h
    ·rw[if_neg aM]at h;simp at h
  ·rw[if_neg c1]at h;simp at h
theorem RL (names:List ByteArray)(sides:List aq):∀(l:List aj),zG names sides l=0->(∀f∈l,gG names f=0)/\yg sides sides=0
 | [],h=>⟨fun f hf=>absurd hf tA2,h⟩
 | f::r,h=>by
  rw[zG]at h
  by_cases c:gG names f=0
  ·rw[if_pos c]at h
   obtain⟨h1,h2⟩:=RL names sides r h
   exact⟨fun y hy=>by rcases List.mem_cons.1 hy with rfl|hy;exact c;exact h1 y hy,h2⟩
  ·rw[if_neg c]at h
   exact absurd h c
theorem Od:∀(l:List ay) (prev:ByteArray),tX prev l=0->∀t∈l,eE t.f0=true/\ -1000<=t.f1/\t.f1<=1000
 | [],_,_=>fun t ht=>absurd ht tA2
 | t::r,prev,h=>by
  rw[tX]at h
  by_cases c1:eE t.f0=true
  ·rw[if_pos c1]at h
   cases bb:(decide (t.f1=0)|| !lK t.f1 (-1000) 1000)with
   | true=>rw[bb]at h;simp at h
   | false=>
    rw[bb]at h
    simp only[Bool.false_eq_true,if_false]at h
    simp only[Bool.or_eq_false_iff,decide_eq_false_iff_not,Bool.not_eq_false']at bb
    by_cases aM:Op.bytesLess prev.toList t.f0.toList=true
    ·rw[if_pos aM]at h
     intro y hy
     rcases List.mem_cons.1 hy with rfl|hy
     ·exact⟨c1,Jr.1 bb.2⟩
     ·exact Od r t.f0 h y hy
    ·rw[if_neg aM]at h;simp at h
  ·rw[if_neg c1]at h;simp at h
structure Valid (sides:List aq)(conds:List aj):Prop where
 len:sides.length<=8
 sd:∀s∈sides,eE s.f0=true/\(-1000000<=s.f1/\s.f1<=1000000)/\(-1000000<=s.f2/\s.f2<=1000000)
 cg:(sides.map (·.f0)).Nodup
 cl:conds.length<=60
 L8:∀f∈conds,(-1000000<=f.f0/\f.f0<=1000000)/\f.f1.length<=12/\∀t∈f.f1,(eE t.f0=true/\ -1000<=t.f1/\t.f1<=1000)/\t.f0∈sides.map (·.f0)
 em:yg sides sides=0
theorem iT {sides:List aq}{conds:List aj}(h:cQ sides conds=0):Valid sides conds:=by
 unfold cQ at h
 by_cases hs:sides.length>8
 ·rw[if_pos hs]at h;simp at h
 ·rw[if_neg hs]at h
  obtain⟨h1,h2,h3⟩:=Vh sides conds sides [] h
  unfold Ga at h3
  by_cases hc:conds.length>60
  ·rw[if_pos hc]at h3;simp at h3
  ·rw[if_neg hc]at h3
   obtain⟨h4,h5⟩:=RL _ sides conds h3
   refine⟨tA0,h1,by simpa using h2 List.nodup_nil,tA0,fun f hf=>?_,h5⟩
   have ho:=h4 f hf
   unfold gG at ho
   by_cases c1:su f.f0 f.f1=0
   ·rw[if_pos c1]at ho
    cases bb:f.f1.all (fun t=>(sides.map (·.f0)).any fun x=>decide (t.f0=x))with
    | false=>rw[bb]at ho;simp at ho
    | true=>
     unfold su at c1
     by_cases aM:lK f.f0 (-1000000) 1000000=true
     ·rw[if_pos aM]at c1
      by_cases aV:f.f1.length>12
      ·rw[if_pos aV]at c1;simp at c1
      ·rw[if_neg aV]at c1
       refine⟨Jr.1 aM,tA0,fun t ht=>⟨Od _ _ c1 t ht,?_⟩⟩
       have:=List.all_eq_true.1 bb t ht
       obtain⟨x,hx,he⟩:=List.any_eq_true.1 this
       rw[decide_eq_true_eq]at he
       rw[he]
       exact hx
     ·rw[if_neg aM]at c1;simp at c1
   ·rw[if_neg c1]at ho
    exact absurd ho c1
theorem T3 (sides:List aq)(s:ByteArray)(h:s∈sides.map (·.f0)):∃n:Nat,n<sides.length/\idxFrom (fun x:aq=>x.f0.toList==s.toList) sides 0=(n:Int)/\(sides.getD n z77).f0=s:=by
 have key:∀(l:List aq) (i:Int),s∈l.map (·.f0)->∃n:Nat,n<l.length/\idxFrom (fun x:aq=>x.f0.toList==s.toList) l i=i+(n:Int)/\(l.getD n z77).f0=s:=by
  intro l
  induction l with
  | nil=>intro i h;simp at h
  | cons y r ih=>
   intro i h
   rw[idxFrom]
   by_cases hy:y.f0=s
   ·have:(y.f0.toList==s.toList)=true:=by rw[hy];simp
    rw[this]
    exact⟨0,tA2,tA2,by simpa using hy⟩
   ·have h3:(y.f0.toList==s.toList)=false:=by
     rw[ey]
     exact fun e=>hy (pK.1 e)
    rw[h3]
    have hm:s∈r.map (·.f0):=by
     rw[List.map_cons]at h
     rcases List.mem_cons.1 h with e|h
     ·exact absurd e.symm hy
     ·exact h
    obtain⟨n,h1,h2,h4⟩:=ih (i+1) hm
    exact⟨n+1,tAb,by simp only[Bool.false_eq_true,if_false];rw[h2];push_cast;omega,by simpa using h4⟩
 obtain⟨n,h1,h2,h3⟩:=key sides 0 h
 exact⟨n,h1,by rw[h2];omega,h3⟩
theorem acL {sides:List aq}{conds:List aj}(h:Valid sides conds):F0 sides conds=true:=by
 unfold F0 wK
 simp only[Bool.and_eq_true,decide_eq_true_eq,List.all_eq_true]
 refine⟨h.len,fun f hf t ht=>?_⟩
 obtain⟨n,h1,h2,_⟩:=T3 sides t.f0 ((h.L8 f hf).2.2 t ht).2
 rw[h2]
 exact⟨tA0,tAb⟩
end Go.Proofs.YtjgakaembhmhpaaGreatDoor.PA
