/- Part of the proof of SetsChanged: the walk and the plain laws. It holds without further conditions. -/
import Derived.Test.YtjgakaembhmhpaaGreatDoorJAN
set_option linter.unusedVariables false
set_option linter.unusedSimpArgs false
set_option maxHeartbeats 16000000
set_option maxRecDepth 100000
namespace Go.Proofs.YtjgakaembhmhpaaGreatDoor.PA
open Go.RowKit Go.Proofs.YtjgakaembhmhpaaGreatDoorW.PrintWords Go.Proofs.YtjgakaembhmhpaaGreatDoorW.PrintLast Go.Proofs.YtjgakaembhmhpaaGreatDoorW.PrintMore Go.Proofs.YtjgakaembhmhpaaGreatDoorM
instance aue:DecidableEq ay:=fun a b=>decidable_of_iff (a.f0=b.f0/\a.f1=b.f1) ⟨fun h=>tCz,fun h=>by rw[h];exact⟨rfl,rfl⟩⟩
def fI (l:List ay):Prop:=l.Pairwise fun s t=>s.f0.data.toList<t.f0.data.toList
theorem JS {l:List ay}(h:fI l):Ib l:=by
 intro i j Ce hj
 have hi:i<l.length:=tA0
 have:=List.pairwise_iff_getElem.1 h i j hi hj Ce
 simpa[List.getD,b8 hi,b8 hj]using this
theorem Ny (a b:ByteArray):a.data.toList<b.data.toList\/a=b\/b.data.toList<a.data.toList:=by
 by_cases h1:a.data.toList<b.data.toList
 ·exact Or.inl h1
 ·by_cases h2:b.data.toList<a.data.toList
  ·exact Or.inr (Or.inr h2)
  ·exact Or.inr (Or.inl (Go.WideShapes.bytes_inj (List.le_antisymm (List.not_lt.1 h2) (List.not_lt.1 h1))))
theorem E4 {l:List ay}{s:ByteArray}(h:∀t∈l,s.data.toList<t.f0.data.toList):bu l s=0:=
 BZ l s fun t ht e=>wJ (h t ht) e.symm
theorem RF:∀{a b:List ay},fI a->(∀t∈a,t.f1≠0)->fI b->(∀t∈b,t.f1≠0)->(∀s,bu a s=bu b s)->a=b
 | [],[],_,_,_,_,_=>rfl
 | [],y::b,_,_,_,jT,h=>by
  have e:=h y.f0
  rw[bu,bu,if_pos rfl]at e
  exact absurd e.symm (jT y tA2)
 | x::a,[],_,CQ,_,_,h=>by
  have e:bu (x::a) x.f0=0:=h x.f0
  unfold bu at e
  rw[if_pos rfl]at e
  exact absurd e (CQ x tA2)
 | x::a,y::b,ha,CQ,hb,jT,h=>by
  obtain⟨ha1,ha2⟩:=List.pairwise_cons.1 ha
  obtain⟨hb1,hb2⟩:=List.pairwise_cons.1 hb
  have key:x.f0=y.f0:=by
   rcases Ny x.f0 y.f0 with h1|h1|h1
   ·have e:=h x.f0
    rw[bu,if_pos rfl,E4 (l:=y::b) (fun t ht=>by
     rcases List.mem_cons.1 ht with rfl|ht
     ·exact h1
     ·exact List.lt_trans h1 (hb1 t ht))]at e
    exact absurd e (CQ x tA2)
   ·exact h1
   ·have e:=h y.f0
    rw[E4 (l:=x::a) (fun t ht=>by
     rcases List.mem_cons.1 ht with rfl|ht
     ·exact h1
     ·exact List.lt_trans h1 (ha1 t ht)),bu,if_pos rfl]at e
    exact absurd e.symm (jT y tA2)
  have e1:=h x.f0
  rw[bu,if_pos rfl,bu,if_pos key.symm]at e1
  have Sg:x=y:=by
   cases x;cases y
   simp only at key e1
   rw[key,e1]
  subst Sg
  have:a=b:=RF ha2 (fun t ht=>CQ t (jk _ ht)) hb2 (fun t ht=>jT t (jk _ ht)) fun s=>by
   have e:=h s
   rw[bu,bu]at e
   by_cases hs:x.f0=s
   ·subst hs
    rw[E4 ha1,E4 hb1]
   ·rw[if_neg hs,if_neg hs]at e
    exact e
  rw[this]
def mU (t:ay):List ay->List ay
 | []=>[t]
 | u::r=>if u.f0=t.f0 then⟨u.f0,u.f1+t.f1⟩::r else if t.f0.data.toList<u.f0.data.toList then t::u::r else u::mU t r
theorem T7 (t:ay):∀(l:List ay) (u:ay),u∈mU t l->u.f0=t.f0\/∃v∈l,v.f0=u.f0
 | [],u,h=>by
  simp only[mU,il]at h
  exact Or.inl (by rw[h])
 | v::r,u,h=>by
  unfold mU at h
  split at h
  ·rename_i e
   rcases List.mem_cons.1 h with rfl|h
   ·exact Or.inl e
   ·exact Or.inr ⟨u,jk _ h,rfl⟩
  ·split at h
   ·rcases List.mem_cons.1 h with rfl|h
    ·exact Or.inl rfl
    ·exact Or.inr ⟨u,h,rfl⟩
   ·rcases List.mem_cons.1 h with rfl|h
    ·exact Or.inr ⟨u,List.mem_cons_self,rfl⟩
    ·rcases T7 t r u h with e|⟨v',hv,e⟩
     ·exact Or.inl e
     ·exact Or.inr ⟨v',jk _ hv,e⟩
theorem abX (t:ay):∀{l:List ay},fI l->fI (mU t l)
 | [],_=>by unfold mU fI;simp
 | u::r,h=>by
  obtain⟨h1,h2⟩:=List.pairwise_cons.1 h
  unfold mU
  split
  ·exact List.pairwise_cons.2 ⟨h1,h2⟩
  ·rename_i hne
   split
   ·rename_i hlt
    exact List.pairwise_cons.2 ⟨fun v hv=>by
     rcases List.mem_cons.1 hv with rfl|hv
     ·exact hlt
     ·exact List.lt_trans hlt (h1 v hv),h⟩
   ·rename_i pG
    refine List.pairwise_cons.2 ⟨fun v hv=>?_,abX t h2⟩
    have TR:u.f0.data.toList<t.f0.data.toList:=by
     rcases Ny u.f0 t.f0 with a|a|a
     ·exact a
     ·exact absurd a hne
     ·exact absurd a pG
    rcases T7 t r v hv with e|⟨v',hv',e⟩
    ·rw[e];exact TR
    ·rw[<- e];exact h1 v' hv'
theorem abV (t:ay)(s:ByteArray):∀{l:List ay},fI l->bu (mU t l) s=bu l s+if t.f0=s then t.f1 else 0
 | [],_=>by
  simp only[mU,bu]
  omega
 | u::r,h=>by
  obtain⟨h1,h2⟩:=List.pairwise_cons.1 h
  unfold mU
  split
  ·rename_i e
   rw[bu,bu]
   by_cases hs:u.f0=s
   ·rw[if_pos hs,if_pos hs,if_pos (e▸hs)]
   ·rw[if_neg hs,if_neg hs,if_neg (fun h=>hs (e▸h))]
    omega
  ·rename_i hne
   split
   ·rename_i hlt
    rw[bu]
    by_cases hs:t.f0=s
    ·subst hs
     rw[if_pos rfl,if_pos rfl,E4 (l:=u::r) (fun v hv=>by
      rcases List.mem_cons.1 hv with rfl|hv
      ·exact hlt
      ·exact List.lt_trans hlt (h1 v hv))]
     omega
    ·rw[if_neg hs,if_neg hs]
     omega
   ·rw[bu,bu]
    by_cases hs:u.f0=s
    ·rw[if_pos hs,if_pos hs,if_neg (fun h=>hne (hs.trans h.symm))]
     omega
    ·rw[if_neg hs,if_neg hs,abV t s h2]
theorem abW (t:ay):∀l:List ay,(mU t l).length<=l.length+1
 | []=>by simp[mU]
 | u::r=>by
  have:=abW t r
  unfold mU
  split
  ·simp
  ·split
   ·simp
   ·simp only[i6];omega
def gu:List ay->ByteArray->Int
 | [],_=>0
 | t::l,s=>(if t.f0=s then t.f1 else 0)+gu l s
theorem Au (s:ByteArray):∀a b:List ay,gu (a++b) s=gu a s+gu b s
 | [],b=>by simp[gu]
 | t::a,b=>by
  rw[List.cons_append,gu,gu,Au s a b]
  omega
theorem asD (s:ByteArray){a b:List ay}(h:a.Perm b):gu a s=gu b s:=by
 induction h with
 | nil=>rfl
 | cons x _ ih=>rw[gu,gu,ih]
 | swap x y l=>simp only[gu];omega
 | trans _ _ ao2 ao3=>rw[ao2,ao3]
theorem N4:∀(l:List ay) (s:ByteArray),(∀t∈l,t.f0≠s)->gu l s=0
 | [],_,_=>rfl
 | t::l,s,h=>by
  rw[gu,if_neg (h t tA2),N4 l s (fun u hu=>h u (by simp[hu]))]
  rfl
theorem wS (s:ByteArray):∀{l:List ay},fI l->gu l s=bu l s
 | [],_=>rfl
 | t::l,h=>by
  obtain⟨h1,h2⟩:=List.pairwise_cons.1 h
  rw[gu,bu]
  by_cases hs:t.f0=s
  ·subst hs
   rw[if_pos rfl,if_pos rfl,N4 l _ (fun u hu e=>wJ (h1 u hu) e.symm)]
   omega
  ·rw[if_neg hs,if_neg hs,wS s h2]
   omega
def iw (l:List ay):List ay:=l.filter fun t=>t.f1 !=0
theorem Uv (s:ByteArray):∀{l:List ay},fI l->bu (iw l) s=bu l s
 | [],_=>rfl
 | t::l,h=>by
  obtain⟨h1,h2⟩:=List.pairwise_cons.1 h
  have ih:=Uv s h2
  unfold iw at ih ⊢
  by_cases h0:t.f1=0
  ·rw[List.filter_cons_of_neg (by simp[h0]),ih,bu]
   by_cases hs:t.f0=s
   ·subst hs
    rw[if_pos rfl,h0,E4 h1]
   ·rw[if_neg hs]
  ·rw[List.filter_cons_of_pos (by simp[h0]),bu,bu,ih]
theorem acJ {l:List ay}(h:fI l):fI (iw l):=List.Pairwise.filter _ h
theorem acI (l:List ay):∀t∈iw l,t.f1≠0:=fun t ht=>by
 have:=(List.mem_filter.1 ht).2
 simpa using this
def j4 (l:List ay):List ay:=iw (l.foldr mU [])
theorem Mt:∀l:List ay,fI (l.foldr mU [])
 | []=>List.Pairwise.nil
 | t::l=>by rw[List.foldr_cons];exact abX t (Mt l)
theorem ZI (s:ByteArray):∀l:List ay,bu (l.foldr mU []) s=gu l s
 | []=>rfl
 | t::l=>by
  rw[List.foldr_cons,abV t s (Mt l),ZI s l,gu]
  omega
theorem ZJ:∀l:List ay,(l.foldr mU []).length<=l.length
 | []=>bl _
 | t::l=>by
  have h1:=abW t (l.foldr mU [])
  have h2:=ZJ l
  rw[List.foldr_cons,i6]
  omega
theorem ZK:∀(l:List ay) (u:ay),u∈l.foldr mU []->∃v∈l,v.f0=u.f0
 | [],u,h=>tAk
 | t::l,u,h=>by
  rw[List.foldr_cons]at h
  rcases T7 t _ u h with e|⟨v,hv,e⟩
  ·exact⟨t,List.mem_cons_self,e.symm⟩
  ·obtain⟨v',hv',e'⟩:=ZK l v hv
   exact⟨v',jk _ hv',e'.trans e⟩
theorem CS (l:List ay):fI (j4 l):=acJ (Mt l)
theorem Uu (l:List ay):∀t∈j4 l,t.f1≠0:=acI _
theorem Ut (l:List ay)(s:ByteArray):bu (j4 l) s=gu l s:=by
 unfold j4
 rw[Uv s (Mt l),ZI]
theorem acD (l:List ay):(j4 l).length<=l.length:=bj (List.length_filter_le _ _) (ZJ l)
theorem NA (l:List ay)(u:ay)(h:u∈j4 l):∃v∈l,v.f0=u.f0:=ZK l u (List.mem_filter.1 h).1
theorem norm_eq {a l:List ay}(h1:fI a)(h2:∀t∈a,t.f1≠0)(h:∀s,bu a s=gu l s):a=j4 l:=
 RF h1 h2 (CS l) (Uu l) fun s=>(h s).trans (Ut l s).symm
theorem acE {l:List ay}(h1:fI l)(h2:∀t∈l,t.f1≠0):j4 l=l:=(norm_eq h1 h2 fun s=>(wS s h1).symm).symm
theorem Me:∀{l:List ay},fI l->∀t∈l,bu l t.f0=t.f1
 | [],_,t,h=>tAk
 | u::l,h,t,ht=>by
  obtain⟨h1,h2⟩:=List.pairwise_cons.1 h
  rw[bu]
  rcases List.mem_cons.1 ht with rfl|ht
  ·rw[if_pos rfl]
  ·rw[if_neg (wJ (h1 t ht)),Me h2 t ht]
def fD (a:Int)(l:List ay):List ay:=l.map fun t=>⟨t.f0,a * t.f1⟩
theorem J1 (a:Int)(s:ByteArray):∀l:List ay,gu (fD a l) s=a * gu l s
 | []=>by simp[fD,gu]
 | t::l=>by
  have ih:=J1 a s l
  unfold fD at ih ⊢
  rw[List.map_cons,gu,ih,gu,Int.mul_add]
  congr 1
  show(if t.f0=s then a * t.f1 else 0)=_
  split<;>simp
def dY (f:aj)(a:Int)(g:aj)(b:Int):aj:=⟨a * f.f0+b * g.f0,j4 (fD a f.f1++fD b g.f1)⟩
theorem adP (f:aj)(a:Int)(g:aj)(b:Int)(hf:fI f.f1)(hg:fI g.f1)(s:ByteArray):bu (dY f a g b).f1 s=a * bu f.f1 s+b * bu g.f1 s:=by
 unfold dY
 rw[Ut,Au,J1,J1,wS s hf,wS s hg]
def fR (B:Nat)(l:List ay):Prop:=∀t∈l,t.f1.natAbs<=B
theorem Vn (B:Nat)(s:ByteArray):∀{l:List ay},fR B l->(gu l s).natAbs<=l.length * B
 | [],_=>by simp[gu]
 | t::l,h=>by
  have ih:=Vn B s (l:=l) (fun u hu=>h u (jk _ hu))
  have ht:=h t List.mem_cons_self
  rw[gu,i6,Nat.add_mul,Nat.one_mul]
  split<;>omega
theorem acC {B:Nat}{l:List ay}(h:fR B l):fR (l.length * B) (j4 l):=fun t ht=>by
 rw[<- Me (CS l) t ht,Ut]
 exact Vn B _ h
theorem Gd {A B:Nat}{a:Int}{l:List ay}(ha:a.natAbs<=A)(h:fR B l):fR (A * B) (fD a l):=fun t ht=>by
 obtain⟨u,hu,rfl⟩:=List.mem_map.1 ht
 show(a * u.f1).natAbs<=_
 rw[Int.natAbs_mul]
 exact Nat.mul_le_mul ha (h u hu)
theorem adC (X s m:Nat)(e:TypeId)(L:List Value):∀(zs:List Value) (o:Nat) (W:World),m<=o->(∃cur:Array Value,W.heap[X]?=some (.cells cur e (0,0))/\cur.size=s/\cur.toList.take m=L)->∃cur:Array Value,(W.setCells X o zs).heap[X]?=some (.cells cur e (0,0))/\cur.size=s/\cur.toList.take m=L
 | [],o,W,_,h=>h
 | z::zs,o,W,hm,⟨cur,h1,h2,h3⟩=>adC X s m e L zs (o+1) (W.setCell ⟨X,o,none⟩ z) tA0 ⟨cur.setIfInBounds o z,uV h1 _ _,tBn,by
  rw[Array.toList_setIfInBounds,List.take_set,h3]
  rw[<- h3]
  exact List.set_eq_of_length_le tAg⟩
theorem adB (X:Nat):∀(zs:List Value) (o:Nat) (W:World) (k:Nat),k≠X->(W.setCells X o zs).heap[k]?=W.heap[k]?
 | [],_,_,_,_=>rfl
 | z::zs,o,W,k,hk=>(adB X zs (o+1) (W.setCell ⟨X,o,none⟩ z) k hk).trans (jZ W ⟨X,o,none⟩ z k hk)
theorem X2 {α:Type}{d:Kd α}{e g cap n:Nat}{W:World}{base:Nat}{ok:Nat->Prop}{xs:List α}(h:Kd.N d e W base ok (.slice (some ⟨g,0,none⟩) n cap) xs)(zs:List Value)(o:Nat)(ho:xs.length * d.sz<=o):
  Kd.N d e (W.setCells g o zs) base ok (.slice (some ⟨g,0,none⟩) n cap) xs:=by
 obtain⟨h0,rows,hl,⟨r0,inner,⟨q0,q1⟩,hr⟩,hf⟩:=h
 refine⟨h0,rows,hl,⟨r0,inner,⟨q0,?_⟩,hr⟩,fun j x c hx hc=>Kd.xa (hf j x c hx hc) (fun k hk _=>adB g zs o W k (fun e=>hk.2 (by rw[e];rfl)))⟩
 rcases q1 with⟨e1,_⟩|⟨g',cap',cur,e1,h2,h3,h4,h5,h6,h7⟩
 ·cases e1
 ·cases e1
  obtain⟨cur',k1,k2,k3⟩:=adC g (cap * (Kd.raw d.sz).sz) (rows.length * (Kd.raw d.sz).sz) e _ zs o W (by rw[<- hl]at ho;exact ho) ⟨cur,h3,h6,h7⟩
  exact .inr ⟨g,cap,cur',rfl,h2,k1,h4,h5,k2,k3⟩
theorem Lv {α:Type}{d:Kd α}{e g cap n:Nat}{W:World}{base:Nat}{ok:Nat->Prop}{xs:List α}(h:Kd.N d e W base ok (.slice (some ⟨g,0,none⟩) n cap) xs):∃cur:Array Value,W.heap[g]?=some (.cells cur e (0,0))/\cur.size=cap * d.sz:=by
 obtain⟨h0,rows,hl,⟨r0,inner,⟨q0,q1⟩,hr⟩,hf⟩:=h
 rcases q1 with⟨e1,_⟩|⟨g',cap',cur,e1,h2,h3,h4,h5,h6,h7⟩
 ·cases e1
 ·cases e1
  exact⟨cur,h3,h6⟩
theorem arH (W:World)(b o n c:Nat)(hn:0<n)(hc:∀j,j<n * 3->(W.cell? ⟨b,o+j,none⟩).isSome=true)(hf:∀j,j<n * 3->W.frozen? ⟨b,o+j,none⟩=false):
  ∃zs:List Value,∀ty,(Builtin.clear_ #[26] ty #[.slice (some ⟨b,o,none⟩) n c]).run Tryz.prog W= .ok (.tuple #[]) (W.setCells b o zs):=by
 have hv:∀w,(zeroValue 77).run Tryz.prog w= .ok (.agg #[.string ⟨#[]⟩,.int .i64 0,.int .i64 0]) w:=Tryz.zeroValue77
 refine⟨(Builtin.zeroCells (Value.agg #[.string ⟨#[]⟩,.int .i64 0,.int .i64 0]).cells n).toList,fun ty=>?_⟩
 have hcs:(Value.agg #[.string ⟨#[]⟩,.int .i64 0,.int .i64 0]).cells=#[.string ⟨#[]⟩,.int .i64 0,.int .i64 0]:=rfl
 have hlen:(Builtin.zeroCells (Value.agg #[.string ⟨#[]⟩,.int .i64 0,.int .i64 0]).cells n).toList.length=n * 3:=tC2
 have sH:∀v∈(Builtin.zeroCells (Value.agg #[.string ⟨#[]⟩,.int .i64 0,.int .i64 0]).cells n).toList,v.oneCell'=true:=by
  rw[hcs]
  intro v hv
  simp only[Builtin.zeroCells,Array.toList_map,List.mem_map]at hv
  obtain⟨i,_,rfl⟩:=hv
  have:i % 3=0\/i % 3=1\/i % 3=2:=tA0
  show(#[Value.string ⟨#[]⟩,Value.int .i64 0,Value.int .i64 0][i % 3]!).oneCell'=true
  rcases this with e|e|e<;>rw[e]<;>rfl
 have hst:=run_storeCells_cells (P:=Tryz.prog) b o _ 0 W tBq tCd sH
 simp only[Nat.add_zero]at hst
 obtain⟨m,rfl⟩:∃m,n=m+1:=⟨n-1,tA0⟩
 simp[Builtin.clear_,run_underlying Tryz.underlying26,hv,hst]
theorem akM {g cap:Nat}{l:List aq}{ok:Nat->Prop}{w0 W:World}(h:Kd.N cu 77 W w0.heap.size ok (.slice (some ⟨g,0,none⟩) l.length cap) l)(hc:l.length<=cap)(hm:cap<=maxLen)(i:Nat)(hi:i<l.length)(jz:Below w0.heap.size w0 W):
  Calls Tryz.prog 138 #[.slice (some ⟨g,0,none⟩) l.length cap,.int .i64 (i:Int),.int .i64 ((i:Int)+1)] W fun e w'=>e= .returned (.slice (some ⟨g,0,none⟩) (l.length-1) cap)/\Kd.N cu 77 w' w0.heap.size ok (.slice (some ⟨g,0,none⟩) (l.length-1) cap) (l.eraseIdx i)/\Below w0.heap.size w0 w':=by
 have bm:=ae h
 have ak:=ae jz
 have MT:cap<=9223372036854775807:=hm
 clear h jz hm
 have i0:(0:Int)<=(i:Int):=tA0
 have iv:(i:Int)<=(i:Int)+1:=tA0
 have i2:(i:Int)+1<=(l.length:Int):=tA0
 have i3:(l.length:Int)<=(cap:Int):=tA0
 have Jq:i<=cap:=tA0
 have i4:(0:Int)<=(i:Int)+1:=tA0
 have i5:((i:Int)==(i:Int)+1)=false:=ey.2 tA0
 go_enter Tryz.func138,Tryz.ntmps138
 go_wp2
 go_region_law (go_loud (refine Kd.X3 cu w0.heap.size tA5 (.tmp 22) (.tmp 25) 26 77 tA5 Tryz.underlying26 tA1 (k:=i) tA5 tA5 ?hA ?hm2 tDl hi tEm tDd ?_);(case hA=>go_loud (first|rfl|(simp[Addr.add];done)|(simp[Addr.add];rfl)));(case hm2=>rfl);intro w1 sF B5 hg1;have jA:=ae sF;have bI:=ae B5;clear sF B5 hg1)
 all_goals
  obtain⟨cur,oO,hsz⟩:=Lv jA.o
  have hsz':cur.size=cap * 3:=hsz
  obtain⟨zs,IU⟩:=arH w1 g ((l.length-1) * 3) (l.length- (l.length-1)) (cap- (l.length-1)) tA0 (fun k hk=>by
   rw[mj oO]
   have:(l.length-1) * 3+k<cur.size:=tA0
   simp[Array.getElem?_eq_getElem this]) (fun k hk=>ar oO _)
  have gm:=ae (X2 jA.o zs ((l.length-1) * 3) (by show(l.eraseIdx i).length * 3<=_;rw[List.length_eraseIdx_of_lt hi];exact bl _))
  have dO:=ae (BM g (Kd.eK jA.o g rfl) zs ((l.length-1) * 3) w1 bI.o)
  clear hsz hsz' oO
  have fl:(0:Int)<=((l.length-1:Nat):Int):=tA0
  have gR:((l.length-1:Nat):Int)<=(l.length:Int):=tA0
  have yA:l.length-1<=l.length:=tA0
  have hne:¬ cap=l.length-1:=tA0
  go_wp2
  all_goals go_ret
  all_goals first
   | exact⟨rfl,gm.o,dO.o⟩
   | (subst ‹cap=i+1›;exact⟨rfl,gm.o,dO.o⟩)
theorem akN {g cap:Nat}{l:List ay}{ok:Nat->Prop}{w0 W:World}(h:Kd.N cf 79 W w0.heap.size ok (.slice (some ⟨g,0,none⟩) l.length cap) l)(hc:l.length<=cap)(hm:cap<=maxLen)(i:Nat)(hi:i<l.length)(jz:Below w0.heap.size w0 W):
  Calls Tryz.prog 142 #[.slice (some ⟨g,0,none⟩) l.length cap,.int .i64 (i:Int),.int .i64 ((i:Int)+1)] W fun e w'=>e= .returned (.slice (some ⟨g,0,none⟩) (l.length-1) cap)/\Kd.N cf 79 w' w0.heap.size ok (.slice (some ⟨g,0,none⟩) (l.length-1) cap) (l.eraseIdx i)/\Kept W w' (fun k=>k=g)/\Below w0.heap.size w0 w':=by
 have bm:=ae h
 have ak:=ae jz
 have MT:cap<=9223372036854775807:=hm
 clear h jz hm
 have i0:(0:Int)<=(i:Int):=tA0
 have iv:(i:Int)<=(i:Int)+1:=tA0
 have i2:(i:Int)+1<=(l.length:Int):=tA0
 have i3:(l.length:Int)<=(cap:Int):=tA0
 have Jq:i<=cap:=tA0
 have i4:(0:Int)<=(i:Int)+1:=tA0
 have i5:((i:Int)==(i:Int)+1)=false:=ey.2 tA0
 go_enter Tryz.func142,Tryz.ntmps142
 go_wp2
 go_region_law (go_loud (refine Kd.X3 cf w0.heap.size tA5 (.tmp 22) (.tmp 25) 31 79 tA5 Tryz.underlying31 tA1 (k:=i) tA5 tA5 ?hA ?hm2 tDl hi tEm tDd ?_);(case hA=>go_loud (first|rfl|(simp[Addr.add];done)|(simp[Addr.add];rfl)));(case hm2=>rfl);intro w1 sF B5 hg1;have jA:=ae sF;have bI:=ae B5;have xm:af (Kept W w1 (fun k=>k=g)):=⟨Kept.Al hg1 (by first|exact Kept.refl _ _|exact Kept.gF (cB (Below.refl _ _)) _|exact Kept.gF (eG (Below.refl _ _) _) _) (fun k hk=> .inl (by simpa[Value.ownBlock]using hk.symm))⟩;clear sF B5 hg1)
 all_goals
  obtain⟨cur,oO,hsz⟩:=Lv jA.o
  have hsz':cur.size=cap * 2:=hsz
  obtain⟨zs,IU⟩:=U3 w1 g ((l.length-1) * 2) (l.length- (l.length-1)) (cap- (l.length-1)) tA0 (fun k hk=>by
   rw[mj oO]
   have:(l.length-1) * 2+k<cur.size:=tA0
   simp[Array.getElem?_eq_getElem this]) (fun k hk=>ar oO _)
  have gm:=ae (X2 jA.o zs ((l.length-1) * 2) (by show(l.eraseIdx i).length * 2<=_;rw[List.length_eraseIdx_of_lt hi];exact bl _))
  have dO:=ae (BM g (Kd.eK jA.o g rfl) zs ((l.length-1) * 2) w1 bI.o)
  clear hsz hsz' oO
  have fl:(0:Int)<=((l.length-1:Nat):Int):=tA0
  have gR:((l.length-1:Nat):Int)<=(l.length:Int):=tA0
  have yA:l.length-1<=l.length:=tA0
  have hne:¬ cap=l.length-1:=tA0
  go_wp2
  all_goals go_ret
  all_goals first
   | exact⟨rfl,gm.o,CP g (S:=fun k=>k=g) rfl _ _ _ xm.o,dO.o⟩
   | (subst ‹cap=i+1›;exact⟨rfl,gm.o,CP g (S:=fun k=>k=g) rfl _ _ _ xm.o,dO.o⟩)
theorem ap9 (a:ByteArray)(b:Int)(c:ByteArray)(d:Int)(W:World):Calls Tryz.prog 176 #[.agg #[.string a,.int .i64 b],.agg #[.string c,.int .i64 d]] W fun e w'=>e= .returned (.int .i64 (Lib.compareBytes a.data.toList c.data.toList))/\∃q os,w'=Go.Sort.grow (W.drewN q) os:=by
 go_enter Tryz.func176,Tryz.ntmps176
 go_wp2_with (go_at_call 111;refine(Tryz.strings_Compare a c _).mono ?_;rintro e w2 ⟨rfl,rfl⟩)
 go_ret
 exact⟨rfl,0,#[.cells #[.string a,.int .i64 b] 79,.cells #[.string c,.int .i64 d] 79],by
  rw[Go.Sort.alloc_eq_grow,Go.Sort.alloc_eq_grow,Go.Sort.grow_grow]
  rfl⟩
theorem Ux (a:ByteArray)(b:Int)(W:World):Calls Tryz.prog 177 #[.agg #[.string a,.int .i64 b]] W fun e w'=>e= .returned (.bool (decide (b=0)))/\Below W.heap.size W w':=by
 have ak:=ae (ax (Below.refl W.heap.size W) (.cells #[.string a,.int .i64 b] 79))
 by_cases h:b=0
 ·subst h
  go_enter Tryz.func177,Tryz.ntmps177
  go_wp2
  go_ret
  exact⟨rfl,ak.o⟩
 ·have hb:(b==0)=false:=ey.2 h
  rw[cE h]
  go_enter Tryz.func177,Tryz.ntmps177
  go_wp2
  go_ret
  exact⟨rfl,ak.o⟩
theorem ah5 {X cap:Nat}{l:List ay}{W:World}(h:cn W X cap l)(hl:l.length<=1000):
  Calls Tryz.prog 153 #[.slice (some ⟨X,0,none⟩) l.length cap,.func (.func 177) #[] #[]] W fun e w'=>∃r:Int,e= .returned (.int .i64 r)/\((r= -1/\∀t∈l,t.f1≠0)\/∃i0:Nat,r=(i0:Int)/\i0<l.length/\(∀t∈l.take i0,t.f1≠0)/\(l.getD i0 z79).f1=0)/\Below W.heap.size W w':=by
 have bT:=ae h
 have eg:=enters_of Tryz.func177 tA1 rfl
 clear h
 go_enter Tryz.func153,Tryz.ntmps153
 go_wp2
 go_loopg [5,8] l.length (fun bL _ kE wr=>∃kk:Nat,kk<=l.length/\l.length-kk<=bL/\kE= .int .i64 kk/\af (∀t∈l.take kk,t.f1≠0)/\af (Below W.heap.size W wr))
 case atStart=>exact⟨0,Nat.zero_le _,tA0,rfl,⟨tA2⟩,⟨Below.refl _ _⟩⟩
 case round=>
  obtain⟨kk,eO,hg,rfl,gm,ak⟩:=hrel
  by_cases hlt:kk<l.length
  ·have cp:(kk:Int)< (l.length:Int):=by omega
   have bf:=(bT.o.below ak.o).cell0 hlt
   have c1:=(bT.o.below ak.o).cell1 hlt
   have dQ:af (l.take (kk+1)=l.take kk++[l.getD kk z79]):=⟨by
    rw[kr hlt]
    simp[List.getD,b8 hlt]⟩
   obtain⟨y,jM⟩:∃y,af (l.getD kk z79=y):=⟨_,⟨rfl⟩⟩
   rw[jM.o]at bf c1 dQ
   obtain⟨aK,aC⟩:=y
   by_cases hy:aC=0
   ·have dK:=ae hy
    have HC:=ae (Ux aK aC)
    rw[bn hy]at HC
    clear hy
    go_wp2_with (go_at_fn 177)
    refine(HC.o _).mono ?_
    rintro e w2 ⟨rfl,hb⟩
    have aI:=ae (au ak.o hb)
    clear hb
    go_wp2
    go_ret
    exact⟨_,rfl,Or.inr ⟨kk,rfl,hlt,gm.o,by rw[jM.o];exact dK.o⟩,aI.o⟩
   ·have dK:=ae hy
    have HC:=ae (Ux aK aC)
    rw[cE hy]at HC
    clear hy
    go_wp2_with (go_at_fn 177)
    refine(HC.o _).mono ?_
    rintro e w2 ⟨rfl,hb⟩
    have aI:=ae (au ak.o hb)
    clear hb
    go_wp2
    go_roundg (l.length- (kk+1))
    case measure=>omega
    case rel=>exact⟨kk+1,tA0,tA0,tA7,⟨fun t ht=>by
     rw[dQ.o]at ht
     rcases List.mem_append.1 ht with ht|ht
     ·exact gm.o t ht
     ·rw[il.1 ht];exact dK.o⟩,aI⟩
  ·have cp:¬ (kk:Int)< (l.length:Int):=by omega
   have di:kk=l.length:=tA0
   have p6:=gm.o
   rw[di,fJ]at p6
   have e5:=ae p6
   clear p6 di
   go_wp2
   go_ret
   exact⟨_,rfl,Or.inl ⟨rfl,e5.o⟩,ak.o⟩
theorem acH {l:List ay}(h:∀t∈l,t.f1≠0):iw l=l:=List.filter_eq_self.2 fun t ht=>by simpa using h t ht
theorem Uw (l:List ay)(t:ay):iw (l++[t])=if t.f1=0 then iw l else iw l++[t]:=by
 unfold iw
 rw[List.filter_append]
 by_cases h:t.f1=0
 ·rw[if_pos h,List.filter_cons_of_neg tAl]
  simp
 ·rw[if_neg h,List.filter_cons_of_pos tAl]
  simp
theorem Vo {α:Type}(l:List α)(i:Nat)(x:α)(h:i<l.length):(l.set i x).take (i+1)=l.take i++[x]:=by
 rw[kr tAi]
 simp[List.take_set_of_le]
theorem OJ {X cap:Nat}{l:List ay}{w0 W:World}(h:cn W X cap l)(hl:l.length<=1000)(hX:w0.heap.size<=X)(hB:Below w0.heap.size w0 W):
  Calls Tryz.prog 106 #[.slice (some ⟨X,0,none⟩) l.length cap,.func (.func 177) #[] #[]] W fun e w'=>e= .returned (.slice (some ⟨X,0,none⟩) (iw l).length cap)/\cn w' X cap (iw l)/\Kept W w' (fun k=>k=X)/\Below w0.heap.size w0 w':=by
 have bT:=ae h
 have ak:=ae hB
 have eg:=enters_of Tryz.func177 tA1 rfl
 have nE:=ae (ah5 h hl)
 clear h hB
 go_enter Tryz.func106,Tryz.ntmps106
 go_wp2_with (go_at_call 153;refine nE.o.mono ?_;rintro e w1 ⟨r,rfl,hr,hb⟩;have bI:=ae hb;have fM:=ae (bT.o.below hb);clear hb;obtain⟨fW,hz⟩|⟨i0,fW,ru,hz,hz0⟩:=hr)
 ·have gm:af (iw l=l):=⟨acH hz⟩
  rw[gm.o]
  clear hz
  subst fW
  go_wp2
  go_ret
  exact⟨rfl,fM.o,Kept.gF bI.o _,cm ak.o ak.o.size bI.o⟩
 ·subst fW
  have hr1:((i0:Int)== -1)=false:=ey.2 tA0
  have bA:=ae (cm ak.o ak.o.size bI.o)
  have gm:af (iw (l.take (i0+1))=l.take i0):=⟨by
   rw[kr ru,Uw,if_pos (by simpa[List.getD,b8 ru]using hz0),acH hz]⟩
  clear hz hz0
  go_wp2
  go_loopg [5,6,7] l.length (fun bL tQ qG _ wr=>∃(i j:Nat) (cur:List ay),i<j/\j<=l.length/\l.length-j<=bL/\tQ= .int .i64 i/\qG= .int .i64 j/\cur.length=l.length/\af (cur.take i=iw (l.take j))/\af (cur.drop j=l.drop j)/\af (cn wr X cap cur)/\af (Kept W wr (fun k=>k=X))/\af (Below w0.heap.size w0 wr))
  case atStart=>exact⟨i0,i0+1,l,tA0,tA0,tA0,rfl,tA7,rfl,⟨gm.o.symm⟩,⟨rfl⟩,fM,⟨Kept.gF bI.o _⟩,bA⟩
  case round=>
   obtain⟨i,j,cur,Ce,hj,hg,rfl,rfl,gN,HC,HD,b9,HK,dX⟩:=hrel
   by_cases hlt:j<l.length
   ·have cp:(j:Int)< (l.length:Int):=by omega
    have IY:(i:Int)< (l.length:Int):=tA0
    have bf:=b9.o.cell0 (j:=j) tA0
    have c1:=b9.o.cell1 (j:=j) tA0
    have dQ:af (l.take (j+1)=l.take j++[cur.getD j z79]):=⟨by
     rw[kr hlt]
     have hj':j<cur.length:=tA0
     have h1:=congrArg (fun x=>x[0]?) HD.o
     simp only[List.getElem?_drop,Nat.add_zero]at h1
     rw[b8 hj',b8 hlt]at h1
     have h2:=bo h1
     simp[List.getD,b8 hj',h2]⟩
    have eJ:=ae gN
    clear gN
    generalize cur.getD j z79=y at *
    obtain⟨aK,aC⟩:=y
    have ie:=ae (ax (Below.refl wr.heap.size wr) (.cells #[.string aK,.int .i64 aC] 79))
    have ki:=ae (a8 wr (.cells #[.string aK,.int .i64 aC] 79))
    have KC:=ae (Ux aK aC)
    by_cases hy:aC=0
    ·rw[bn hy]at KC
     have bm:af (iw (l.take (j+1))=iw (l.take j)):=⟨by rw[dQ.o,Uw,if_pos hy]⟩
     clear hy
     go_wp2_with (go_at_fn 177)
     refine(KC.o _).mono ?_
     rintro e w2 ⟨rfl,hb⟩
     have aI:=ae (au ie.o hb)
     clear hb bf c1
     have e9:=ae (b9.o.below aI.o)
     have dP:=ae (HK.o.below aI.o)
     have o7:=ae (cm dX.o dX.o.size aI.o)
     go_wp2
     go_roundg (l.length- (j+1))
     case measure=>omega
     case rel=>exact⟨i,j+1,cur,tA0,tA0,tA0,rfl,tA7,eJ.o,⟨by rw[bm.o];exact HC.o⟩,⟨by
      have:=congrArg (List.drop 1) HD.o
      rwa[List.drop_drop,List.drop_drop]at this⟩,e9,dP,o7⟩
    ·rw[cE hy]at KC
     have bm:af (iw (l.take (j+1))=iw (l.take j)++[⟨aK,aC⟩]):=⟨by rw[dQ.o,Uw,if_neg hy]⟩
     clear hy
     go_wp2_with (go_at_fn 177)
     refine(KC.o _).mono ?_
     rintro e w2 ⟨rfl,hb⟩
     have aI:=ae (au ie.o hb)
     have gJ:=ae (av ki.o hb)
     clear hb bf c1
     have e9:=ae (b9.o.below aI.o)
     have dP:=ae (HK.o.below aI.o)
     have o7:=ae (cm dX.o dX.o.size aI.o)
     have z0:w2.cell? ⟨wr.heap.size,0,none⟩=some (.string aK):=ah gJ.o 0
     have c2:w2.cell? ⟨wr.heap.size,1,none⟩=some (.int .i64 aC):=ah gJ.o 1
     have s0:=e9.o.cell0 (j:=i) tAy
     have s1:=e9.o.cell1 (j:=i) tAy
     have f0:=e9.o.frozen (i * 2)
     have f1:=e9.o.frozen (i * 2+1)
     have sJ:=e9.o.lt
     go_wp2
     go_roundg (l.length- (j+1))
     case measure=>omega
     case rel=>exact⟨i+1,j+1,cur.set i ⟨aK,aC⟩,tA0,tA0,tA0,tA7,tA7,tC4,⟨by rw[bm.o,Vo _ _ _ tAy,HC.o]⟩,⟨by
      rw[List.drop_set_of_lt tA0]
      have:=congrArg (List.drop 1) HD.o
      rwa[List.drop_drop,List.drop_drop]at this⟩,⟨e9.o.set i aK aC⟩,⟨fN (p:=⟨X,i * 2+1,none⟩) (fN (p:=⟨X,i * 2,none⟩) dP.o (.inl rfl) _) (.inl rfl) _⟩,⟨(o7.o.setCell (p:=⟨X,i * 2,none⟩) hX _).setCell (p:=⟨X,i * 2+1,none⟩) hX _⟩⟩
   ·have cp:¬ (j:Int)< (l.length:Int):=by omega
    have mG:j=l.length:=tA0
    subst mG
    have B9:l.length<=cap:=by
     obtain⟨_,_,h2,_⟩:=bT.o
     exact h2
    obtain⟨zs,IU⟩:=U3 wr X (i * 2) (l.length-i) (cap-i) tA0 (fun k hk=>by
     have:∃u,(jv cur)[i * 2+k]?=some u:=⟨_,b8 (by rw[zK,gN];omega)⟩
     obtain⟨u,hu⟩:=this
     rw[b9.o.cells _ u hu]
     rfl) (fun k hk=>b9.o.frozen _)
    have eJ:=ae gN
    have fx:af (iw l=cur.take i):=⟨by rw[HC.o,fJ]⟩
    have A7:af ((cur.take i).length=i):=⟨tAg⟩
    clear gN
    have Sr:(0:Int)<=(i:Int):=tA0
    have mJ:(i:Int)<=(l.length:Int):=tA0
    have Te:(i:Int)<=(cap:Int):=tA0
    have hne:¬ cap=i:=tA0
    go_wp2
    go_ret
    exact⟨by rw[fx.o,A7.o];rfl,by rw[fx.o];exact b9.o.clear i tAy zs,CP X (S:=fun k=>k=X) rfl _ _ _ HK.o,BM X hX _ _ _ dX.o⟩
theorem ass {d:Array ay}(h:Go.Sort.SortedIn (ltOf uX) 0 d.size d):d.toList.Pairwise fun s t=>¬ t.f0.data.toList<s.f0.data.toList:=by
 refine List.pairwise_iff_getElem.2 fun i j hi hj Ce=>?_
 have hj':j<d.size:=tAv
 have hi':i<d.size:=by simpa using hi
 have:=h i j (Nat.zero_le _) Ce hj'
 rw[Nw,getElem!_pos d j hj',getElem!_pos d i hi']at this
 have:=of_decide_eq_false this
 simpa using this
theorem ah8 {X cap:Nat}{l:List ay}{w0 W:World}(h:cn W X cap l)(hl:l.length<=1000)(hX:w0.heap.size<=X)(hB:Below w0.heap.size w0 W):
  Calls Tryz.prog 185 #[.slice (some ⟨X,0,none⟩) l.length cap,.int .i64 0,.int .i64 (l.length:Int),.func (.func 176) #[] #[]] W fun e w'=>e= .returned (.tuple #[])/\∃l':List ay,l'.length=l.length/\af (l'.Perm l)/\af (l'.Pairwise fun s t=>¬ t.f0.data.toList<s.f0.data.toList)/\cn w' X cap l'/\Kept W w' (fun k=>k=X)/\Below w0.heap.size w0 w':=by
 have eg:∀args w,(callFunc 176 args).run Tryz.prog w= .ok (.enter 176 args) w:=enters_of Tryz.func176 tA1 rfl
 have hcon:=AnyQ.insertionSortCmpFunc (P:=Tryz.prog) (ρ:=Tryz.adL) { Tryz.adK with} 2 (fun w=>Tryz.isAgg79 w) (fun w=>Tryz.sizeOf79 w) nQ (fun _=>rfl) (fun t v hv=>by
  simp only[nQ,List.mem_cons,List.not_mem_nil,or_false]at hv
  rcases hv with rfl|rfl<;>rfl) uX 176 #[] X 0 cap 0 l.length l.toArray W eg (fun m os dk hs x y=>by
   exact ap9 x.f0 x.f1 y.f0 y.f1 _) h.holds h.lt (Nat.zero_le _) tA2 tAb
 change Calls Tryz.prog 185 _ _ _ at hcon
 have e0:l.toArray.size=l.length:=tA2
 rw[e0]at hcon
 obtain⟨hp,hs⟩:=Go.Sort.insertionSort_holds (lt:=ltOf uX) adR l.toArray 0 l.length (Nat.zero_le _) tA2
 refine hcon.mono fun e w' ⟨he,n,os,hw⟩=>⟨he,(Go.Sort.insertionSort (ltOf uX) l.toArray 0 l.length).toList,?_,?_,?_,?_,?_,?_⟩
 ·rw[Array.length_toList,hp.1,e0]
 ·refine⟨?_⟩
  have:=hp.2.2
  rwa[show(Go.Sort.insertionSort (ltOf uX) l.toArray 0 l.length).extract 0 l.length=Go.Sort.insertionSort (ltOf uX) l.toArray 0 l.length by
   have e1:l.length=(Go.Sort.insertionSort (ltOf uX) l.toArray 0 l.length).size:=by rw[hp.1,e0]
   conv=>lhs;arg 3;rw[e1]
   simp,show l.toArray.extract 0 l.length=l.toArray by rw[<- e0];simp]at this
 ·refine⟨ass ?_⟩
  rw[hp.1,e0]
  exact hs
 ·rw[hw];exact h.sorted (by rw[hp.1,e0])
 ·rw[hw];exact N3 W X n _ os
 ·rw[hw];exact Vk X n _ os hB hX
theorem ah9 (X:Option Addr)(w:World)(c:Nat):Calls Tryz.prog 185 #[.slice X 0 c,.int .i64 0,.int .i64 0,.func (.func 176) #[] #[]] w fun e w'=>e= .returned (.tuple #[])/\w'=w:=by
 go_enter Tryz.func185,Tryz.ntmps185
 go_wp2
 go_loopg [8,9] 1 (fun bL kE _ wr=>kE= .int .i64 1/\wr=w)
 case atStart=>exact⟨rfl,rfl⟩
 case round=>
  obtain⟨rfl,rfl⟩:=hrel
  go_wp2
  go_end0
  exact⟨rfl,rfl⟩
theorem aji {X:Option Addr}{cap n:Nat}{w:World}{Q:World->Prop}(hn:n<20)(h:Calls Tryz.prog 185 #[.slice X n cap,.int .i64 0,.int .i64 (n:Int),.func (.func 176) #[] #[]] w fun e w'=>e= .returned (.tuple #[])/\Q w'):
  Calls Tryz.prog 206 #[.slice X n cap,.int .i64 (n:Int),.func (.func 176) #[] #[]] w fun e w'=>e= .returned (.tuple #[])/\Q w':=by
 have HS:=ae h
 have mL:¬ (20:Int)<=(n:Int):=tA0
 have vk:¬ (20:Int)< (n:Int):=tA0
 clear h
 go_enter Tryz.func206,Tryz.ntmps206
 go_wp2
 go_loopg [7,8] 1 (fun bL Dz kE wr=>Dz= .int .i64 0/\kE= .int .i64 20/\wr=w)
 case atStart=>exact⟨rfl,rfl,rfl⟩
 case round=>
  obtain⟨rfl,rfl,rfl⟩:=hrel
  go_wp2_with (go_at_call 185;refine HS.o.mono ?_;rintro e w2 ⟨rfl,hq⟩;have dK:=ae hq;clear hq)
  go_loopg [6,7,8,9] 1 (fun bL qG Dz kE _ wr=>qG= .int .i64 20/\af (Q wr))
  case atStart=>exact⟨rfl,dK⟩
  case round=>
   clear dK
   obtain⟨rfl,dK⟩:=hrel
   go_wp2
   go_end0
   exact⟨rfl,dK.o⟩
theorem Yg {X:Option Addr}{cap n:Nat}{w:World}{Q:World->Prop}(hn:n<20)(h:Calls Tryz.prog 185 #[.slice X n cap,.int .i64 0,.int .i64 (n:Int),.func (.func 176) #[] #[]] w fun e w'=>e= .returned (.tuple #[])/\Q w'):
  Calls Tryz.prog 175 #[.slice X n cap,.func (.func 176) #[] #[]] w fun e w'=>e= .returned (.tuple #[])/\Q w':=by
 have HS:=ae (aji hn h)
 clear h
 go_enter Tryz.func175,Tryz.ntmps175
 go_wp2_with (go_at_call 206;refine HS.o.mono ?_;rintro e w2 ⟨rfl,hq⟩;have dK:=ae hq;clear hq)
 go_end0
 exact⟨rfl,dK.o⟩
theorem afb (X:Option Addr)(c:Nat)(w:World):Calls Tryz.prog 106 #[.slice X 0 c,.func (.func 177) #[] #[]] w fun e w'=>e= .returned (.slice X 0 c)/\w'=w:=by
 have nE:af (Calls Tryz.prog 153 #[.slice X 0 c,.func (.func 177) #[] #[]] w fun e w'=>e= .returned (.int .i64 (-1))/\w'=w):=⟨by
  go_enter Tryz.func153,Tryz.ntmps153
  go_wp2
  go_loopg [5,8] 1 (fun bL _ kE wr=>kE= .int .i64 0/\wr=w)
  case atStart=>exact⟨rfl,rfl⟩
  case round=>
   obtain⟨rfl,rfl⟩:=hrel
   go_wp2
   go_ret
   exact⟨rfl,rfl⟩⟩
 go_enter Tryz.func106,Tryz.ntmps106
 go_wp2_with (go_at_call 153;refine nE.o.mono ?_;rintro e w2 ⟨rfl,rfl⟩)
 go_ret
 exact⟨rfl,rfl⟩
def nK (p out:List ay):Prop:=fI out/\(∀s,gu out s=gu p s)/\∀u∈out,∃v∈p,v.f0=u.f0
theorem nK.nil:nK [] []:=⟨List.Pairwise.nil,fun _=>rfl,fun u h=>tAk⟩
theorem nK.le {p out:List ay}{t:ay}(h:nK p out)(hs:(p++[t]).Pairwise fun s t=>¬ t.f0.data.toList<s.f0.data.toList):∀u∈out,¬ t.f0.data.toList<u.f0.data.toList:=fun u hu=>by
 obtain⟨v,hv,e⟩:=h.2.2 u hu
 rw[<- e]
 exact(List.pairwise_append.1 hs).2.2 v hv t tA2
theorem nK.new {p out:List ay}{t:ay}(h:nK p out)(hs:(p++[t]).Pairwise fun s t=>¬ t.f0.data.toList<s.f0.data.toList)(hn:∀u∈out,u.f0≠t.f0):nK (p++[t]) (out++[t]):=by
 refine⟨List.pairwise_append.2 ⟨h.1,tA2,fun u hu v hv=>?_⟩,fun s=>?_,fun u hu=>?_⟩
 ·rw[il.1 hv]
  rcases Ny u.f0 t.f0 with a|a|a
  ·exact a
  ·exact absurd a (hn u hu)
  ·exact absurd a (h.le hs u hu)
 ·rw[Au,Au,h.2.1]
 ·rcases List.mem_append.1 hu with hu|hu
  ·obtain⟨v,hv,e⟩:=h.2.2 u hu
   exact⟨v,List.mem_append_left _ hv,e⟩
  ·exact⟨t,tA2,by rw[il.1 hu]⟩
theorem nK.fresh {p init:List ay}{u t:ay}(h:nK p (init++[u]))(hs:(p++[t]).Pairwise fun s t=>¬ t.f0.data.toList<s.f0.data.toList)(hn:u.f0≠t.f0):∀x∈init++[u],x.f0≠t.f0:=by
 have hu:=h.le hs u tA2
 have TR:u.f0.data.toList<t.f0.data.toList:=by
  rcases Ny u.f0 t.f0 with a|a|a
  ·exact a
  ·exact absurd a hn
  ·exact absurd a hu
 intro x hx
 rcases List.mem_append.1 hx with hx|hx
 ·exact wJ (List.lt_trans ((List.pairwise_append.1 h.1).2.2 x hx u tA2) TR)
 ·rw[il.1 hx];exact hn
theorem nK.old {p init:List ay}{u t:ay}(h:nK p (init++[u]))(e:u.f0=t.f0):nK (p++[t]) (init++[⟨u.f0,u.f1+t.f1⟩]):=by
 obtain⟨h1,h2,h3⟩:=h
 obtain⟨a1,a2,a3⟩:=List.pairwise_append.1 h1
 refine⟨List.pairwise_append.2 ⟨a1,tA2,fun x hx v hv=>?_⟩,fun s=>?_,fun x hx=>?_⟩
 ·rw[il.1 hv]
  exact a3 x hx u tA2
 ·have:=h2 s
  rw[Au]at this
  rw[Au,Au,<- this]
  simp only[gu,<- e]
  split<;>omega
 ·rcases List.mem_append.1 hx with hx|hx
  ·obtain⟨v,hv,e⟩:=h3 x (by simp[hx])
   exact⟨v,List.mem_append_left _ hv,e⟩
  ·rw[il.1 hx]
   obtain⟨v,hv,e⟩:=h3 u tA2
   exact⟨v,List.mem_append_left _ hv,e⟩
theorem nK.bound {p init:List ay}{u:ay}{B:Nat}(h:nK p (init++[u]))(hb:fR B p):u.f1.natAbs<=p.length * B:=by
 rw[<- Me h.1 u tA2,<- wS _ h.1,h.2.1]
 exact Vn B _ hb
theorem nK.norm {p l out:List ay}(h:nK p out)(hp:p.Perm l):iw out=j4 l:=
 norm_eq (acJ h.1) (acI _) fun s=>by rw[Uv s h.1,<- wS s h.1,h.2.1,asD s hp]
theorem Zz (b:Int):∀(l:List ay) (j:Nat),(jv l).set (j * 2+1) (.int .i64 b)=jv (l.set j ⟨(l.getD j z79).f0,b⟩)
 | [],j=>rfl
 | t::l,0=>rfl
 | t::l,j+1=>by
  rw[zJ,show(j+1) * 2+1=j * 2+1+1+1 by omega,List.set_cons_succ,List.set_cons_succ,Zz b l j]
  rfl
theorem cn.adv {W:World}{X cap:Nat}{l:List ay}(h:cn W X cap l)(j:Nat)(b:Int):cn (W.setCell ⟨X,j * 2+1,none⟩ (.int .i64 b)) X cap (l.set j ⟨(l.getD j z79).f0,b⟩):=by
 obtain⟨cur,h1,h2,h3,h4,h5⟩:=h
 refine⟨cur.setIfInBounds (j * 2+1) (.int .i64 b),uV h1 _ _,tD1,h3,by simpa using h4,?_⟩
 rw[List.length_set,Array.toList_setIfInBounds,List.take_set,h5,Zz]
theorem JJ {g n c:Nat}:(fun k=>some k=(Value.slice (some ⟨g,0,none⟩) n c).ownBlock)=fun k=>k=g:=by
 funext k
 simp[Value.ownBlock,eq_comm]
theorem aje {X:Option Addr}{c:Nat}{l:List ay}{w0 W:World}(h:Kd.N cf 79 W w0.heap.size (fun k=>some k=(Value.slice X l.length c).ownBlock) (.slice X l.length c) l)(hl:l.length<20)(hB:Below w0.heap.size w0 W):
  Calls Tryz.prog 175 #[.slice X l.length c,.func (.func 176) #[] #[]] W fun e w'=>e= .returned (.tuple #[])/\∃l':List ay,l'.length=l.length/\af (l'.Perm l)/\af (l'.Pairwise fun s t=>¬ t.f0.data.toList<s.f0.data.toList)/\af (Kd.N cf 79 w' w0.heap.size (fun k=>some k=(Value.slice X l.length c).ownBlock) (.slice X l.length c) l')/\af (Below w0.heap.size w0 w'):=by
 by_cases e0:l=[]
 ·subst e0
  exact Yg tA3 ((ah9 X W c).mono fun e w' ⟨he,hw⟩=>⟨he,[],rfl,⟨List.Perm.refl _⟩,⟨List.Pairwise.nil⟩,⟨hw▸h⟩,⟨hw▸hB⟩⟩)
 ·obtain⟨Y,cap,e,hY,wq,hT⟩:=cn.FZ h e0
  simp only[Value.slice.injEq]at e
  obtain⟨rfl,_,rfl⟩:=e
  refine Yg hl ((ah8 hT tA0 wq hB).mono fun e w' ⟨he,l',hl',hp,hs,SJ,hk,hb⟩=>⟨he,l',hl',hp,hs,⟨?_⟩,⟨hb⟩⟩)
  rw[JJ,<- hl']
  exact cn.Gs SJ wq
theorem ae7 {X:Option Addr}{c:Nat}{l:List ay}{w0 W:World}(h:Kd.N cf 79 W w0.heap.size (fun k=>some k=(Value.slice X l.length c).ownBlock) (.slice X l.length c) l)(hl:l.length<=1000)(hB:Below w0.heap.size w0 W):
  Calls Tryz.prog 106 #[.slice X l.length c,.func (.func 177) #[] #[]] W fun e w'=>e= .returned (.slice X (iw l).length c)/\af (Kd.N cf 79 w' w0.heap.size (fun k=>some k=(Value.slice X (iw l).length c).ownBlock) (.slice X (iw l).length c) (iw l))/\af (Kept W w' (fun k=>some k=(Value.slice X l.length c).ownBlock))/\af (Below w0.heap.size w0 w'):=by
 by_cases e0:l=[]
 ·subst e0
  exact(afb X c W).mono fun e w' ⟨he,hw⟩=>⟨he,⟨hw▸h⟩,⟨hw▸Kept.refl _ _⟩,⟨hw▸hB⟩⟩
 ·obtain⟨Y,cap,e,hY,wq,hT⟩:=cn.FZ h e0
  simp only[Value.slice.injEq]at e
  obtain⟨rfl,_,rfl⟩:=e
  refine(OJ hT hl wq hB).mono fun e w' ⟨he,SJ,hk,hb⟩=>⟨he,⟨?_⟩,⟨?_⟩,⟨hb⟩⟩
  ·rw[JJ]
   exact cn.Gs SJ wq
  ·rw[JJ]
   exact hk
theorem j2 {α:Type}(l:List α)(x:α):(l++[x]).length=l.length+1:=tA2
theorem ZR (init:List ay)(u:ay):(init++[u]).getD init.length z79=u:=by simp[List.getD]
theorem asb (init:List ay)(u v:ay):(init++[u]).set init.length v=init++[v]:=by
 rw[List.set_append]
 simp
theorem asj {α:Type}(l:List α):l=[]\/∃init u,l=init++[u]:=by
 rcases List.eq_nil_or_concat l with h|⟨i,u,h⟩
 ·exact Or.inl h
 ·exact Or.inr ⟨i,u,tAi⟩
theorem NI {A:Option Addr}{n m c c':Nat}:(Value.slice A n c).ownBlock=(Value.slice A m c').ownBlock:=by cases A<;>rfl
theorem dM {B B':Nat}{w w':World}(h:Below B w w')(hb:B'<=B):Below B' w w':=⟨h.os,h.tape,h.output,h.size,fun i hi=>h.block i (fy hi hb)⟩
theorem X9 {A:Option Addr}{c:Nat}{l:List ay}{w:World}(h:Kd.C cf w A l.length l)(hl:l.length<20)(hb:fR 1000000000000 l)(n:Int):
  Calls Tryz.prog 140 #[.int .i64 n,.slice A l.length c] w fun e w'=>∃X cap,e= .returned (.agg #[.int .i64 n,.slice X (j4 l).length cap])/\Kd.N cf 79 w' w.heap.size (fun k=>some k=(Value.slice X (j4 l).length cap).ownBlock) (.slice X (j4 l).length cap) (j4 l)/\Below w.heap.size w w':=by
 have jK:=ae hb
 have bI:=ae (ax (Below.refl w.heap.size w) (.cells #[.int .i64 0,.slice none 0 0] 33))
 have cJ:=ae (a8 w (.cells #[.int .i64 0,.slice none 0 0] 33))
 have jc:=ae (RH (c:=c) (Kd.bN h bI.o) tA0)
 clear h hb
 go_enter Tryz.func140,Tryz.ntmps140
 go_wp2_with (first|(go_at_call 107;refine jc.o.mono ?_;rintro e w2 ⟨X,cap,rfl,hN,hb⟩;have gJ:=ae (tk B4 hN);have aI:=ae hb;clear hN hb)|(go_at_call 175;refine(aje gJ.o hl aI.o).mono ?_;rintro e w3 ⟨rfl,l',hl',ig,HS,mD,bS⟩;have eC:=ae (bS.o.block _ tA2 |>.trans cJ.o);have GZ:=ae (au bI.o bS.o);have Xj:=ae (Kd.ej mD.o).2.2;clear gJ aI jc))
 have pV:=ae hl'
 go_loopg [8,9,18] l.length (fun bL _ _ arP wr=>∃(kk:Nat) (out:List ay) (v:Value),kk<=l.length/\l.length-kk<=bL/\arP= .int .i64 kk/\af (nK (l'.take kk) out)/\af (out.length<=kk)/\af (Kd.N cf 79 wr (w3.heap.size+1) (fun k=>some k=v.ownBlock) v out)/\af (wr.heap[w3.heap.size]?=some (.cells #[.int .i64 n,v] 33 (0,0)))/\af (Below w3.heap.size w3 wr))
 case atStart=>exact⟨0,[],.slice none 0 0,Nat.zero_le _,tA0,rfl,⟨nK.nil⟩,⟨bl _⟩,⟨Kd.i1 _ _ _ _ _⟩,⟨a8 w3 _⟩,⟨ax (Below.refl _ _) _⟩⟩
 case round=>
  obtain⟨kk,out,v,eO,hg,rfl,dC,jB,bm,cv,bA⟩:=hrel
  obtain⟨fu,eo,rfl⟩:=Kd.c3 bm.o
  have JA:=bA.o.size
  by_cases hlt:kk<l.length
  ·have kA:kk<l'.length:=by omega
   have cp:(kk:Int)< (l.length:Int):=tA0
   obtain⟨ad,e,x0,x1⟩:=jD Xj.o (kk:Int) tA0 tA0
   cases e
   simp only[eQ]at x0 x1
   replace x0:=bw bA.o x0
   replace x1:=bw bA.o x1
   have b9:af (l'.take (kk+1)=l'.take kk++[aJ l' (kk:Int)]):=⟨by
    rw[kr kA]
    simp[aJ,List.getD,b8 kA]⟩
   have xG:af (aJ l' (kk:Int)∈l'):=⟨Ah l' kk kA⟩
   have Eg:af ((l'.take kk++[aJ l' (kk:Int)]).Pairwise fun s t=>¬ t.f0.data.toList<s.f0.data.toList):=⟨by
    rw[<- b9.o]
    exact HS.o.sublist (List.take_sublist _ _)⟩
   have G1:af (fR 1000000000000 l'):=⟨fun t ht=>jK.o t (ig.o.mem_iff.1 ht)⟩
   generalize aJ l' (kk:Int)=t at *
   obtain⟨t0,t1⟩:=t
   rcases asj out with rfl|⟨init,u,rfl⟩
   ·have x3:wr.cell? ⟨w3.heap.size,0,none⟩=some (.int .i64 n):=ah cv.o 0
    have uf:wr.cell? ⟨w3.heap.size,1,none⟩=some (.slice fu 0 eo):=ah cv.o 1
    have f4:=ar cv.o 1
    have sJ:=az cv.o
    have bR:=ae (ax (Below.refl wr.heap.size wr) (.cells #[.string t0,.int .i64 t1] 79))
    go_wp2
    go_quiet (fail)
    go_wp2_with (at_builtin;(refine Kd.oF cf (w3.heap.size+1) rfl (.tmp 51) (.tmp 53) 31 79 (.agg #[.string ⟨#[]⟩,.int .i64 0]) 24 rfl Tryz.underlying31 Ac rfl tA3 tA3 (.slice fu 0 eo) [] ⟨t0,t1⟩ [.string t0,.int .i64 t1] (fun k=>some k=(Value.slice fu 0 eo).ownBlock\/w3.heap.size+1<=k) (fun _=>False) rfl (Eq.trans (b:=Value.slice (some ⟨wr.heap.size+1,0,none⟩) 1 1) rfl tA2) (yh _ _ _) (fun _ h=>h.elim) (fun _ h=> .inr tBh) (Kd.et (Kd.dz bm.o (eG bR.o _)) (fun _ h=> .inl h)) (Below.refl _ _) tAb tA3 ?_;intro v6 aY cd cG dI fh;obtain⟨dn,c6,rfl⟩:=Kd.c3 cd;have eR:aY.heap[w3.heap.size]?=some (.cells #[.int .i64 n,.slice fu 0 eo] 33 (0,0)):=(cG.block _ (Nat.lt_succ_self _)).trans (((eG bR.o _).block _ sJ).trans cv.o);have hE:=ae eR;have AJ:aY.cell? ⟨w3.heap.size,1,none⟩=some (.slice fu 0 eo):=(mj eR 1).trans rfl;have f6:=ar eR 1;have vu:=az eR;have dr:=ae (tk B4 cd);have cP:=ae ((eG (cm bA.o bA.o.size bR.o) nq).trans (dM cG (Nat.le_succ _)));clear cd cG dI fh eR))
    go_roundg (l.length- (kk+1))
    case measure=>omega
    case rel=>exact⟨kk+1,[⟨t0,t1⟩],.slice dn 1 c6,tA0,tA0,tA7,⟨by rw[b9.o];exact dC.o.new Eg.o tA2⟩,⟨tA2⟩,⟨Kd.cw (p:=⟨w3.heap.size,1,none⟩) dr.o (fun k hk=>tDr) _⟩,⟨a6 hE.o 1 _ rfl⟩,⟨cP.o.setCell (p:=⟨w3.heap.size,1,none⟩) (bl _) _⟩⟩
   ·obtain⟨Y,akd,e,hY,wq,yl⟩:=cn.FZ bm.o tA2
    simp only[Value.slice.injEq]at e
    obtain⟨rfl,_,rfl⟩:=e
    have zq:=ae yl
    have bf:=yl.cell0 (j:=init.length) tA2
    have c1:=yl.cell1 (j:=init.length) tA2
    have f1:=yl.frozen (init.length * 2+1)
    have apu:=yl.lt
    rw[ZR]at bf c1
    have ahF:=ae (dC.o.bound (B:=1000000000000) (fun t ht=>G1.o t (List.mem_of_mem_take ht)))
    have q9:=ae (G1.o _ xG.o)
    rw[j2]at cv bm jB
    have x3:wr.cell? ⟨w3.heap.size,0,none⟩=some (.int .i64 n):=ah cv.o 0
    have uf:wr.cell? ⟨w3.heap.size,1,none⟩=some (.slice (some ⟨Y,0,none⟩) (init.length+1) eo):=ah cv.o 1
    have f4:=ar cv.o 1
    have sJ:=az cv.o
    have bR:=ae (ax (Below.refl wr.heap.size wr) (.cells #[.string t0,.int .i64 t1] 79))
    obtain⟨u0,u1⟩:=u
    obtain⟨m,xw⟩:∃m,af (init.length=m):=⟨_,⟨rfl⟩⟩
    rw[xw.o]at bf c1 f1 uf cv bm jB
    clear yl hY wq
    have MV:(m:Int)< (m:Int)+1:=tA0
    have FD:(0:Int)<=(m:Int):=tA0
    have axj:IntKind.i64.wrap (m:Int)=(m:Int):=by rw[IntKind.wrap_i64];have:=jB.o;omega
    by_cases he:u0=t0
    ·have heq:(u0.toList==t0.toList)=true:=by rw[beq_iff_eq,he]
     have fx:=ae he
     clear he
     have Bv:af (wrap64 (u1+t1)=u1+t1):=⟨eM _ (by have h1:=ahF.o;have h2:=q9.o;have h3:(l'.take kk).length<=20:= tAg;simp only at h1 h2;omega)⟩
     have ag3:af (∀W:World,cn W Y eo (init++[⟨u0,u1⟩])->Kd.N cf 79 (W.setCell ⟨Y,m * 2+1,none⟩ (.int .i64 (wrap64 (u1+t1)))) (w3.heap.size+1) (fun k=>some k=(Value.slice (some ⟨Y,0,none⟩) (m+1) eo).ownBlock) (.slice (some ⟨Y,0,none⟩) (m+1) eo) (init++[⟨u0,u1+t1⟩])):=⟨fun W hT=>by
      have h1:=hT.adv m (u1+t1)
      rw[<- xw.o,ZR,asb,xw.o]at h1
      rw[Bv.o]
      have h2:=cn.Gs h1 (Kd.eK bm.o Y rfl)
      rw[j2,xw.o]at h2
      rw[JJ]
      exact h2⟩
     have nJ:af (w3.heap.size+1<=Y):=⟨Kd.eK bm.o Y rfl⟩
     go_wp2
     go_quiet (fail)
     go_wp2
     go_region_law (fail)
     all_goals
      have dh:=ae (eG bR.o (nq+1))
      go_wp2
      go_roundg (l.length- (kk+1))
      case measure=>omega
      case rel=>exact⟨kk+1,init++[⟨u0,u1+t1⟩],.slice (some ⟨Y,0,none⟩) (m+1) eo,tA0,tA0,tA7,⟨by rw[b9.o];exact dC.o.old fx.o⟩,⟨by rw[j2,xw.o];have:=jB.o;omega⟩,⟨ag3.o _ (zq.o.below dh.o)⟩,⟨(jZ _ ⟨Y,m * 2+1,none⟩ _ _ (by have:=nJ.o;show w3.heap.size≠Y;omega)).trans ((dh.o.block _ sJ).trans cv.o)⟩,⟨(cm bA.o bA.o.size dh.o).setCell (p:=⟨Y,m * 2+1,none⟩) (by have:=nJ.o;show w3.heap.size<=Y;omega) _⟩⟩
    ·have heq:(u0.toList==t0.toList)=false:=ey.2 (fun h=>he (pK.1 h))
     have fx:=ae he
     clear he
     go_wp2
     go_quiet (fail)
     go_wp2_with (at_builtin;(refine Kd.oF cf (w3.heap.size+1) rfl (.tmp 51) (.tmp 53) 31 79 (.agg #[.string ⟨#[]⟩,.int .i64 0]) 24 rfl Tryz.underlying31 Ac rfl tA3 tA3 (.slice (some ⟨Y,0,none⟩) (m+1) eo) (init++[⟨u0,u1⟩]) ⟨t0,t1⟩ [.string t0,.int .i64 t1] (fun k=>some k=(Value.slice (some ⟨Y,0,none⟩) (m+1) eo).ownBlock\/w3.heap.size+1<=k) (fun _=>False) rfl (Eq.trans (b:=Value.slice (some ⟨wr.heap.size+1,0,none⟩) 1 1) rfl tA2) (yh _ _ _) (fun _ h=>h.elim) (fun _ h=> .inr tBh) (Kd.et (Kd.dz bm.o (eG bR.o _)) (fun _ h=> .inl h)) (Below.refl _ _) tAb (by rw[j2,xw.o];have:=jB.o;omega) ?_;intro v6 aY cd cG dI fh;obtain⟨dn,c6,rfl⟩:=Kd.c3 cd;have eR:aY.heap[w3.heap.size]?=some (.cells #[.int .i64 n,.slice (some ⟨Y,0,none⟩) (m+1) eo] 33 (0,0)):=(cG.block _ (Nat.lt_succ_self _)).trans (((eG bR.o _).block _ sJ).trans cv.o);have hE:=ae eR;have AJ:aY.cell? ⟨w3.heap.size,1,none⟩=some (.slice (some ⟨Y,0,none⟩) (m+1) eo):=(mj eR 1).trans rfl;have f6:=ar eR 1;have vu:=az eR;have dr:=ae (tk B4 cd);have cP:=ae ((eG (cm bA.o bA.o.size bR.o) nq).trans (dM cG (Nat.le_succ _)));rw[j2,j2,xw.o]at dr;rw[j2,j2,xw.o];clear cd cG dI fh eR))
     go_roundg (l.length- (kk+1))
     case measure=>omega
     case rel=>exact⟨kk+1,init++[⟨u0,u1⟩]++[⟨t0,t1⟩],.slice dn (m+1+1) c6,tA0,tA0,tA7,⟨by rw[b9.o];exact dC.o.new Eg.o (dC.o.fresh Eg.o fx.o)⟩,⟨by rw[j2,j2,xw.o];have:=jB.o;omega⟩,⟨Kd.cw (p:=⟨w3.heap.size,1,none⟩) dr.o (fun k hk=>tDr) _⟩,⟨a6 hE.o 1 _ rfl⟩,⟨cP.o.setCell (p:=⟨w3.heap.size,1,none⟩) (bl _) _⟩⟩
  ·have cp:¬ (kk:Int)< (l.length:Int):=by omega
   have di:kk=l.length:=tA0
   have agU:af (iw out=j4 l):=⟨by
    have:=dC.o
    rw[di,<- pV.o,fJ]at this
    exact this.norm ig.o⟩
   have ahc:af (out.length<=1000):=⟨tAp⟩
   have DW:=ae (cm GZ.o GZ.o.size bA.o)
   have HD:=ae (ae7 (w0:=w) (Kd.gp bm.o (by have:=GZ.o.size;omega)) ahc.o DW.o)
   have HOW:af (∀k,some k=(Value.slice fu out.length eo).ownBlock->w3.heap.size+1<=k):=⟨fun k hk=>Kd.eK bm.o k hk.symm⟩
   have l3:=az eC.o
   have sJ:=az cv.o
   have uf:wr.cell? ⟨w3.heap.size,1,none⟩=some (.slice fu out.length eo):=ah cv.o 1
   clear bm dC di hlt jB
   have ra:=ae ((bA.o.block _ l3).trans eC.o)
   go_wp2_with (go_at_call 106;refine HD.o.mono ?_;rintro e aZ ⟨rfl,gw,qT,bq⟩;have aX:aZ.heap[w3.heap.size]?=some (.cells #[.int .i64 n,.slice fu out.length eo] 33 (0,0)):=(qT.o.2 _ sJ (fun e=>by have:=HOW.o _ e;omega)).trans cv.o;have eR:aZ.heap[w.heap.size]?=some (.cells #[.int .i64 0,.slice none 0 0] 33 (0,0)):=(qT.o.2 _ tA0 (fun e=>by have:=HOW.o _ e;omega)).trans ra.o;have eH:aZ.cell? ⟨w3.heap.size,0,none⟩=some (.int .i64 n):=(mj aX 0).trans rfl;have jr:aZ.cell? ⟨w3.heap.size,1,none⟩=some (.slice fu out.length eo):=(mj aX 1).trans rfl;have g4:=ar aX 1;have aK:aZ.cell? ⟨w.heap.size,0,none⟩=some (.int .i64 0):=(mj eR 0).trans rfl;have aC:aZ.cell? ⟨w.heap.size,1,none⟩=some (.slice none 0 0):=(mj eR 1).trans rfl;have g0:=ar eR 0;have g1:=ar eR 1;have eD:=az aX;have vu:=az eR;have cP:=ae eR;clear aX eR HD;have hne:¬ w3.heap.size=w.heap.size:= tA0;have rv:¬ w.heap.size=w3.heap.size:= tA0)
   have dK:=ae ((jZ aZ ⟨w3.heap.size,1,none⟩ (.slice fu (iw out).length eo) w.heap.size rv).trans cP.o)
   have q1:=a6 (a6 dK.o 0 (.int .i64 n) rfl) 1 (.slice fu (iw out).length eo) rfl
   refine bodyPost_ret (results_cell_row rfl _ _ w.heap.size 33 #[.int .i64 n,.slice fu (iw out).length eo] (0,0) _ rfl q1 Tryz.underlying33 rfl tA1) rfl ?_
   have hb:=((bq.o.setCell (p:=⟨w3.heap.size,1,none⟩) GZ.o.size (.slice fu (iw out).length eo)).setCell (p:=⟨w.heap.size,0,none⟩) (bl _) (.int .i64 n)).setCell (p:=⟨w.heap.size,1,none⟩) (bl _) (.slice fu (iw out).length eo)
   have hs:=GZ.o.size
   have hn:=Kd.cw (p:=⟨w.heap.size,1,none⟩) (Kd.cw (p:=⟨w.heap.size,0,none⟩) (Kd.cw (p:=⟨w3.heap.size,1,none⟩) gw.o (fun k hk=>by have:=HOW.o k (hk.trans NI);show k≠w3.heap.size;omega) (.slice fu (iw out).length eo)) (fun k hk=>tE7) (.int .i64 n)) (fun k hk=>tE7) (.slice fu (iw out).length eo)
   rw[agU.o]at hb hn ⊢
   exact⟨fu,eo,rfl,hn,hb⟩
theorem adt (a:Int)(l:List ay)(t:ay):fD a (l++[t])=fD a l++[⟨t.f0,a * t.f1⟩]:=by
 unfold fD
 rw[List.map_append]
 rfl
theorem tR (a:Int)(l:List ay):(fD a l).length=l.length:=fc _
theorem N9 {l:List ay}{k:Nat}(h:k<l.length):l.take (k+1)=l.take k++[aJ l (k:Int)]:=by
 rw[kr h]
 simp[aJ,List.getD,b8 h]
theorem FY {a b:Int}{A B:Nat}(ha:a.natAbs<=A)(hb:b.natAbs<=B):(a * b).natAbs<=A * B:=by
 rw[Int.natAbs_mul]
 exact Nat.mul_le_mul ha hb
theorem OQ {B:Nat}{a b:List ay}(ha:fR B a)(hb:fR B b):fR B (a++b):=fun t ht=>(List.mem_append.1 ht).elim (ha t) (hb t)
section
variable {A A':Option Addr}{c c':Nat}{f g:aj}{w:World}{a b:Int}
theorem EA (hf:gl A c f w)(hg:gl A' c' g w)(ha:a.natAbs<=1000000)(hb:b.natAbs<=1000000)(kO:fR 1000000 f.f1)(hg1:fR 1000000 g.f1)(rr:f.f0.natAbs<=1000000000)(hg0:g.f0.natAbs<=1000000000)(hl:f.f1.length+g.f1.length<20):
  Calls Tryz.prog 89 #[.agg #[.int .i64 f.f0,.slice A f.f1.length c],.int .i64 a,.agg #[.int .i64 g.f0,.slice A' g.f1.length c'],.int .i64 b] w fun e w'=>∃X cap,e= .returned (.agg #[.int .i64 (dY f a g b).f0,.slice X (dY f a g b).f1.length cap])/\Kd.N cf 79 w' w.heap.size (fun k=>some k=(Value.slice X (dY f a g b).f1.length cap).ownBlock) (.slice X (dY f a g b).f1.length cap) (dY f a g b).f1/\Below w.heap.size w w':=by
 have bI:=ae (ax (ax (ax (Below.refl w.heap.size w) (.cells #[.int .i64 f.f0,.slice A f.f1.length c] 33)) (.cells #[.int .i64 g.f0,.slice A' g.f1.length c'] 33)) (.cells #[.int .i64 0,.slice none 0 0] 33))
 have cJ:=ae (aH (aH (a8 w (.cells #[.int .i64 f.f0,.slice A f.f1.length c] 33)) (.cells #[.int .i64 g.f0,.slice A' g.f1.length c'] 33)) (.cells #[.int .i64 0,.slice none 0 0] 33))
 have cq:=ae (aH (by simpa using a8 (w.alloc (.cells #[.int .i64 f.f0,.slice A f.f1.length c] 33)) (.cells #[.int .i64 g.f0,.slice A' g.f1.length c'] 33):((w.alloc (.cells #[.int .i64 f.f0,.slice A f.f1.length c] 33)).alloc (.cells #[.int .i64 g.f0,.slice A' g.f1.length c'] 33)).heap[w.heap.size+1]?=some (.cells #[.int .i64 g.f0,.slice A' g.f1.length c'] 33 (0,0))) (.cells #[.int .i64 0,.slice none 0 0] 33))
 have eC:=ae (by simpa using a8 ((w.alloc (.cells #[.int .i64 f.f0,.slice A f.f1.length c] 33)).alloc (.cells #[.int .i64 g.f0,.slice A' g.f1.length c'] 33)) (.cells #[.int .i64 0,.slice none 0 0] 33):(((w.alloc (.cells #[.int .i64 f.f0,.slice A f.f1.length c] 33)).alloc (.cells #[.int .i64 g.f0,.slice A' g.f1.length c'] 33)).alloc (.cells #[.int .i64 0,.slice none 0 0] 33)).heap[w.heap.size+1+1]?=some (.cells #[.int .i64 0,.slice none 0 0] 33 (0,0)))
 have ahs:=ae (Kd.bN hf.tm bI.o)
 have aht:=ae (Kd.bN hg.tm bI.o)
 have a7:=ae ha
 have dX:=ae hb
 have s6:=ae kO
 have xm:=ae hg1
 have ow:=ae (FY ha rr)
 have D2:=ae (FY hb hg0)
 have km:af ((((w.alloc (.cells #[.int .i64 f.f0,.slice A f.f1.length c] 33)).alloc (.cells #[.int .i64 g.f0,.slice A' g.f1.length c'] 33)).alloc (.cells #[.int .i64 0,.slice none 0 0] 33)).heap.size=w.heap.size+1+1+1):=⟨tA2⟩
 clear hf hg ha hb kO hg1 rr hg0
 go_enter Tryz.func89,Tryz.ntmps89
 go_wp2
 generalize ((w.alloc (.cells #[.int .i64 f.f0,.slice A f.f1.length c] 33)).alloc (.cells #[.int .i64 g.f0,.slice A' g.f1.length c'] 33)).alloc (.cells #[.int .i64 0,.slice none 0 0] 33)=w1 at *
 go_loopg [9,11,17] f.f1.length (fun bL lj _ sR wr=>∃kk:Nat,kk<=f.f1.length/\f.f1.length-kk<=bL/\sR= .int .i64 kk/\af (∃R,Kd.N cf 79 wr w1.heap.size R lj (fD a (f.f1.take kk)))/\af (Below w1.heap.size w1 wr))
 case atStart=>exact⟨0,Nat.zero_le _,tA0,rfl,⟨fun _=>False,Kd.i1 _ _ _ _ _⟩,⟨Below.refl _ _⟩⟩
 case round=>
  obtain⟨kk,eO,hg,rfl,⟨R,hn⟩,bA⟩:=hrel
  obtain⟨fu,eo,rfl⟩:=Kd.c3 hn
  have bm:=ae hn
  have HLEN:af ((fD a (f.f1.take kk)).length=kk):=⟨by simp only[fZ,tR,bQ];omega⟩
  rw[HLEN.o]at bm
  rw[HLEN.o]
  have hsw:=bA.o.size
  clear hn
  by_cases hlt:kk<f.f1.length
  ·have cp:(kk:Int)< (f.f1.length:Int):=by omega
   obtain⟨ad,e,x0,x1⟩:=jD ahs.o (kk:Int) tA0 tA0
   cases e
   simp only[eQ]at x0 x1
   replace x0:=bw bA.o x0
   replace x1:=bw bA.o x1
   have b9:=ae (N9 hlt)
   have q9:=ae (FY a7.o (s6.o _ (Ah f.f1 kk hlt)))
   generalize aJ f.f1 (kk:Int)=t at *
   obtain⟨t0,t1⟩:=t
   have aoH:wrap64 (a * t1)=a * t1:=eM _ tBk
   have bR:=ae (ax bA.o (.cells #[.string t0,.int .i64 t1] 79))
   go_wp2_with (at_builtin;(refine Kd.oF cf w1.heap.size rfl (.tmp 21) (.tmp 29) 31 79 (.agg #[.string ⟨#[]⟩,.int .i64 0]) 24 rfl Tryz.underlying31 Ac rfl tA3 tA3 (.slice fu (kk) eo) (fD a (f.f1.take kk)) ⟨t0,a * t1⟩ [.string t0,.int .i64 (a * t1)] (fun k=>R k\/w1.heap.size<=k) (fun _=>False) rfl (Eq.trans (b:=Value.slice (some ⟨wr.heap.size+1,0,none⟩) 1 1) rfl tA2) (yh _ _ _) (fun _ h=>h.elim) (fun _ h=> .inr tBh) (Kd.et (Kd.dz bm.o (ax (Below.refl _ _) _)) (fun _ h=> .inl h)) bR.o bR.o.size (by rw[HLEN.o];omega) ?_;intro v6 aY cd cG dI fh;have dr:=ae cd;have cP:=ae cG;clear cd cG dI fh))
   go_roundg (f.f1.length- (kk+1))
   case measure=>omega
   case rel=>exact⟨kk+1,tA0,tA0,tA7,⟨_,by rw[b9.o,adt];exact dr.o⟩,cP⟩
  ·have cp:¬ (kk:Int)< (f.f1.length:Int):=by omega
   have di:kk=f.f1.length:=tA0
   have z0:wr.cell? ⟨w.heap.size+1,1,none⟩=some (.slice A' g.f1.length c'):=ah (av cq.o bA.o) 1
   have jA:=bm.o
   rw[di,fJ]at jA
   have gJ:=ae jA
   clear bm jA HLEN
   subst di
   go_wp2
   go_loopg [9,13,35] g.f1.length (fun bL lj _ sR wr=>∃kk:Nat,kk<=g.f1.length/\g.f1.length-kk<=bL/\sR= .int .i64 kk/\af (∃R,Kd.N cf 79 wr w1.heap.size R lj (fD a f.f1++fD b (g.f1.take kk)))/\af (Below w1.heap.size w1 wr))
   case atStart=>exact⟨0,Nat.zero_le _,tA0,rfl,⟨R,by simpa[fD]using gJ.o⟩,bA⟩
   case round=>
    clear bA gJ
    obtain⟨kk,eO,hg,rfl,⟨R,hn⟩,bA⟩:=hrel
    obtain⟨fu,eo,rfl⟩:=Kd.c3 hn
    have bm:=ae hn
    have HLEN:af ((fD a f.f1++fD b (g.f1.take kk)).length=f.f1.length+kk):=⟨by simp only[fZ,tR,bQ];omega⟩
    rw[HLEN.o]at bm
    rw[HLEN.o]
    have hsw:=bA.o.size
    clear hn
    by_cases hlt:kk<g.f1.length
    ·have cp:(kk:Int)< (g.f1.length:Int):=by omega
     obtain⟨ad,e,x0,x1⟩:=jD aht.o (kk:Int) tA0 tA0
     cases e
     simp only[eQ]at x0 x1
     replace x0:=bw bA.o x0
     replace x1:=bw bA.o x1
     have b9:=ae (N9 hlt)
     have q9:=ae (FY dX.o (xm.o _ (Ah g.f1 kk hlt)))
     generalize aJ g.f1 (kk:Int)=t at *
     obtain⟨t0,t1⟩:=t
     have aoH:wrap64 (b * t1)=b * t1:=eM _ tBk
     have bR:=ae (ax bA.o (.cells #[.string t0,.int .i64 t1] 79))
     go_wp2_with (at_builtin;(refine Kd.oF cf w1.heap.size rfl (.tmp 39) (.tmp 47) 31 79 (.agg #[.string ⟨#[]⟩,.int .i64 0]) 24 rfl Tryz.underlying31 Ac rfl tA3 tA3 (.slice fu (f.f1.length+kk) eo) (fD a f.f1++fD b (g.f1.take kk)) ⟨t0,b * t1⟩ [.string t0,.int .i64 (b * t1)] (fun k=>R k\/w1.heap.size<=k) (fun _=>False) rfl (Eq.trans (b:=Value.slice (some ⟨wr.heap.size+1,0,none⟩) 1 1) rfl tA2) (yh _ _ _) (fun _ h=>h.elim) (fun _ h=> .inr tBh) (Kd.et (Kd.dz bm.o (ax (Below.refl _ _) _)) (fun _ h=> .inl h)) bR.o bR.o.size (by rw[HLEN.o];omega) ?_;intro v6 aY cd cG dI fh;have dr:=ae cd;have cP:=ae cG;clear cd cG dI fh))
     go_roundg (g.f1.length- (kk+1))
     case measure=>omega
     case rel=>exact⟨kk+1,tA0,tA0,tA7,⟨_,by rw[b9.o,adt,<- List.append_assoc];exact dr.o⟩,cP⟩
    ·have cp:¬ (kk:Int)< (g.f1.length:Int):=by omega
     obtain rfl:kk=g.f1.length:=tA0
     have jA:=bm.o
     rw[fJ]at jA
     have Pp:af ((fD a f.f1++fD b g.f1).length=f.f1.length+g.f1.length):=⟨by rw[fZ,tR,tR]⟩
     have fM:=(Kd.ej jA).2.2
     have z1:wrap64 (a * f.f0)=a * f.f0:=eM _ (by have:=ow.o;omega)
     have hw2:wrap64 (b * g.f0)=b * g.f0:=eM _ (by have:=D2.o;omega)
     have hw3:wrap64 (a * f.f0+b * g.f0)=a * f.f0+b * g.f0:=eM _ (by have:=ow.o;have:=D2.o;omega)
     have HC:=X9 (c:=eo) fM (by rw[Pp.o];omega) (OQ (fun t ht=>bj (Gd a7.o s6.o t ht) tA0) (fun t ht=>bj (Gd dX.o xm.o t ht) tA0)) (a * f.f0+b * g.f0)
     rw[Pp.o]at HC
     have pT:=ae HC
     have c2:wr.cell? ⟨w.heap.size,0,none⟩=some (.int .i64 f.f0):=ah (av cJ.o bA.o) 0
     have z2:wr.cell? ⟨w.heap.size+1,0,none⟩=some (.int .i64 g.f0):=ah (av cq.o bA.o) 0
     have dh:=ae (cm bI.o bI.o.size bA.o)
     have hx3:=ae (av eC.o bA.o)
     clear bm jA HLEN Pp HC fM
     go_wp2_with (go_at_call 140;with_reducible(refine pT.o.mono ?_);rintro e aZ ⟨X,cap,rfl,pD,sB⟩;have gw:=ae pD;have aX:=av hx3.o sB;have aK:aZ.cell? ⟨w.heap.size+1+1,0,none⟩=some (.int .i64 0):=(mj aX 0).trans rfl;have aC:aZ.cell? ⟨w.heap.size+1+1,1,none⟩=some (.slice none 0 0):=(mj aX 1).trans rfl;have g0:=ar aX 0;have g1:=ar aX 1;have eD:=az aX;have bq:=ae (au dh.o sB);have dL:=ae aX;clear aX pD sB pT)
     have q1:=a6 (a6 dL.o 0 (.int .i64 (a * f.f0+b * g.f0)) rfl) 1 (.slice X (j4 (fD a f.f1++fD b g.f1)).length cap) rfl
     refine bodyPost_ret (results_cell_row rfl _ _ (w.heap.size+1+1) 33 #[.int .i64 (a * f.f0+b * g.f0),.slice X (j4 (fD a f.f1++fD b g.f1)).length cap] (0,0) _ rfl q1 Tryz.underlying33 rfl tA1) rfl ?_
     have hb:=(bq.o.setCell (p:=⟨w.heap.size+1+1,0,none⟩) tAf (.int .i64 (a * f.f0+b * g.f0))).setCell (p:=⟨w.heap.size+1+1,1,none⟩) tAf (.slice X (j4 (fD a f.f1++fD b g.f1)).length cap)
     have hne:∀k,some k=(Value.slice X (j4 (fD a f.f1++fD b g.f1)).length cap).ownBlock->k≠w.heap.size+1+1:=fun k hk=>by
      have h1:=Kd.eK gw.o k hk.symm
      have h2:=bA.o.size
      have h3:=km.o
      omega
     exact⟨X,cap,rfl,Kd.gp (Kd.cw (p:=⟨w.heap.size+1+1,1,none⟩) (Kd.cw (p:=⟨w.heap.size+1+1,0,none⟩) gw.o hne _) hne _) dh.o.size,hb⟩
end
theorem QS {α:Type}(d:Kd α)(e:Nat)(W:World)(base:Nat){xs:List α}{inner:List Value}{ok okp:Nat->Prop}(yx:bU (Kd.eI d W okp) d.sz xs inner)(bX:∀k,okp k->ok k)(iu:ok W.heap.size)(hbase:base<=W.heap.size)(hm:xs.length<=9223372036854775807):
  Kd.N d e (W.alloc (.cells inner.toArray e)) base ok (.slice (some ⟨W.heap.size,0,none⟩) xs.length xs.length) xs:=by
 refine Kd.aiE (W:=W) (okp:=okp) (rows:=Kd.chunks d.sz xs.length inner) ⟨fun k hk=>?_,inner,?_,?_⟩ (World.grownBy_alloc W _ none) ⟨W.heap.size,tBw,bl _⟩ (Kd.oJ _ _ _) (fun j y c hy hc=>by rw[Kd.BX hc];exact yx.2 j y hy) bX iu
 ·have:W.heap.size=k:=by simpa[Value.ownBlock]using hk
  exact this.symm
 ·rw[Kd.oJ]
  have h2:=World.ownsRow_lit (base:=base) (e:=e) (size:=d.sz) W inner.toArray xs.length hbase (by simpa[maxLen]using hm) (by simpa using yx.1)
  exact(by simpa using h2:(W.alloc (.cells inner.toArray e)).ownsRow base e d.sz (.slice (some ⟨W.heap.size,0,none⟩) xs.length xs.length) xs.length inner)
 ·exact(Kd.ade yx (fun y c hk=>⟨d.oC (Kd.o6 hk),d.lA (Kd.o6 hk)⟩))
theorem zI {W:World}{R:Nat->Prop}{A:Option Addr}{c:Nat}{a:Int}{l:List ay}(hle:l.length<=c)(hF:Kd.F cf W R A l.length l):Kd.eI bc W R ⟨a,l⟩ [.int .i64 a,.slice A l.length c]:=fun W' hW=>ab2 W' ⟨a,l⟩ hle (hF W' hW)
theorem gl.num (n:Int)(W:World):gl none 0 ⟨n,[]⟩ W:=⟨Kd.yY _ _,bl _,Nat.zero_le _,fun t ht=>tBc⟩
theorem X7 (n:Int)(W:World):Calls Tryz.prog 139 #[.int .i64 n] W fun e w'=>e= .returned (.agg #[.int .i64 n,.slice none 0 0])/\Below W.heap.size W w':=by
 have cv:=ae (a8 W (.cells #[.int .i64 n,.slice none 0 0] 33))
 have ak:=ae (ax (Below.refl W.heap.size W) (.cells #[.int .i64 n,.slice none 0 0] 33))
 go_enter Tryz.func139,Tryz.ntmps139
 go_wp2
 refine bodyPost_ret (results_cell_row rfl _ _ W.heap.size 33 #[.int .i64 n,.slice none 0 0] (0,0) _ rfl cv.o Tryz.underlying33 rfl tA1) rfl ?_
 exact⟨rfl,ak.o⟩
theorem ap7 (s:ByteArray)(a:Int)(ha:a≠0):j4 [⟨s,a⟩]=[⟨s,a⟩]:=acE tBd (by simpa using ha)
theorem ajq (s:ByteArray)(a:Int)(ha:a≠0)(hb:a.natAbs<=1000000000000)(w:World):
  Calls Tryz.prog 87 #[.string s,.int .i64 a] w fun e w'=>∃X cap,e= .returned (.agg #[.int .i64 0,.slice X 1 cap])/\Kd.N cf 79 w' w.heap.size (fun k=>some k=(Value.slice X 1 cap).ownBlock) (.slice X 1 cap) [⟨s,a⟩]/\Below w.heap.size w w':=by
 have bI:=ae (ax (Below.refl w.heap.size w) (.cells #[.int .i64 0,.slice none 0 0] 33))
 have cJ:=ae (a8 w (.cells #[.int .i64 0,.slice none 0 0] 33))
 have abd:=QS cf 79 (w.alloc (.cells #[.int .i64 0,.slice none 0 0] 33)) w.heap.size (xs:=[⟨s,a⟩]) (inner:=[.string s,.int .i64 a]) (ok:=fun _=>True) (okp:=fun _=>False) ⟨rfl,fun j p hj=>by
  rcases j with _|j
  ·simp only[List.getElem?_cons_zero,Option.some.injEq]at hj
   subst hj
   exact yh _ _ _
  ·simp at hj⟩ (fun _ h=>h.elim) trivial tA2 (by show 1<=9223372036854775807;decide)
 have aI:=ae (ax bI.o (.cells #[.string s,.int .i64 a] 79))
 have M3:=X9 (c:=1) (Kd.ej abd).2.2 (by show 1<20;decide) (fun t ht=>by simp at ht;subst ht;exact hb) 0
 rw[ap7 s a ha,show(w.alloc (.cells #[.int .i64 0,.slice none 0 0] 33)).heap.size=w.heap.size+1 by simp]at M3
 rw[show([⟨s,a⟩]:List ay).length=1 from rfl]at M3
 have Ht:=ae M3
 clear abd M3
 go_enter Tryz.func87,Tryz.ntmps87
 go_wp2_with (go_at_call 140;with_reducible(refine Ht.o.mono ?_);rintro e aZ ⟨X,cap,rfl,pD,sB⟩;have gw:=ae pD;have aX:=av (aH cJ.o _) sB;have aK:aZ.cell? ⟨w.heap.size,0,none⟩=some (.int .i64 0):=(mj aX 0).trans rfl;have aC:aZ.cell? ⟨w.heap.size,1,none⟩=some (.slice none 0 0):=(mj aX 1).trans rfl;have g0:=ar aX 0;have g1:=ar aX 1;have eD:=az aX;have bq:=ae (au aI.o sB);have dL:=ae aX;clear aX pD sB Ht)
 have q1:=a6 (a6 dL.o 0 (.int .i64 0) rfl) 1 (.slice X 1 cap) rfl
 refine bodyPost_ret (results_cell_row rfl _ _ w.heap.size 33 #[.int .i64 0,.slice X 1 cap] (0,0) _ rfl q1 Tryz.underlying33 rfl tA1) rfl ?_
 have hne:∀k,some k=(Value.slice X 1 cap).ownBlock->k≠w.heap.size:=fun k hk=>by
  have h1:=Kd.eK gw.o k hk.symm
  simp at h1
  omega
 exact⟨X,cap,rfl,Kd.gp (Kd.cw (p:=⟨w.heap.size,1,none⟩) (Kd.cw (p:=⟨w.heap.size,0,none⟩) gw.o hne _) hne _) aI.o.size,(bq.o.setCell (p:=⟨w.heap.size,0,none⟩) (bl _) _).setCell (p:=⟨w.heap.size,1,none⟩) (bl _) _⟩
def oB (w:World)(F:aj)(e:Ending)(w':World):Prop:=∃X cap,e= .returned (.agg #[.int .i64 F.f0,.slice X F.f1.length cap])/\Kd.N cf 79 w' w.heap.size (fun k=>some k=(Value.slice X F.f1.length cap).ownBlock) (.slice X F.f1.length cap) F.f1/\Below w.heap.size w w'
theorem F2:(1:Int).natAbs<=1000000:=tA0
theorem ap5:(-1:Int).natAbs<=1000000:=tA0
section
variable {A:Option Addr}{c:Nat}{f:aj}{w:World}
theorem ajj (hf:gl A c f w)(rr:f.f0.natAbs<=1000000000)(kO:fR 1000000 f.f1)(hl:f.f1.length<20){n:Int}(hn:n.natAbs<=1000000000):
  Calls Tryz.prog 89 #[.agg #[.int .i64 f.f0,.slice A f.f1.length c],.int .i64 1,.agg #[.int .i64 n,.slice none 0 0],.int .i64 1] w (oB w (dY f 1 ⟨n,[]⟩ 1)):=
 EA (f:=f) (g:=⟨n,[]⟩) (c':=0) (A':=none) hf (gl.num n w) F2 F2 kO (fun t ht=>tBc) rr hn hl
theorem ajk (hf:gl A c f w)(rr:f.f0.natAbs<=1000000000)(kO:fR 1000000 f.f1)(hl:f.f1.length<20){n:Int}(hn:n.natAbs<=1000000000):
  Calls Tryz.prog 89 #[.agg #[.int .i64 n,.slice none 0 0],.int .i64 1,.agg #[.int .i64 f.f0,.slice A f.f1.length c],.int .i64 (-1)] w (oB w (dY ⟨n,[]⟩ 1 f (-1))):=
 EA (f:=⟨n,[]⟩) (g:=f) (c:=0) (A:=none) (gl.num n w) hf F2 ap5 (fun t ht=>tBc) kO hn rr (by show 0+f.f1.length<20;omega)
end
theorem tz {W:World}{base:Nat}{X:Option Addr}{c:Nat}{a:Int}{l:List ay}(h:Kd.N cf 79 W base (fun k=>some k=(Value.slice X l.length c).ownBlock) (.slice X l.length c) l):Kd.eI bc W (fun k=>base<=k) ⟨a,l⟩ [.int .i64 a,.slice X l.length c]:=
 zI (Kd.ej h).2.1 (Kd.ur (Kd.mb h) (fun k hk=>Kd.eK h k hk.symm))
def ku (x:aq)(f:aj):List aj:=[dY f 1 ⟨-x.f1,[]⟩ 1,dY ⟨x.f2,[]⟩ 1 f (-1)]
theorem Zj {A:Option Addr}{c:Nat}{x:aq}{f:aj}{w:World}(hf:gl A c f w)(h1:x.f1.natAbs<=1000000)(h2:x.f2.natAbs<=1000000)(rr:f.f0.natAbs<=1000000000)(kO:fR 1000000 f.f1)(hl:f.f1.length<20):
  Calls Tryz.prog 86 #[.agg #[.string x.f0,.int .i64 x.f1,.int .i64 x.f2],.agg #[.int .i64 f.f0,.slice A f.f1.length c]] w fun e w'=>∃X,e= .returned (.slice X 2 2)/\Kd.N bc 33 w' w.heap.size (fun k=>w.heap.size<=k) (.slice X 2 2) (ku x f)/\Below w.heap.size w w':=by
 obtain⟨x0,x1,x2⟩:=x
 simp only at h1 h2
 have jA:af (∀W:World,Calls Tryz.prog 139 #[.int .i64 (IntKind.i64.wrap (-x1))] W fun e w'=>e= .returned (.agg #[.int .i64 (-x1),.slice none 0 0])/\Below W.heap.size W w'):=⟨fun W=>by
  rw[show IntKind.i64.wrap (-x1)= -x1 by rw[IntKind.wrap_i64];omega]
  exact X7 (-x1) W⟩
 have vO:af (∀W:World,(W.cell? ⟨w.heap.size+1,0,none⟩=some (.int .i64 f.f0)/\W.cell? ⟨w.heap.size+1,1,none⟩=some (.slice A f.f1.length c)/\W.cell? ⟨w.heap.size,1,none⟩=some (.int .i64 x1)/\W.cell? ⟨w.heap.size,2,none⟩=some (.int .i64 x2)/\af (Below w.heap.size w W))->Calls Tryz.prog 89 #[.agg #[.int .i64 f.f0,.slice A f.f1.length c],.int .i64 1,.agg #[.int .i64 (-x1),.slice none 0 0],.int .i64 1] W (oB W (dY f 1 ⟨-x1,[]⟩ 1))):=⟨fun W hb=>ajj (hf.below hb.2.2.2.2.o) rr kO hl tA0⟩
 have fV:af (∀W:World,(W.cell? ⟨w.heap.size+1,0,none⟩=some (.int .i64 f.f0)/\W.cell? ⟨w.heap.size+1,1,none⟩=some (.slice A f.f1.length c)/\W.cell? ⟨w.heap.size,1,none⟩=some (.int .i64 x1)/\W.cell? ⟨w.heap.size,2,none⟩=some (.int .i64 x2)/\af (Below w.heap.size w W))->Calls Tryz.prog 89 #[.agg #[.int .i64 x2,.slice none 0 0],.int .i64 1,.agg #[.int .i64 f.f0,.slice A f.f1.length c],.int .i64 (-1)] W (oB W (dY ⟨x2,[]⟩ 1 f (-1)))):=⟨fun W hb=>ajk (hf.below hb.2.2.2.2.o) rr kO hl tA0⟩
 have bI:=ae (ax (ax (Below.refl w.heap.size w) (.cells #[.string x0,.int .i64 x1,.int .i64 x2] 77)) (.cells #[.int .i64 f.f0,.slice A f.f1.length c] 33))
 have cJ:=ae (aH (a8 w (.cells #[.string x0,.int .i64 x1,.int .i64 x2] 77)) (.cells #[.int .i64 f.f0,.slice A f.f1.length c] 33))
 have cq:=ae (by simpa using a8 (w.alloc (.cells #[.string x0,.int .i64 x1,.int .i64 x2] 77)) (.cells #[.int .i64 f.f0,.slice A f.f1.length c] 33):((w.alloc (.cells #[.string x0,.int .i64 x1,.int .i64 x2] 77)).alloc (.cells #[.int .i64 f.f0,.slice A f.f1.length c] 33)).heap[w.heap.size+1]?=some (.cells #[.int .i64 f.f0,.slice A f.f1.length c] 33 (0,0)))
 clear hf h1 h2
 go_enter Tryz.func86,Tryz.ntmps86
 go_wp2
 generalize (w.alloc (.cells #[.string x0,.int .i64 x1,.int .i64 x2] 77)).alloc (.cells #[.int .i64 f.f0,.slice A f.f1.length c] 33)=w1 at *
 have e0:w1.cell? ⟨w.heap.size+1,0,none⟩=some (.int .i64 f.f0):=ah cq.o 0
 have e1:w1.cell? ⟨w.heap.size+1,1,none⟩=some (.slice A f.f1.length c):=ah cq.o 1
 have e2:w1.cell? ⟨w.heap.size,1,none⟩=some (.int .i64 x1):=ah cJ.o 1
 have e3:w1.cell? ⟨w.heap.size,2,none⟩=some (.int .i64 x2):=ah cJ.o 2
 have HK:af (∀W W':World,(W.cell? ⟨w.heap.size+1,0,none⟩=some (.int .i64 f.f0)/\W.cell? ⟨w.heap.size+1,1,none⟩=some (.slice A f.f1.length c)/\W.cell? ⟨w.heap.size,1,none⟩=some (.int .i64 x1)/\W.cell? ⟨w.heap.size,2,none⟩=some (.int .i64 x2)/\af (Below w.heap.size w W))->Below W.heap.size W W'->(W'.cell? ⟨w.heap.size+1,0,none⟩=some (.int .i64 f.f0)/\W'.cell? ⟨w.heap.size+1,1,none⟩=some (.slice A f.f1.length c)/\W'.cell? ⟨w.heap.size,1,none⟩=some (.int .i64 x1)/\W'.cell? ⟨w.heap.size,2,none⟩=some (.int .i64 x2)/\af (Below w.heap.size w W'))):=⟨fun W W' ⟨a,b,c,d,e⟩ hb=>⟨bw hb a,bw hb b,bw hb c,bw hb d,⟨au e.o hb⟩⟩⟩
 have km:af (∀W:World,(W.cell? ⟨w.heap.size+1,0,none⟩=some (.int .i64 f.f0)/\W.cell? ⟨w.heap.size+1,1,none⟩=some (.slice A f.f1.length c)/\W.cell? ⟨w.heap.size,1,none⟩=some (.int .i64 x1)/\W.cell? ⟨w.heap.size,2,none⟩=some (.int .i64 x2)/\af (Below w.heap.size w W))->w.heap.size<=W.heap.size):=⟨fun W h=>h.2.2.2.2.o.size⟩
 go_region_held3 (fun W=>W.cell? ⟨w.heap.size+1,0,none⟩=some (.int .i64 f.f0)/\W.cell? ⟨w.heap.size+1,1,none⟩=some (.slice A f.f1.length c)/\W.cell? ⟨w.heap.size,1,none⟩=some (.int .i64 x1)/\W.cell? ⟨w.heap.size,2,none⟩=some (.int .i64 x2)/\af (Below w.heap.size w W)) (first|exact⟨e0,e1,e2,e3,⟨cB bI.o⟩⟩|assumption|exact HK.o _ _ tAc (ax (Below.refl _ _) _)) (first|(go_at_call 139;refine(jA.o _).mono ?_;rintro e w' ⟨rfl,hb⟩;have auo:=HK.o _ _ tAc hb)|(go_at_call 139;with_reducible(refine(X7 x2 _).mono ?_);rintro e w' ⟨rfl,hb⟩;have aun:=HK.o _ _ tAc hb;have nz:=ae hb)|(go_at_call 89;with_reducible(refine(vO.o _ tAc).mono ?_);intro e w' hI;unfold oB at hI;obtain⟨EB,YL,rfl,sF,hb⟩:=hI;have aup:=HK.o _ _ tAc hb;have ag6:=ae (Kd.gp sF (km.o _ tAc));clear sF)|(go_at_call 89;with_reducible(refine(fV.o _ tAc).mono ?_);intro e w' hI;unfold oB at hI;obtain⟨Ie,akc,rfl,My,hb⟩:=hI;have amg:=HK.o _ _ tAc hb;have Pd:=ae amg;have zg:=ae (Kd.gp My (km.o _ tAc));have aga:=ae hb;clear My))
 go_wp2
 go_ret
 have n1:=Kd.dz (Kd.dz ag6.o nz.o) aga.o
 have hl:=QS bc 33 _ w.heap.size (xs:=ku ⟨x0,x1,x2⟩ f) (inner:=[.int .i64 (dY f 1 ⟨-x1,[]⟩ 1).f0,.slice EB (dY f 1 ⟨-x1,[]⟩ 1).f1.length YL,.int .i64 (dY ⟨x2,[]⟩ 1 f (-1)).f0,.slice Ie (dY ⟨x2,[]⟩ 1 f (-1)).f1.length akc]) (okp:=fun k=>w.heap.size<=k) (ok:=fun k=>w.heap.size<=k) ⟨rfl,fun j p hj=>by
  rcases j with _|_|j
  ·simp only[ku,List.getElem?_cons_zero,Option.some.injEq]at hj
   subst hj
   exact tz n1
  ·simp only[ku,List.getElem?_cons_succ,List.getElem?_cons_zero,Option.some.injEq]at hj
   subst hj
   exact tz zg.o
  ·simp[ku]at hj⟩ (fun _ h=>h) Pd.o.2.2.2.2.o.size Pd.o.2.2.2.2.o.size tEd
 exact⟨_,rfl,hl,ax Pd.o.2.2.2.2.o _⟩
def dm (l:List ay)(s:ByteArray):List ay:=l.filter fun t=> !decide (t.f0=s)
def fp (f:aj)(s:ByteArray)(ES:aj):aj:=dY ⟨f.f0,dm f.f1 s⟩ 1 ES (bu f.f1 s)
theorem U0 {l:List ay}(h:fI l)(s:ByteArray):fI (dm l s):=List.Pairwise.filter _ h
theorem wO (l:List ay)(s:ByteArray):∀t∈dm l s,t∈l:=fun t ht=>(List.mem_filter.1 ht).1
theorem adn {l:List ay}{s:ByteArray}(h:∀t∈l,t.f0≠s):dm l s=l:=List.filter_eq_self.2 fun t ht=>by simpa using h t ht
theorem NT:∀{l:List ay} {s:ByteArray} {p:Nat},fI l->p<l.length->(l.getD p z79).f0=s->l.eraseIdx p=dm l s
 | [],_,_,_,h,_=>absurd h tA2
 | t::l,s,0,hu,_,he=>by
  obtain⟨h1,h2⟩:=List.pairwise_cons.1 hu
  have tF:t.f0=s:=he
  have hr:dm l s=l:=adn fun u hu e=>wJ (h1 u hu) (tF.trans e.symm)
  rw[List.eraseIdx_cons_zero,dm,List.filter_cons_of_neg (by simp[tF])]
  exact hr.symm
 | t::l,s,p+1,hu,hp,he=>by
  obtain⟨h1,h2⟩:=List.pairwise_cons.1 hu
  have tF:(l.getD p z79).f0=s:=he
  have oV:p<l.length:=by simpa using hp
  have hne:t.f0≠s:=by
   rw[<- tF]
   refine wJ (h1 _ ?_)
   simp only[List.getD,b8 oV,Option.getD_some]
   exact List.getElem_mem oV
  rw[List.eraseIdx_cons_succ,NT h2 oV tF,dm,dm,List.filter_cons_of_pos (by simp[hne])]
theorem aqS {f:aj}{s:ByteArray}{ES:aj}(hu:fI f.f1)(hn:∀t∈f.f1,t.f1≠0)(h:∀t∈f.f1,t.f0≠s):fp f s ES=f:=by
 unfold fp dY
 rw[adn h,BZ _ _ h]
 have e:j4 (fD 1 f.f1++fD 0 ES.f1)=f.f1:=(norm_eq hu hn fun s=>by
  rw[Au,J1,J1,wS s hu]
  omega).symm
 show(⟨1 * f.f0+0 * ES.f0,j4 (fD 1 f.f1++fD 0 ES.f1)⟩:aj)=f
 rw[e]
 cases f
 simp
theorem Dw (l:List ay)(s:ByteArray):(dm l s).length<=l.length:=List.length_filter_le _ _
theorem sg {B:Nat}{l:List ay}(h:fR B l)(s:ByteArray):(bu l s).natAbs<=B:=by
 induction l with
 | nil=>simp[bu]
 | cons t l ih=>
  unfold bu
  split
  ·exact h t tA2
  ·exact ih (fun u hu=>h u (by simp[hu]))
theorem Rf {E:Exit->Act->World->Prop}{x:Exit}{a:Act}{W:World}{S:World->Prop}(hS:S W)(h:∀W',S W'->E x a W'):E x a W:=h W hS
section
variable {A A':Option Addr}{c c':Nat}{f g:aj}{w:World}
theorem aiM (hf:gl A c f w)(hg:gl A' c' g w)(hu:fI f.f1)(hn:∀t∈f.f1,t.f1≠0)(kO:fR 1000000 f.f1)(hg1:fR 1000000 g.f1)(rr:f.f0.natAbs<=1000000000)(hg0:g.f0.natAbs<=1000000000)(hl:f.f1.length+g.f1.length<20)(s:ByteArray):
  Calls Tryz.prog 90 #[.agg #[.int .i64 f.f0,.slice A f.f1.length c],.string s,.agg #[.int .i64 g.f0,.slice A' g.f1.length c']] w (oB w (fp f s g)):=by
 have bI:=ae (ax (ax (ax (Below.refl w.heap.size w) (.cells #[.int .i64 f.f0,.slice A f.f1.length c] 33)) (.cells #[.int .i64 g.f0,.slice A' g.f1.length c'] 33)) (.cells #[.int .i64 0,.slice none 0 0] 33))
 have cJ:=ae (aH (aH (a8 w (.cells #[.int .i64 f.f0,.slice A f.f1.length c] 33)) (.cells #[.int .i64 g.f0,.slice A' g.f1.length c'] 33)) (.cells #[.int .i64 0,.slice none 0 0] 33))
 have cq:=ae (aH (by simpa using a8 (w.alloc (.cells #[.int .i64 f.f0,.slice A f.f1.length c] 33)) (.cells #[.int .i64 g.f0,.slice A' g.f1.length c'] 33):((w.alloc (.cells #[.int .i64 f.f0,.slice A f.f1.length c] 33)).alloc (.cells #[.int .i64 g.f0,.slice A' g.f1.length c'] 33)).heap[w.heap.size+1]?=some (.cells #[.int .i64 g.f0,.slice A' g.f1.length c'] 33 (0,0))) (.cells #[.int .i64 0,.slice none 0 0] 33))
 have eC:=ae (by simpa using a8 ((w.alloc (.cells #[.int .i64 f.f0,.slice A f.f1.length c] 33)).alloc (.cells #[.int .i64 g.f0,.slice A' g.f1.length c'] 33)) (.cells #[.int .i64 0,.slice none 0 0] 33):(((w.alloc (.cells #[.int .i64 f.f0,.slice A f.f1.length c] 33)).alloc (.cells #[.int .i64 g.f0,.slice A' g.f1.length c'] 33)).alloc (.cells #[.int .i64 0,.slice none 0 0] 33)).heap[w.heap.size+1+1]?=some (.cells #[.int .i64 0,.slice none 0 0] 33 (0,0)))
 have km:af ((((w.alloc (.cells #[.int .i64 f.f0,.slice A f.f1.length c] 33)).alloc (.cells #[.int .i64 g.f0,.slice A' g.f1.length c'] 33)).alloc (.cells #[.int .i64 0,.slice none 0 0] 33)).heap.size=w.heap.size+1+1+1):=⟨tA2⟩
 have fX:=ae (hf.below bI.o)
 have HG:=ae (hg.below bI.o)
 have HU:=ae hu
 have Bk:=ae hn
 have s6:=ae kO
 have xm:=ae hg1
 have ow:=ae rr
 have D2:=ae hg0
 have kV:=ae hf.n1
 clear hf hg hu hn kO hg1 rr hg0
 go_enter Tryz.func90,Tryz.ntmps90
 go_wp2_with (fail)
 generalize ((w.alloc (.cells #[.int .i64 f.f0,.slice A f.f1.length c] 33)).alloc (.cells #[.int .i64 g.f0,.slice A' g.f1.length c'] 33)).alloc (.cells #[.int .i64 0,.slice none 0 0] 33)=w1 at *
 have e0:w1.cell? ⟨w.heap.size,0,none⟩=some (.int .i64 f.f0):=ah cJ.o 0
 have e1:w1.cell? ⟨w.heap.size,1,none⟩=some (.slice A f.f1.length c):=ah cJ.o 1
 have Hc:=ae (Zu fX.o (JS HU.o) s)
 go_wp2_with (go_at_call 141;go_loud (refine Hc.o.mono ?_;rintro e w2 ⟨p,b,hp,jK,rfl,hb⟩;have ig:=ae hp;have aI:=ae hb;have aK:=bw hb e0;have aC:=bw hb e1;clear hp hb;cases b;(case' true=>(obtain⟨hlt,yo⟩:=YZ ig.o jK.o;have jd:=ae yo;have lu:=jK.o;unfold foundAt at lu;have jV:=ae (bg lu).2;clear yo lu;have cp:(p:Int)< (f.f1.length:Int):= tA0;obtain⟨ad,e,x0,x1⟩:=jD (Kd.bN fX.o.tm aI.o) (p:Int) tA0 tA0;cases e;simp only[eQ]at x0 x1;have lv:af (aJ f.f1 (p:Int)=f.f1.getD p z79):=⟨by simp[aJ]⟩;generalize aJ f.f1 (p:Int)=u at x0 x1 lv))))
 ·have fY:af (∀W:World,Below w2.heap.size w2 W->(W.cell? ⟨w.heap.size,0,none⟩=some (.int .i64 f.f0)/\W.cell? ⟨w.heap.size,1,none⟩=some (.slice (some ad) f.f1.length c)/\af (Below w2.heap.size w2 W))):=⟨fun W hb=>⟨bw hb aK,bw hb aC,⟨hb⟩⟩⟩
  have kW:af (∀W:World,(W.cell? ⟨w.heap.size,0,none⟩=some (.int .i64 f.f0)/\W.cell? ⟨w.heap.size,1,none⟩=some (.slice (some ad) f.f1.length c)/\af (Below w2.heap.size w2 W))->Below w2.heap.size w2 W):=⟨fun W h=>h.2.2.o⟩
  have eJ:af (∀W:World,(W.cell? ⟨w.heap.size,0,none⟩=some (.int .i64 f.f0)/\W.cell? ⟨w.heap.size,1,none⟩=some (.slice (some ad) f.f1.length c)/\af (Below w2.heap.size w2 W))->Calls Tryz.prog 107 #[.slice (some ad) f.f1.length c] W fun e w'=>∃Y cap,e= .returned (.slice (some ⟨Y,0,none⟩) f.f1.length cap)/\Kd.N cf 79 w' W.heap.size (fun k=>k=Y) (.slice (some ⟨Y,0,none⟩) f.f1.length cap) f.f1/\W.heap.size<=Y/\Y<w'.heap.size/\f.f1.length<=cap/\cap<=maxLen/\Below W.heap.size W w'):=⟨fun W h=>(RH (Kd.bN (Kd.bN fX.o.tm aI.o) h.2.2.o) (by have:=kV.o;omega)).mono fun e w' ⟨X,cap,he,hN,hb⟩=>by
   obtain⟨Y,at9,e1,_,wq,hT⟩:=cn.FZ (tk B4 hN) (fun e0=>by rw[e0]at hlt;exact absurd hlt tA2)
   simp only[Value.slice.injEq]at e1
   obtain⟨rfl,_,rfl⟩:=e1
   have SE:=cn.Gs hT wq
   have hlt:=hT.lt
   obtain⟨cur,h1,h2,h3,_⟩:=hT
   exact⟨Y,cap,he,SE,wq,hlt,h2,h3,hb⟩⟩
  have HQ:af (IntKind.i64.wrap ((p:Int)+1)=(p:Int)+1):=⟨by rw[IntKind.wrap_i64];have:=kV.o;omega⟩
  have s9:=ae hlt
  clear hlt
  go_wp2
  go_region_held3 (fun W=>(W.cell? ⟨w.heap.size,0,none⟩=some (.int .i64 f.f0)/\W.cell? ⟨w.heap.size,1,none⟩=some (.slice (some ad) f.f1.length c)/\af (Below w2.heap.size w2 W))) (first|exact fY.o _ (cB (Below.refl _ _))|assumption|exact fY.o _ (cB (ax (Below.refl _ _) _))|exact fY.o _ (ax (kW.o _ tAc) _)|exact fY.o _ (((kW.o _ tAc).setCell tDh _).setCell tDh _)) (first|(go_at_call 107;with_reducible(refine(eJ.o _ tAc).mono ?_);intro e w3 hI;obtain⟨Y,cap,rfl,hN,aae,aaf,hc1,hc2,hb⟩:=hI;have y4:=ae ((fun {W W':World} (h:Below W.heap.size W W') (h2:Below w2.heap.size w2 W)=>h2) hb (kW.o _ tAc));have SH:=fY.o _ (au y4.o hb);have oz:=ae (kW.o _ SH).size;have xy:=ae hN;have xh:=ae hb;have nJ:=ae aae;have p5:=ae aaf;have jc:=ae hc1;have xl:=ae hc2;(try have af8:=ae (av (bz (a8 w2 (.cells #[.int .i64 0,.slice none 0 0] 33))) hb));clear hN aae aaf hc1 hc2 hb)|(go_at_call 142;rw[HQ.o];with_reducible(refine(akN (by first|exact xy.o|exact Kd.dz xy.o (ax (Below.refl _ _) _)) jc.o xl.o p s9.o (by first|exact xh.o|exact ax xh.o _)).mono ?_);intro e w4 hI;obtain⟨rfl,hN,hk,hb⟩:=hI;have zf:=ae hN;have uw:=ae hb;have SI:=fY.o _ (au y4.o hb);have xE:=ae (kW.o _ SI).size;(first|(have y5:=ae (iD af8.o hk (fun e=>by have h2:=nJ.o;have e':_=Y:=e;simp at h2;omega)))|(have y5:=ae (iD (a8 _ (.cells #[.int .i64 0,.slice none 0 0] 33)) hk (fun e=>by have h2:=p5.o;have e':_=Y:=e;omega)))|skip);(try have b0:w4.cell? ⟨_,0,none⟩=some (.int .i64 0):=(mj y5.o 0).trans rfl);(try have b1:w4.cell? ⟨_,1,none⟩=some (.slice none 0 0):=(mj y5.o 1).trans rfl);(try have atN:=ar y5.o 0);(try have atO:=ar y5.o 1);(try have gb:=az y5.o);have atB:=ae hk;clear hN hb hk))
  ·rename_i hh
   have ux:=ae (kW.o _ hh)
   clear hh
   have G8:=ae (NT HU.o s9.o jV.o)
   have zr:af (u.f1=bu f.f1 s):=⟨by rw[jd.o,<- lv.o]⟩
   have G1:af (w2.heap.size<=w4.heap.size):=⟨xE.o⟩
   refine Rf (S:=fun jh=>jh.heap[w4.heap.size]?=some (.cells #[.int .i64 f.f0,.slice (some ⟨Y,0,none⟩) (f.f1.length-1) cap] 33 (0,0))/\Below w2.heap.size w2 jh/\Kd.N cf 79 jh w2.heap.size (fun k=>k=Y) (.slice (some ⟨Y,0,none⟩) (f.f1.length-1) cap) (dm f.f1 s)) ⟨a8 w4 _,ux.o,by rw[<- G8.o];exact Kd.gp (Kd.dz zf.o (ax (Below.refl _ _) _)) y4.o.size⟩ ?_
   rintro jh ⟨hq,oN,tJ⟩
   have d0:jh.cell? ⟨w4.heap.size,0,none⟩=some (.int .i64 f.f0):=ah hq 0
   have d1:jh.cell? ⟨w4.heap.size,1,none⟩=some (.slice (some ⟨Y,0,none⟩) (f.f1.length-1) cap):=ah hq 1
   have bS:=ae (au (au bI.o aI.o) oN)
   have hx2:=av (av cq.o aI.o) oN
   have d2:jh.cell? ⟨w.heap.size+1,0,none⟩=some (.int .i64 g.f0):=ah hx2 0
   have d3:jh.cell? ⟨w.heap.size+1,1,none⟩=some (.slice A' g.f1.length c'):=ah hx2 1
   have nI:=ae (av (av eC.o aI.o) oN)
   obtain⟨mL,vk,vn⟩:=Kd.ej tJ
   have wx:gl (some ⟨Y,0,none⟩) cap ⟨f.f0,dm f.f1 s⟩ jh:=⟨vn,tCh,bj (Dw _ _) kV.o,fun t ht=>fX.o.n2 t (wO _ _ t ht)⟩
   have vp:=EA (a:=1) (b:=bu f.f1 s) wx (HG.o.below (cm aI.o aI.o.size oN)) F2 (sg s6.o s) (fun t ht=>s6.o t (wO _ _ t ht)) xm.o ow.o D2.o tCt
   rw[show(⟨f.f0,dm f.f1 s⟩:aj).f1.length=f.f1.length-1 from mL.symm,<- zr.o]at vp
   have HF:=ae vp
   clear hq oN tJ hx2 mL vk vn wx vp aK aC
   go_wp2_with (go_at_call 89;with_reducible(refine HF.o.mono ?_);rintro e aZ ⟨X,cX,rfl,hN,hb⟩;have gw:=ae hN;have aX:=av nI.o hb;have bq:=ae (au bS.o hb);have z0:aZ.cell? ⟨w.heap.size+1+1,0,none⟩=some (.int .i64 0):=(mj aX 0).trans rfl;have c2:aZ.cell? ⟨w.heap.size+1+1,1,none⟩=some (.slice none 0 0):=(mj aX 1).trans rfl;have g0:=ar aX 0;have g1:=ar aX 1;have eD:=az aX;have dL:=ae aX;clear aX hN hb)
   have q1:=a6 (a6 dL.o 0 (.int .i64 (dY ⟨f.f0,dm f.f1 s⟩ 1 g u.f1).f0) rfl) 1 (.slice X (dY ⟨f.f0,dm f.f1 s⟩ 1 g u.f1).f1.length cX) rfl
   refine bodyPost_ret (results_cell_row rfl _ _ (w.heap.size+1+1) 33 #[.int .i64 (dY ⟨f.f0,dm f.f1 s⟩ 1 g u.f1).f0,.slice X (dY ⟨f.f0,dm f.f1 s⟩ 1 g u.f1).f1.length cX] (0,0) _ rfl q1 Tryz.underlying33 rfl tA1) rfl ?_
   have hb:=(bq.o.setCell (p:=⟨w.heap.size+1+1,0,none⟩) tAf (.int .i64 (dY ⟨f.f0,dm f.f1 s⟩ 1 g u.f1).f0)).setCell (p:=⟨w.heap.size+1+1,1,none⟩) tAf (.slice X (dY ⟨f.f0,dm f.f1 s⟩ 1 g u.f1).f1.length cX)
   have hne:∀k,some k=(Value.slice X (dY ⟨f.f0,dm f.f1 s⟩ 1 g u.f1).f1.length cX).ownBlock->k≠w.heap.size+1+1:=fun k hk=>by
    have h1:=Kd.eK gw.o k hk.symm
    have h2:=az nI.o
    omega
   have hn:=Kd.gp (Kd.cw (p:=⟨w.heap.size+1+1,1,none⟩) (Kd.cw (p:=⟨w.heap.size+1+1,0,none⟩) gw.o hne (.int .i64 (dY ⟨f.f0,dm f.f1 s⟩ 1 g u.f1).f0)) hne (.slice X (dY ⟨f.f0,dm f.f1 s⟩ 1 g u.f1).f1.length cX)) bS.o.size
   rw[zr.o]at hn hb ⊢
   exact⟨X,cX,rfl,hn,hb⟩
  ·rename_i hh
   have ux:=ae (kW.o _ hh)
   clear hh
   have G8:=ae (NT HU.o s9.o jV.o)
   have zr:af (u.f1=bu f.f1 s):=⟨by rw[jd.o,<- lv.o]⟩
   have G1:af (w2.heap.size<=w3.heap.size):=⟨oz.o⟩
   refine Rf (S:=fun jh=>jh.heap[w3.heap.size]?=some (.cells #[.int .i64 f.f0,.slice (some ⟨Y,0,none⟩) (f.f1.length-1) cap] 33 (0,0))/\Below w2.heap.size w2 jh/\Kd.N cf 79 jh w2.heap.size (fun k=>k=Y) (.slice (some ⟨Y,0,none⟩) (f.f1.length-1) cap) (dm f.f1 s)) ⟨a6 (a6 y5.o 0 (.int .i64 f.f0) rfl) 1 (.slice (some ⟨Y,0,none⟩) (f.f1.length-1) cap) rfl,ux.o,by rw[<- G8.o];exact Kd.gp (Kd.cw (p:=⟨w3.heap.size,1,none⟩) (Kd.cw (p:=⟨w3.heap.size,0,none⟩) zf.o (fun k hk=>by have h2:=p5.o;have e':k=Y:=hk;show k≠w3.heap.size;omega) _) (fun k hk=>by have h2:=p5.o;have e':k=Y:=hk;show k≠w3.heap.size;omega) _) y4.o.size⟩ ?_
   rintro jh ⟨hq,oN,tJ⟩
   have d0:jh.cell? ⟨w3.heap.size,0,none⟩=some (.int .i64 f.f0):=ah hq 0
   have d1:jh.cell? ⟨w3.heap.size,1,none⟩=some (.slice (some ⟨Y,0,none⟩) (f.f1.length-1) cap):=ah hq 1
   have bS:=ae (au (au bI.o aI.o) oN)
   have hx2:=av (av cq.o aI.o) oN
   have d2:jh.cell? ⟨w.heap.size+1,0,none⟩=some (.int .i64 g.f0):=ah hx2 0
   have d3:jh.cell? ⟨w.heap.size+1,1,none⟩=some (.slice A' g.f1.length c'):=ah hx2 1
   have nI:=ae (av (av eC.o aI.o) oN)
   obtain⟨mL,vk,vn⟩:=Kd.ej tJ
   have wx:gl (some ⟨Y,0,none⟩) cap ⟨f.f0,dm f.f1 s⟩ jh:=⟨vn,tCh,bj (Dw _ _) kV.o,fun t ht=>fX.o.n2 t (wO _ _ t ht)⟩
   have vp:=EA (a:=1) (b:=bu f.f1 s) wx (HG.o.below (cm aI.o aI.o.size oN)) F2 (sg s6.o s) (fun t ht=>s6.o t (wO _ _ t ht)) xm.o ow.o D2.o tCt
   rw[show(⟨f.f0,dm f.f1 s⟩:aj).f1.length=f.f1.length-1 from mL.symm,<- zr.o]at vp
   have HF:=ae vp
   clear hq oN tJ hx2 mL vk vn wx vp aK aC
   go_wp2_with (go_at_call 89;with_reducible(refine HF.o.mono ?_);rintro e aZ ⟨X,cX,rfl,hN,hb⟩;have gw:=ae hN;have aX:=av nI.o hb;have bq:=ae (au bS.o hb);have z0:aZ.cell? ⟨w.heap.size+1+1,0,none⟩=some (.int .i64 0):=(mj aX 0).trans rfl;have c2:aZ.cell? ⟨w.heap.size+1+1,1,none⟩=some (.slice none 0 0):=(mj aX 1).trans rfl;have g0:=ar aX 0;have g1:=ar aX 1;have eD:=az aX;have dL:=ae aX;clear aX hN hb)
   have q1:=a6 (a6 dL.o 0 (.int .i64 (dY ⟨f.f0,dm f.f1 s⟩ 1 g u.f1).f0) rfl) 1 (.slice X (dY ⟨f.f0,dm f.f1 s⟩ 1 g u.f1).f1.length cX) rfl
   refine bodyPost_ret (results_cell_row rfl _ _ (w.heap.size+1+1) 33 #[.int .i64 (dY ⟨f.f0,dm f.f1 s⟩ 1 g u.f1).f0,.slice X (dY ⟨f.f0,dm f.f1 s⟩ 1 g u.f1).f1.length cX] (0,0) _ rfl q1 Tryz.underlying33 rfl tA1) rfl ?_
   have hb:=(bq.o.setCell (p:=⟨w.heap.size+1+1,0,none⟩) tAf (.int .i64 (dY ⟨f.f0,dm f.f1 s⟩ 1 g u.f1).f0)).setCell (p:=⟨w.heap.size+1+1,1,none⟩) tAf (.slice X (dY ⟨f.f0,dm f.f1 s⟩ 1 g u.f1).f1.length cX)
   have hne:∀k,some k=(Value.slice X (dY ⟨f.f0,dm f.f1 s⟩ 1 g u.f1).f1.length cX).ownBlock->k≠w.heap.size+1+1:=fun k hk=>by
    have h1:=Kd.eK gw.o k hk.symm
    have h2:=az nI.o
    omega
   have hn:=Kd.gp (Kd.cw (p:=⟨w.heap.size+1+1,1,none⟩) (Kd.cw (p:=⟨w.heap.size+1+1,0,none⟩) gw.o hne (.int .i64 (dY ⟨f.f0,dm f.f1 s⟩ 1 g u.f1).f0)) hne (.slice X (dY ⟨f.f0,dm f.f1 s⟩ 1 g u.f1).f1.length cX)) bS.o.size
   rw[zr.o]at hn hb ⊢
   exact⟨X,cX,rfl,hn,hb⟩
  ·rename_i hh
   have ux:=ae (kW.o _ hh)
   clear hh
   have G8:=ae (NT HU.o s9.o jV.o)
   have zr:af (u.f1=bu f.f1 s):=⟨by rw[jd.o,<- lv.o]⟩
   have G1:af (w2.heap.size<=w2.heap.size):=⟨bl _⟩
   refine Rf (S:=fun jh=>jh.heap[w2.heap.size]?=some (.cells #[.int .i64 f.f0,.slice (some ⟨Y,0,none⟩) (f.f1.length-1) cap] 33 (0,0))/\Below w2.heap.size w2 jh/\Kd.N cf 79 jh w2.heap.size (fun k=>k=Y) (.slice (some ⟨Y,0,none⟩) (f.f1.length-1) cap) (dm f.f1 s)) ⟨a6 (a6 y5.o 0 (.int .i64 f.f0) rfl) 1 (.slice (some ⟨Y,0,none⟩) (f.f1.length-1) cap) rfl,ux.o,by rw[<- G8.o];exact Kd.gp (Kd.cw (p:=⟨w2.heap.size,1,none⟩) (Kd.cw (p:=⟨w2.heap.size,0,none⟩) zf.o (fun k hk=>by have h2:=nJ.o;have e':k=Y:=hk;show k≠w2.heap.size;simp at h2;omega) _) (fun k hk=>by have h2:=nJ.o;have e':k=Y:=hk;show k≠w2.heap.size;simp at h2;omega) _) y4.o.size⟩ ?_
   rintro jh ⟨hq,oN,tJ⟩
   have d0:jh.cell? ⟨w2.heap.size,0,none⟩=some (.int .i64 f.f0):=ah hq 0
   have d1:jh.cell? ⟨w2.heap.size,1,none⟩=some (.slice (some ⟨Y,0,none⟩) (f.f1.length-1) cap):=ah hq 1
   have bS:=ae (au (au bI.o aI.o) oN)
   have hx2:=av (av cq.o aI.o) oN
   have d2:jh.cell? ⟨w.heap.size+1,0,none⟩=some (.int .i64 g.f0):=ah hx2 0
   have d3:jh.cell? ⟨w.heap.size+1,1,none⟩=some (.slice A' g.f1.length c'):=ah hx2 1
   have nI:=ae (av (av eC.o aI.o) oN)
   obtain⟨mL,vk,vn⟩:=Kd.ej tJ
   have wx:gl (some ⟨Y,0,none⟩) cap ⟨f.f0,dm f.f1 s⟩ jh:=⟨vn,tCh,bj (Dw _ _) kV.o,fun t ht=>fX.o.n2 t (wO _ _ t ht)⟩
   have vp:=EA (a:=1) (b:=bu f.f1 s) wx (HG.o.below (cm aI.o aI.o.size oN)) F2 (sg s6.o s) (fun t ht=>s6.o t (wO _ _ t ht)) xm.o ow.o D2.o tCt
   rw[show(⟨f.f0,dm f.f1 s⟩:aj).f1.length=f.f1.length-1 from mL.symm,<- zr.o]at vp
   have HF:=ae vp
   clear hq oN tJ hx2 mL vk vn wx vp aK aC
   go_wp2_with (go_at_call 89;with_reducible(refine HF.o.mono ?_);rintro e aZ ⟨X,cX,rfl,hN,hb⟩;have gw:=ae hN;have aX:=av nI.o hb;have bq:=ae (au bS.o hb);have z0:aZ.cell? ⟨w.heap.size+1+1,0,none⟩=some (.int .i64 0):=(mj aX 0).trans rfl;have c2:aZ.cell? ⟨w.heap.size+1+1,1,none⟩=some (.slice none 0 0):=(mj aX 1).trans rfl;have g0:=ar aX 0;have g1:=ar aX 1;have eD:=az aX;have dL:=ae aX;clear aX hN hb)
   have q1:=a6 (a6 dL.o 0 (.int .i64 (dY ⟨f.f0,dm f.f1 s⟩ 1 g u.f1).f0) rfl) 1 (.slice X (dY ⟨f.f0,dm f.f1 s⟩ 1 g u.f1).f1.length cX) rfl
   refine bodyPost_ret (results_cell_row rfl _ _ (w.heap.size+1+1) 33 #[.int .i64 (dY ⟨f.f0,dm f.f1 s⟩ 1 g u.f1).f0,.slice X (dY ⟨f.f0,dm f.f1 s⟩ 1 g u.f1).f1.length cX] (0,0) _ rfl q1 Tryz.underlying33 rfl tA1) rfl ?_
   have hb:=(bq.o.setCell (p:=⟨w.heap.size+1+1,0,none⟩) tAf (.int .i64 (dY ⟨f.f0,dm f.f1 s⟩ 1 g u.f1).f0)).setCell (p:=⟨w.heap.size+1+1,1,none⟩) tAf (.slice X (dY ⟨f.f0,dm f.f1 s⟩ 1 g u.f1).f1.length cX)
   have hne:∀k,some k=(Value.slice X (dY ⟨f.f0,dm f.f1 s⟩ 1 g u.f1).f1.length cX).ownBlock->k≠w.heap.size+1+1:=fun k hk=>by
    have h1:=Kd.eK gw.o k hk.symm
    have h2:=az nI.o
    omega
   have hn:=Kd.gp (Kd.cw (p:=⟨w.heap.size+1+1,1,none⟩) (Kd.cw (p:=⟨w.heap.size+1+1,0,none⟩) gw.o hne (.int .i64 (dY ⟨f.f0,dm f.f1 s⟩ 1 g u.f1).f0)) hne (.slice X (dY ⟨f.f0,dm f.f1 s⟩ 1 g u.f1).f1.length cX)) bS.o.size
   rw[zr.o]at hn hb ⊢
   exact⟨X,cX,rfl,hn,hb⟩
 ·have gy:af (fp f s g=f):=⟨aqS HU.o Bk.o (Y0 (JS HU.o) ig.o jK.o)⟩
  have bS:=ae (au bI.o aI.o)
  have nI:=ae (av eC.o aI.o)
  go_wp2_with (go_at_call 79;refine(Uj (fX.o.below aI.o)).mono ?_;rintro e aZ ⟨X,cap,rfl,hN,hb⟩;have gw:=ae hN;have aX:=av nI.o hb;have bq:=ae (au bS.o hb);have z0:aZ.cell? ⟨w.heap.size+1+1,0,none⟩=some (.int .i64 0):=(mj aX 0).trans rfl;have c2:aZ.cell? ⟨w.heap.size+1+1,1,none⟩=some (.slice none 0 0):=(mj aX 1).trans rfl;have g0:=ar aX 0;have g1:=ar aX 1;have eD:=az aX;have dL:=ae aX;clear aX hN hb)
  have q1:=a6 (a6 dL.o 0 (.int .i64 f.f0) rfl) 1 (.slice X f.f1.length cap) rfl
  refine bodyPost_ret (results_cell_row rfl _ _ (w.heap.size+1+1) 33 #[.int .i64 f.f0,.slice X f.f1.length cap] (0,0) _ rfl q1 Tryz.underlying33 rfl tA1) rfl ?_
  have hb:=(bq.o.setCell (p:=⟨w.heap.size+1+1,0,none⟩) tAf (.int .i64 f.f0)).setCell (p:=⟨w.heap.size+1+1,1,none⟩) tAf (.slice X f.f1.length cap)
  have hne:∀k,some k=(Value.slice X f.f1.length cap).ownBlock->k≠w.heap.size+1+1:=fun k hk=>by
   have h1:=Kd.eK gw.o k hk.symm
   have h2:=aI.o.size
   have h3:=km.o
   omega
  rw[gy.o]
  exact⟨X,cap,rfl,Kd.gp (Kd.cw (p:=⟨w.heap.size+1+1,1,none⟩) (Kd.cw (p:=⟨w.heap.size+1+1,0,none⟩) gw.o hne _) hne _) bS.o.size,hb⟩
end
end Go.Proofs.YtjgakaembhmhpaaGreatDoor.PA
