/- Part of the proof of SetsChanged: the walk and the plain laws. It holds without further conditions. -/
import Derived.Laws.ResultCell
import Derived.Test.YtjgakaembhmhpaaGreatDoorJAK
set_option linter.unusedVariables false
set_option linter.unusedSimpArgs false
set_option maxHeartbeats 16000000
set_option maxRecDepth 100000
namespace Go.Proofs.YtjgakaembhmhpaaGreatDoor.PA
open Go.RowKit Go.Proofs.YtjgakaembhmhpaaGreatDoorW.PrintWords Go.Proofs.YtjgakaembhmhpaaGreatDoorW.PrintLast Go.Proofs.YtjgakaembhmhpaaGreatDoorW.PrintMore Go.Proofs.YtjgakaembhmhpaaGreatDoorM
theorem VI {c:Int}(h: -2000000<=c/\c<=2000000):(Lit.int .i64 c).wf=true:=by
 simp only[Lit.wf,IntKind.min,IntKind.max,IntKind.signed,IntKind.bits,Bool.and_eq_true,decide_eq_true_eq,if_true]
 omega
theorem CR {s:ByteArray}(h:eE s=true):1<=s.size/\s.size<=40:=by
 unfold eE at h
 simp only[Bool.and_eq_true,decide_eq_true_eq]at h
 exact h.1
theorem aqe {sides:List aq}{conds:List aj}(h:Valid sides conds):yH sides conds=true:=by
 unfold yH wL NB
 have hl:=h.len
 simp only[Bool.and_eq_true,decide_eq_true_eq,List.all_eq_true]
 refine⟨⟨tA0,fun s hs=>?_,fun f hf=>?_⟩,fun s hs=>?_⟩
 ·obtain⟨h1,h2,h3⟩:=h.sd s hs
  have:=CR h1
  exact⟨tAw,VI tA0,VI tA0⟩
 ·obtain⟨h1,h2,h3⟩:=h.L8 f hf
  refine⟨VI tA0,tA0,fun t ht=>?_⟩
  have:=CR (h3 t ht).1.1
  unfold maxLen
  omega
 ·obtain⟨h1,h2,h3⟩:=h.sd s hs
  omega
theorem wrap_add (a b:Int):wrap64 (wrap64 a+b)=wrap64 (a+b):=tCo
theorem as5 (a b:Int):wrap64 (a+wrap64 b)=wrap64 (a+b):=tCo
theorem ZL (of:ByteArray->Int):∀(l:List ay) (n:Int),wm of (wrap64 n) l=wrap64 (n+(l.map fun t=>t.f1 * of t.f0).sum)
 | [],n=>by simp[wm]
 | t::r,n=>by
  have ih:=ZL of r (n+t.f1 * of t.f0)
  unfold wm at ih ⊢
  rw[List.foldl_cons,as5,wrap_add,ih,List.map_cons,List.sum_cons]
  congr 1
  omega
theorem aey (sides:List aq)(x:List Int)(s:ByteArray)(n:Nat)(hn:n<sides.length)(hs:(sides.getD n z77).f0=s)(hnd:(sides.map (·.f0)).Nodup):∀k,k<=sides.length->wZ sides x k s=if n<k then x.getD n 0 else 0
 | 0,_=>by simp[wZ]
 | k+1,hk=>by
  rw[wZ,aey sides x s n hn hs hnd k tA0]
  by_cases e:s=(sides.getD k z77).f0
  ·have MS:k=n:=by
    have h1:k< (sides.map (·.f0)).length:=tAb
    have h2:n< (sides.map (·.f0)).length:=tAb
    refine(List.getElem_inj hnd (h₀:=h1) (h₁:=h2)).1 ?_
    simp only[List.getElem_map]
    have e1:(sides.getD k z77)=sides[k]:=by simp[List.getD,b8 (show k<sides.length by omega)]
    have e2:(sides.getD n z77)=sides[n]:=by simp[List.getD,b8 hn]
    rw[<- e1,<- e2,<- e,hs]
   subst MS
   rw[if_pos e,if_pos tA0]
  ·rw[if_neg e]
   have MS:n≠k:=fun h=>e (by rw[<- hs,h])
   by_cases h:n<k
   ·rw[if_pos h,if_pos tA0]
   ·rw[if_neg h,if_neg tA0]
theorem aeh {sides:List aq}{conds:List aj}(h:Valid sides conds)(x:List Int){f:aj}(hf:f∈conds):valueOf sides x f=F9 sides x f:=by
 obtain⟨h1,h2,h3⟩:=h.L8 f hf
 unfold valueOf F9
 have e0:f.f0=wrap64 f.f0:=(eM _ tA0).symm
 have:=ZL (fun n=>rd x (idxFrom (fun s:aq=>s.f0.toList==n.toList) sides 0)) f.f1 f.f0
 rw[<- e0]at this
 rw[this]
 congr 2
 have key:∀l:List ay,(∀t∈l,eE t.f0=true/\t.f0∈sides.map (·.f0))->(l.map fun t=>t.f1 * rd x (idxFrom (fun s:aq=>s.f0.toList==t.f0.toList) sides 0))=l.map fun t=>t.f1 * F8 sides x t.f0:=fun l hl=>by
  apply List.map_congr_left
  intro t ht
  obtain⟨a1,a2⟩:=hl t ht
  obtain⟨n,b1,b2,b3⟩:=T3 sides t.f0 a2
  have hne:t.f0≠⟨#[]⟩:=fun e=>by
   have:=(CR a1).1
   rw[e]at this
   exact absurd this tA3
  unfold F8
  rw[if_neg hne,aey sides x t.f0 n b1 b3 h.cg sides.length (bl _),if_pos b1,b2]
  simp[rd,gg]
 rw[key f.f1 (fun t ht=>⟨(h3 t ht).1.1,(h3 t ht).2⟩)]
theorem T8 {sides:List aq}{conds:List aj}(h:Valid sides conds):lf sides conds=j1 sides conds:=by
 funext x
 unfold lf j1
 congr 2
 rw[Bool.eq_iff_iff,List.any_eq_true,List.any_eq_true]
 constructor
 ·rintro⟨f,hf,hv⟩
  exact⟨f,hf,by rw[<- aeh h x hf];exact hv⟩
 ·rintro⟨f,hf,hv⟩
  exact⟨f,hf,by rw[aeh h x hf];exact hv⟩
def ER:List aq->Nat
 | []=>1
 | s::r=>(s.f2+1-s.f1).toNat * ER r
theorem aeg:∀(c:Nat) (lo:Int),(oX lo c).length=c
 | 0,_=>rfl
 | c+1,lo=>by simp[oX,aeg c]
theorem ZF (f:Int->List (List Int))(m:Nat)(hf:∀v,(f v).length=m):∀l:List Int,(l.flatMap f).length=l.length * m
 | []=>tA2
 | v::r=>by rw[List.flatMap_cons,fZ,ZF f m hf r,hf,i6,Nat.add_mul];omega
theorem Yo:∀sides:List aq,(lG sides).length=ER sides
 | []=>rfl
 | s::r=>by
  rw[lG,ZF _ (ER r) (fun v=>by rw[fc,Yo r]),aeg]
  rfl
theorem Yy:∀(l:List aq) (n:Nat),1<=n->n<=200000->(∀s∈l,s.f1<=s.f2/\ -1000000<=s.f1/\s.f2<=1000000)->zD (n:Int) l=0->n * ER l<=200000
 | [],n,h0,h1,_,_=>by simp[ER];exact h1
 | s::r,n,h0,h1,hb,h=>by
  obtain⟨b1,b2,b3⟩:=hb s tA2
  obtain⟨c,hc⟩:∃c:Nat,s.f2+1-s.f1=(c:Int):=⟨(s.f2+1-s.f1).toNat,tA0⟩
  have e1:wrap64 (s.f2-s.f1)=s.f2-s.f1:=eM _ tA0
  have e2:wrap64 (s.f2-s.f1+1)=(c:Int):=by rw[show s.f2-s.f1+1=(c:Int) by omega];exact eM _ tA0
  have hc1:c<=2000001:=tA0
  have hc0:1<=c:=tA0
  have hm:n * c<=200000 * 2000001:=Nat.mul_le_mul h1 hc1
  have e3:wrap64 ((n:Int) * (c:Int))=((n * c:Nat):Int):=by
   rw[<- Int.natCast_mul]
   exact eM _ tA0
  rw[zD,e1,e2,e3]at h
  by_cases hg:((n * c:Nat):Int)>200000
  ·rw[if_pos hg]at h;simp at h
  ·rw[if_neg hg]at h
   have:=Yy r (n * c) (Nat.mul_pos h0 hc0) tA0 (fun y hy=>hb y tB4) h
   rw[ER,hc,eQ,<- Nat.mul_assoc]
   exact this
def j6 (sides:List aq)(conds:List aj):List (List Int):=if sides.any (fun v=>decide (v.f2<v.f1))=true then []else(lG sides).filter (j1 sides conds)
theorem Yq {sides:List aq}{conds:List aj}(h:Valid sides conds):sides.any (fun v=>decide (v.f2<v.f1))=true\/(lG sides).length<=200000:=by
 by_cases he:sides.any (fun v=>decide (v.f2<v.f1))=true
 ·exact .inl he
 ·right
  have hle:∀v∈sides,v.f1<=v.f2:=fun v hv=>by
   have:¬ v.f2<v.f1:=fun hl=>he (List.any_eq_true.2 ⟨v,hv,tBj⟩)
   omega
  have S4:=h.em
  unfold yg at S4
  have hg:¬ sides.any (fun s=>decide (s.f1>s.f2))=true:=he
  rw[if_neg hg]at S4
  have:=Yy sides 1 tA0 tA0 (fun s hs=>⟨hle s hs,(h.sd s hs).2.1.1,(h.sd s hs).2.2.2⟩) S4
  rw[Yo]
  omega
theorem aqR {sides:List aq}{conds:List aj}(h:Valid sides conds):(j6 sides conds).length<=200000:=by
 unfold j6
 rcases Yq h with he|he
 ·rw[if_pos he];simp
 ·split
  ·simp
  ·exact bj (List.length_filter_le _ _) he
theorem ak3 {σ:Type}{sides:List aq}{conds:List aj}(h:Valid sides conds)(st:σ->List Int->Bool×σ)(s:σ)(k:Nat)(hk:300000<=k):yf k sides conds st s=some (qF (fun _=>true) st s (j6 sides conds)):=by
 rcases Yq h with he|he
 ·unfold yf j6
  rw[if_pos he,if_pos he]
  rfl
 ·rw[ak1 sides conds (fun v hv=>by have:=h.sd v hv;omega) st s k tA0]
  unfold j6
  by_cases hb:sides.any (fun v=>decide (v.f2<v.f1))=true
  ·rw[if_pos hb,if_pos hb];rfl
  ·rw[if_neg hb,if_neg hb,U2,T8 h]
theorem aqG {sides:List aq}{conds:List aj}(h:Valid sides conds):AA.f sides conds=some (j6 sides conds):=by
 have hp:=aqR h
 unfold AA.f
 rw[if_pos (aqe h)]
 unfold j6 at hp ⊢
 by_cases hb:sides.any (fun v=>decide (v.f2<v.f1))=true
 ·rw[if_pos hb,if_pos hb]
 ·rw[if_neg hb]at hp
  rw[if_neg hb,if_neg hb]
  have e:qj (j1 sides conds) sides []=(lG sides).filter (j1 sides conds):=by
   rw[Zl]
   congr 1
   have:(fun x:List Int=>([]:List Int)++x)=id:=by funext x;rfl
   rw[this,List.map_id]
  rw[e,if_pos (by unfold BG;omega)]
structure cD (A:Option Addr)(c:Nat)(l0:List aq)(A':Option Addr)(c':Nat)(l1:List aj)(w:World):Prop where
 hs:Kd.C cu w A l0.length l0
 hc:l0.length<=c
 ks:Kd.C bc w A' l1.length l1
 kc:l1.length<=c'
 n1:∀s∈l0,s.f0.size<=100
 n2:l1.length<=1000
 n3:∀f∈l1,f.f1.length<=1000/\∀t∈f.f1,t.f0.size<=100
section
variable {A A':Option Addr}{c c':Nat}{l0:List aq}{l1:List aj}{w w':World}
theorem cD.below (h:cD A c l0 A' c' l1 w)(hb:Below w.heap.size w w'):cD A c l0 A' c' l1 w':=
 ⟨Kd.bN h.hs hb,h.hc,Kd.bN h.ks hb,h.kc,h.n1,h.n2,h.n3⟩
theorem XV (h:cD A c l0 A' c' l1 w):Calls Tryz.prog 11 #[.agg #[.slice A l0.length c,.slice A' l1.length c']] w fun e w'=>e= .returned (.int .i64 (cQ l0 l1))/\Below w.heap.size w w':=
 eA.calls 300000 A c l0 A' c' l1 _ w h.hs h.hc h.ks h.kc (aqY l0 h.n1 l1 h.n2 h.n3 300000 tA0)
theorem Ep (h:cD A c l0 A' c' l1 w):Calls Tryz.prog 51 #[.agg #[.slice A l0.length c,.slice A' l1.length c']] w fun e w'=>e= .returned (.int .i64 (cQ l0 l1))/\Below w.heap.size w w':=
 en.calls 300000 A c l0 A' c' l1 _ w h.hs h.hc h.ks h.kc (akj l0 h.n1 l1 h.n2 h.n3 300000 tA0)
theorem aip (h:cD A c l0 A' c' l1 w)(e:cQ l0 l1=0):
  Calls Tryz.prog 34 #[.agg #[.slice A l0.length c,.slice A' l1.length c']] w fun e w'=>∃(X:Option Addr) (cx:Nat),e= .returned (.slice X (j6 l0 l1).length cx)/\Kd.C (Kd.slice 3 (Kd.int .i64)) w' X (j6 l0 l1).length (j6 l0 l1)/\Below w.heap.size w w':=
 (AA.calls A c l0 A' c' l1 _ w h.hs h.hc h.ks h.kc (aqG (iT e))).mono fun e w' ⟨v,he,hv,hb⟩=>by
  obtain⟨X,cx,rfl⟩:∃X cx,v= .slice X (j6 l0 l1).length cx:=Kd.ajp hv
  exact⟨X,cx,he,(Kd.ajo hv).2.2,hb⟩
end
structure gl (ed:Option Addr)(dR:Nat)(f:aj)(w:World):Prop where
 tm:Kd.C cf w ed f.f1.length f.f1
 tc:f.f1.length<=dR
 n1:f.f1.length<=1000
 n2:∀t∈f.f1,t.f0.size<=100
theorem gl.below {ed:Option Addr}{dR:Nat}{f:aj}{w w':World}(h:gl ed dR f w)(hb:Below w.heap.size w w'):gl ed dR f w':=
 ⟨Kd.bN h.tm hb,h.tc,h.n1,h.n2⟩
theorem aio {A A' ed:Option Addr}{c c' dR:Nat}{l0:List aq}{l1:List aj}{f:aj}{w:World}(h:cD A c l0 A' c' l1 w)(g:gl ed dR f w):
  Calls Tryz.prog 52 #[.agg #[.slice A l0.length c,.slice A' l1.length c'],.agg #[.int .i64 f.f0,.slice ed f.f1.length dR]] w fun e w'=>e= .returned (.int .i64 (gG (l0.map (·.f0)) f))/\Below w.heap.size w w':=
 mh.calls 300000 A c l0 A' c' l1 f.f0 ed dR f.f1 _ w h.hs h.hc h.ks h.kc g.tm g.tc (YO l0 l1 f g.n1 g.n2 300000 tA0)
def BL (aT Bs:Nat)(dF cH:Value)(W:World):Prop:=(W.cell? ⟨Bs,0,none⟩=some dF/\W.cell? ⟨Bs,1,none⟩=some cH/\W.frozen? ⟨Bs,0,none⟩=false/\W.frozen? ⟨Bs,1,none⟩=false/\Bs<W.heap.size)/\(W.cell? ⟨aT,0,none⟩=some (.slice none 0 0)/\W.cell? ⟨aT,1,none⟩=some (.slice none 0 0)/\W.frozen? ⟨aT,0,none⟩=false/\W.frozen? ⟨aT,1,none⟩=false/\aT<W.heap.size)
theorem yO {aT Bs:Nat}{dF cH:Value}{W:World}(h1:W.heap[Bs]?=some (.cells #[dF,cH] 29 (0,0)))(h2:W.heap[aT]?=some (.cells #[.slice none 0 0,.slice none 0 0] 29 (0,0))):BL aT Bs dF cH W:=
 ⟨⟨ah h1 0,ah h1 1,ar h1 0,ar h1 1,az h1⟩,ah h2 0,ah h2 1,ar h2 0,ar h2 1,az h2⟩
section
variable {w0:World}{g aT Bs:Nat}{d:List Int}{b b':Nat}{cj ct FT:Nat->Prop}{dF cH:Value}{vars l0:List aq}{conds l1:List aj}{A A':Option Addr}{c c':Nat}{W w1:World}
theorem aqX {fg:Nat}{cells:Array Value}{vs:List aq}(hv:W.heap[fg]?=some (.cells cells 77 (0,0)))(h:Kd.C cu W (some ⟨fg,0,none⟩) vs.length vs)(hp:0<vs.length)(r:Int):
  ∃tY:List aq,tY.length=vs.length/\(∀v∈tY,∃u∈vs,v.f0=u.f0)/\Kd.F cu (W.setCell ⟨fg,1,none⟩ (.int .i64 r)) (fun k=>k=fg) (some ⟨fg,0,none⟩) tY.length tY:=by
 cases vs with
 | nil=>simp at hp
 | cons v0 asV=>
  obtain⟨_,hm,hn⟩:=h
  obtain⟨ad,e,hcell⟩:=hn hp
  injection e with e
  subst e
  refine⟨⟨v0.f0,r,v0.f2⟩::asV,rfl,fun v hv=>?_,fun W' hW=>⟨rfl,hm,fun _=>⟨_,rfl,fun j p hj=>?_⟩⟩⟩
  ·rcases List.mem_cons.1 hv with rfl|hv
   ·exact⟨v0,tA2,rfl⟩
   ·exact⟨v,by simp[hv],rfl⟩
  ·have hl:fg< (W.setCell ⟨fg,1,none⟩ (.int .i64 r)).heap.size:=by simpa[World.setCell]using az hv
   have abD:∀i,W'.cell? ⟨fg,i,none⟩=(W.setCell ⟨fg,1,none⟩ (.int .i64 r)).cell? ⟨fg,i,none⟩:=fun i=>by
    simp[World.cell?,hW fg rfl hl]
   cases j with
   | zero=>
    obtain⟨bf,hc1,hc2,hc3⟩:=hcell 0 v0 rfl
    obtain rfl:=Np hc2
    simp only[List.getElem?_cons_zero,Option.some.injEq]at hj
    subst hj
    refine⟨[.string v0.f0,.int .i64 r,.int .i64 v0.f2],rfl,⟨[.string v0.f0],[.int .i64 r,.int .i64 v0.f2],rfl,rfl,[.int .i64 r],[.int .i64 v0.f2],rfl,rfl,rfl⟩,fun i u hu=>?_⟩
    have ha:(⟨fg,0,none⟩:Addr).add (0 * cu.sz+i)=⟨fg,i,none⟩:=by rw[add_plain];simp
    rw[ha,abD]
    match i,hu with
    | 0,hu=>
     have:=hc3 0 _ rfl
     rw[show(⟨fg,0,none⟩:Addr).add (0 * cu.sz+0)=⟨fg,0,none⟩ by rw[add_plain];simp]at this
     rw[World.cell?_setCell_other _ _ _ _ tA2]
     simp at hu
     rw[this,hu]
    | 1,hu=>
     have:=hc3 1 _ rfl
     rw[show(⟨fg,0,none⟩:Addr).add (0 * cu.sz+1)=⟨fg,1,none⟩ by rw[add_plain];simp]at this
     rw[World.cell?_setCell_same _ _ _ this]
     simpa using hu
    | 2,hu=>
     have:=hc3 2 _ rfl
     rw[show(⟨fg,0,none⟩:Addr).add (0 * cu.sz+2)=⟨fg,2,none⟩ by rw[add_plain];simp]at this
     rw[World.cell?_setCell_other _ _ _ _ tA2]
     simp at hu
     rw[this,hu]
    | i+3,hu=>simp at hu
   | succ j=>
    simp only[List.getElem?_cons_succ]at hj
    obtain⟨bf,hc1,hc2,hc3⟩:=hcell (j+1) p tAv
    refine⟨bf,hc1,hc2,fun i u hu=>?_⟩
    have:=hc3 i u hu
    have hsz:cu.sz=3:=rfl
    rw[hsz,add_plain]at this ⊢
    rw[abD,World.cell?_setCell_other _ _ _ _ (by intro e;injection e with _ e _;omega)]
    exact this
end
def nZ (s:ByteArray):Prop:=s.size<=10
def Modest (l0:List aq)(l1:List aj):Prop:=l0.length<=10/\(∀v∈l0,nZ v.f0)/\l1.length<=130/\∀f∈l1,f.f1.length<=10/\∀t∈f.f1,nZ t.f0
abbrev CL:List ByteArray:=[⟨#[105]⟩,⟨#[106]⟩,⟨#[107]⟩]
theorem FU:(Tryz.prog.info? 77).map (fun i=>(i.zero,i.size,i.bytes))=some (some (.agg #[.string ⟨#[]⟩,.int .i64 0,.int .i64 0]),3,32):=tA1
theorem Sk (W:World)(a:ByteArray)(b c:Int):Kd.eI cu W (fun _=>False) ⟨a,b,c⟩ [.string a,.int .i64 b,.int .i64 c]:=fun W' _=>⟨[.string a],[.int .i64 b,.int .i64 c],rfl,rfl,[.int .i64 b],[.int .i64 c],rfl,rfl,rfl⟩
theorem Ac:(Tryz.prog.info? 79).map (fun i=>(i.zero,i.size,i.bytes))=some (some (.agg #[.string ⟨#[]⟩,.int .i64 0]),2,24):=tA1
theorem yh (W:World)(a:ByteArray)(b:Int):Kd.eI cf W (fun _=>False) ⟨a,b⟩ [.string a,.int .i64 b]:=fun W' _=>⟨[.string a],[.int .i64 b],rfl,rfl,rfl⟩
def Uy (conds:List aj):Prop:=∀f∈conds,f.f1.length<=10/\∀t∈f.f1,nZ t.f0
theorem ao4 (kk:Nat):nZ (CL.getD kk ByteArray.empty):=by
 unfold nZ
 match kk with
 | 0=>decide
 | 1=>decide
 | 2=>decide
 | n+3=>simp[List.getD]
theorem aco {r:Int}{l:List Int}(h:r∈l)(hl:l.all (fun x=>decide (-2000000<=x)&&decide (x<=2000000))=true): -2000000<=r/\r<=2000000:=by
 have:=List.all_eq_true.1 hl r h
 simpa using this
theorem asl {y:ByteArray}(h:y∈([⟨#[105]⟩,⟨#[]⟩,⟨#[113]⟩]:List ByteArray)):nZ y:=by
 simp only[List.mem_cons,List.not_mem_nil,or_false]at h
 unfold nZ
 rcases h with rfl|rfl|rfl<;>decide
theorem asm {y:ByteArray}(h:y∈([⟨#[113]⟩,⟨#[105]⟩,⟨#[]⟩]:List ByteArray)):nZ y:=by
 simp only[List.mem_cons,List.not_mem_nil,or_false]at h
 unfold nZ
 rcases h with rfl|rfl|rfl<;>decide
theorem alE {W:World}{X:Nat}{a:ByteArray}{b:Int}(h:W.heap[X]?=some (.cells #[.string a,.int .i64 b] 79 (0,0))):Kd.eI bc W (fun k=>k=X) ⟨0,[⟨a,b⟩]⟩ [.int .i64 0,.slice (some ⟨X,0,none⟩) 1 1]:=by
 intro W' hW
 have h':=(hW X rfl (az h)).trans h
 refine⟨[.int .i64 0],[.slice (some ⟨X,0,none⟩) 1 1],rfl,rfl,some ⟨X,0,none⟩,1,rfl,bl _,rfl,(show 1<=9223372036854775807 by decide),fun _=>⟨_,rfl,fun j p hj=>?_⟩⟩
 have Tg:j=0:=by
  have:=(iC.1 hj).1
  simp at this
  exact this
 subst Tg
 have hp:p=⟨a,b⟩:=by simpa using hj.symm
 subst hp
 refine⟨[.string a,.int .i64 b],rfl,⟨[.string a],[.int .i64 b],rfl,rfl,rfl⟩,fun i u hu=>?_⟩
 show W'.cell? (Addr.add ⟨X,0,none⟩ (0 * 2+i))=_
 rw[Nat.zero_mul,Nat.zero_add,add_plain,mj h' i]
 simpa using hu
theorem H6 {α:Type}(d:Kd α)(e:Nat)(w:World)(base:Nat)(hb:base<=w.heap.size)(ok:Nat->Prop)(ho:ok w.heap.size):Kd.N d e (w.alloc (.cells #[] e)) base ok (.slice (some ⟨w.heap.size,0,none⟩) 0 0) []:=
 Kd.Yb ⟨fun k hk=>by simp[Value.ownBlock]at hk;subst hk;exact ho,[],World.ownsRow_made w #[] 0 hb (Nat.zero_le _) tA2,bU.none _ _⟩
theorem tk {α:Type}{d:Kd α}(hd:∀(w w':World) x c,d.K w x c->d.K w' x c){e:Nat}{w:World}{base:Nat}{ok:Nat->Prop}{v:Value}{xs:List α}(h:Kd.N d e w base ok v xs):Kd.N d e w base (fun k=>some k=v.ownBlock) v xs:=by
 obtain⟨h0,rows,hl,hr,hf⟩:=h
 exact⟨fun k hk=>hk.symm,rows,hl,hr,fun j x c hx hc W' _=>hd _ _ _ _ (Kd.o6 (hf j x c hx hc))⟩
theorem B4:∀(w w':World) x c,cf.K w x c->cf.K w' x c:=fun _ _ _ _ h=>h
theorem B3:∀(w w':World) x c,cu.K w x c->cu.K w' x c:=fun _ _ _ _ h=>h
theorem aaA:Kd.Heap cf:=Kd.S3 _ (Kd.MI Kd.aaB (Kd.MH _))
theorem amS:Kd.Heap cu:=Kd.S3 _ (Kd.MI Kd.aaB (Kd.MI (Kd.MH _) (Kd.MH _)))
theorem zP:Kd.Heap bc:=Kd.S3 _ (Kd.MI (Kd.MH _) (Kd.amU _ aaA))
theorem RH {A:Option Addr}{c:Nat}{l:List ay}{w:World}(h:Kd.C cf w A l.length l)(hl:l.length<=1000000):
  Calls Tryz.prog 107 #[.slice A l.length c] w fun e w'=>∃X cap,e= .returned (.slice X l.length cap)/\Kd.N cf 79 w' w.heap.size (fun _=>True) (.slice X l.length cap) l/\Below w.heap.size w w':=by
 have bT:=ae h
 have br:af ((0+l.length) * 24<=140737488355328):=⟨tA0⟩
 have q:∀(w:World) (a:Option Addr) (n c n' c':Nat),(binOp .eql 31 (.slice a n c) (.slice none n' c')).run Tryz.prog w= .ok (.bool a.isNone) w:=fun w a n c n' c'=>Lib.run_eql_slice_nil w _ _ a n c n' c' Tryz.underlying31
 cases A with
 | none=>
  obtain rfl:l=[]:=by
   cases l with
   | nil=>rfl
   | cons x r=>obtain⟨_,_,hn⟩:=h;obtain⟨ad,e,_⟩:=hn tA2;cases e
  clear h bT br
  go_enter Tryz.func107,Tryz.ntmps107
  go_wp2
  go_ret
  exact⟨none,0,rfl,Kd.i1 _ _ _ _ _,Below.refl _ _⟩
 | some ad=>
  have bm:=ae (H6 cf 79 w w.heap.size (bl _) (fun _=>True) trivial)
  have ak:=ae (ax (Below.refl w.heap.size w) (.cells #[] 79))
  have fX:=ae (Kd.V5 (Kd.vF aaA h) (.cells #[] 79))
  clear h
  go_enter Tryz.func107,Tryz.ntmps107
  go_wp2_with (at_builtin;refine Kd.Ev cf w.heap.size rfl (.tmp 5) (.tmp 6) 31 79 (.agg #[.string ⟨#[]⟩,.int .i64 0]) 24 rfl Tryz.underlying31 Ac rfl tA3 tA3 (.slice (some ⟨w.heap.size,0,none⟩) 0 0) [] l (some ad) l.length c (fun _=>True) (fun k=>k<w.heap.size) rfl rfl bm.o fX.o (fun k hk=>⟨trivial,by simp[Value.ownBlock];omega⟩) (fun _ _=>trivial) ak.o ak.o.size br.o ?_;intro v6 aY cd cG dI fh;obtain⟨dn,c6,rfl⟩:=Kd.c3 cd;have dr:=ae cd;have cP:=ae cG;clear cd cG dI fh)
  go_ret
  exact⟨dn,c6,rfl,dr.o,cP.o⟩
theorem L9 {A:Option Addr}{c:Nat}{l:List aq}{w:World}(h:Kd.C cu w A l.length l)(hl:l.length<=1000000):
  Calls Tryz.prog 83 #[.slice A l.length c] w fun e w'=>∃X cap,e= .returned (.slice X l.length cap)/\Kd.N cu 77 w' w.heap.size (fun _=>True) (.slice X l.length cap) l/\Below w.heap.size w w':=by
 have bT:=ae h
 have br:af ((0+l.length) * 32<=140737488355328):=⟨tA0⟩
 have q:∀(w:World) (a:Option Addr) (n c n' c':Nat),(binOp .eql 26 (.slice a n c) (.slice none n' c')).run Tryz.prog w= .ok (.bool a.isNone) w:=fun w a n c n' c'=>Lib.run_eql_slice_nil w _ _ a n c n' c' Tryz.underlying26
 cases A with
 | none=>
  obtain rfl:l=[]:=by
   cases l with
   | nil=>rfl
   | cons x r=>obtain⟨_,_,hn⟩:=h;obtain⟨ad,e,_⟩:=hn tA2;cases e
  clear h bT br
  go_enter Tryz.func83,Tryz.ntmps83
  go_wp2
  go_ret
  exact⟨none,0,rfl,Kd.i1 _ _ _ _ _,Below.refl _ _⟩
 | some ad=>
  have bm:=ae (H6 cu 77 w w.heap.size (bl _) (fun _=>True) trivial)
  have ak:=ae (ax (Below.refl w.heap.size w) (.cells #[] 77))
  have fX:=ae (Kd.V5 (Kd.vF amS h) (.cells #[] 77))
  clear h
  go_enter Tryz.func83,Tryz.ntmps83
  go_wp2_with (at_builtin;refine Kd.Ev cu w.heap.size rfl (.tmp 5) (.tmp 6) 26 77 (.agg #[.string ⟨#[]⟩,.int .i64 0,.int .i64 0]) 32 rfl Tryz.underlying26 FU rfl tA3 tA3 (.slice (some ⟨w.heap.size,0,none⟩) 0 0) [] l (some ad) l.length c (fun _=>True) (fun k=>k<w.heap.size) rfl rfl bm.o fX.o (fun k hk=>⟨trivial,by simp[Value.ownBlock];omega⟩) (fun _ _=>trivial) ak.o ak.o.size br.o ?_;intro v6 aY cd cG dI fh;obtain⟨dn,c6,rfl⟩:=Kd.c3 cd;have dr:=ae cd;have cP:=ae cG;clear cd cG dI fh)
  go_ret
  exact⟨dn,c6,rfl,dr.o,cP.o⟩
theorem sQ {P:Program}{fn:Func}{p u:Tmp}{ty:TypeId}(h:fn.results=#[.cell p ty,.tmp u])(tmps:Array Value)(w:World)(g:Nat)(t:TypeId)(cs:Array Value)(fr:Nat×Nat)(d:TypeDesc)
  (hp:tmps.getD p undef= .pointer (some ⟨g,0,none⟩)) (hg:w.heap[g]?=some (.cells cs t fr))
  (hu:P.underlying ty=some d) (hd:(match d with| .struct _| .array _ _=>true|_=>false)=true) (hi:(P.info? ty).map (·.size)=some cs.size):
  (results fn tmps).run P w= .ok (.tuple #[.agg cs,tmps.getD u undef]) w:=by
 rw[results_cell_tmp h]
 rw[hp]
 simp[asAddr,run_loadVar_row w g t ty cs fr d hg hu hd hi,Result.andThen]
def lO (l0:List aq)(l1:List aj):List aq×List aj×Int:=if cQ l0 l1=0 then(l0,l1,0)else([],[],cQ l0 l1)
theorem cD.none (w:World):cD none 0 [] none 0 [] w:=⟨Kd.yY _ _,bl _,Kd.yY _ _,bl _,tA2,tA2,tA2⟩
theorem ako {A A':Option Addr}{c c':Nat}{l0:List aq}{l1:List aj}{w:World}(h:cD A c l0 A' c' l1 w){r0:List aq}{r1:List aj}{r:Int}(e:lO l0 l1=(r0,r1,r)):
  Calls Tryz.prog 32 #[.agg #[.slice A l0.length c,.slice A' l1.length c']] w fun e w'=>∃X cx X' cx',e= .returned (.tuple #[.agg #[.slice X r0.length cx,.slice X' r1.length cx'],.int .i64 r])/\cD X cx r0 X' cx' r1 w'/\Below w.heap.size w w':=by
 have bI:=ae (ax (ax (Below.refl w.heap.size w) (.cells #[.slice A l0.length c,.slice A' l1.length c'] 29)) (.cells #[.slice none 0 0,.slice none 0 0] 29))
 have cJ:=ae (aH (a8 w (.cells #[.slice A l0.length c,.slice A' l1.length c'] 29)) (.cells #[.slice none 0 0,.slice none 0 0] 29))
 have cq:=ae (by simpa using a8 (w.alloc (.cells #[.slice A l0.length c,.slice A' l1.length c'] 29)) (.cells #[.slice none 0 0,.slice none 0 0] 29):((w.alloc (.cells #[.slice A l0.length c,.slice A' l1.length c'] 29)).alloc (.cells #[.slice none 0 0,.slice none 0 0] 29)).heap[w.heap.size+1]?=some (.cells #[.slice none 0 0,.slice none 0 0] 29))
 have HC:=ae (XV (h.below bI.o))
 have a7:=ae h
 unfold lO at e
 by_cases e0:cQ l0 l1=0
 ·rw[if_pos e0]at e
  simp only[Prod.mk.injEq]at e
  obtain⟨rfl,rfl,rfl⟩:=e
  rw[e0]at HC
  clear h e0
  go_enter Tryz.func32,Tryz.ntmps32
  go_wp2_with (go_at_call 11;refine HC.o.mono ?_;rintro e w2 ⟨rfl,hb⟩;have aI:=ae (au bI.o hb);have b1:=av cJ.o hb;have b2:=av cq.o hb;have aK:w2.cell? ⟨w.heap.size,0,none⟩=some (.slice A l0.length c):=(mj b1 0).trans rfl;have aC:w2.cell? ⟨w.heap.size,1,none⟩=some (.slice A' l1.length c'):=(mj b1 1).trans rfl;have x0:w2.cell? ⟨w.heap.size+1,0,none⟩=some (.slice none 0 0):=(mj b2 0).trans rfl;have x1:w2.cell? ⟨w.heap.size+1,1,none⟩=some (.slice none 0 0):=(mj b2 1).trans rfl;have IG:=ar b2 0;have IH:=ar b2 1;have l8:=ae b2;clear b1 b2 hb HC)
  have q1:=a6 (a6 l8.o 0 (.slice A l0.length c) rfl) 1 (.slice A' l1.length c') rfl
  refine bodyPost_ret (sQ rfl _ _ (w.heap.size+1) 29 #[.slice A l0.length c,.slice A' l1.length c'] (0,0) _ rfl q1 Tryz.underlying29 rfl tA1) rfl ?_
  have hb:=(aI.o.setCell (p:=⟨w.heap.size+1,0,none⟩) (Nat.le_succ _) (.slice A l0.length c)).setCell (p:=⟨w.heap.size+1,1,none⟩) (Nat.le_succ _) (.slice A' l1.length c')
  exact⟨A,c,A',c',rfl,a7.o.below hb,hb⟩
 ·rw[if_neg e0]at e
  simp only[Prod.mk.injEq]at e
  obtain⟨rfl,rfl,e2⟩:=e
  rw[e2]at HC
  have hr:r≠0:=fun h=>e0 (e2.trans h)
  have zZ:(r !=0)=true:=bne_iff_ne.2 hr
  clear h e0 e2
  go_enter Tryz.func32,Tryz.ntmps32
  go_wp2_with (go_at_call 11;refine HC.o.mono ?_;rintro e w2 ⟨rfl,hb⟩;have aI:=ae (au bI.o hb);have b2:=av cq.o hb;have x0:w2.cell? ⟨w.heap.size+1,0,none⟩=some (.slice none 0 0):=(mj b2 0).trans rfl;have x1:w2.cell? ⟨w.heap.size+1,1,none⟩=some (.slice none 0 0):=(mj b2 1).trans rfl;have IG:=ar b2 0;have IH:=ar b2 1;have l8:=ae b2;clear b2 hb HC)
  have q1:=a6 (a6 l8.o 0 (.slice none 0 0) rfl) 1 (.slice none 0 0) rfl
  refine bodyPost_ret (sQ rfl _ _ (w.heap.size+1) 29 #[.slice none 0 0,.slice none 0 0] (0,0) _ rfl q1 Tryz.underlying29 rfl tA1) rfl ?_
  have hb:=(aI.o.setCell (p:=⟨w.heap.size+1,0,none⟩) (Nat.le_succ _) (.slice none 0 0)).setCell (p:=⟨w.heap.size+1,1,none⟩) (Nat.le_succ _) (.slice none 0 0)
  exact⟨none,0,none,0,rfl,cD.none _,hb⟩
theorem Uj {A:Option Addr}{c:Nat}{f:aj}{w:World}(h:gl A c f w):
  Calls Tryz.prog 79 #[.agg #[.int .i64 f.f0,.slice A f.f1.length c]] w fun e w'=>∃X cap,e= .returned (.agg #[.int .i64 f.f0,.slice X f.f1.length cap])/\Kd.N cf 79 w' w.heap.size (fun k=>some k=(Value.slice X f.f1.length cap).ownBlock) (.slice X f.f1.length cap) f.f1/\Below w.heap.size w w':=by
 have bI:=ae (ax (ax (Below.refl w.heap.size w) (.cells #[.int .i64 f.f0,.slice A f.f1.length c] 33)) (.cells #[.int .i64 0,.slice none 0 0] 33))
 have cJ:=ae (aH (a8 w (.cells #[.int .i64 f.f0,.slice A f.f1.length c] 33)) (.cells #[.int .i64 0,.slice none 0 0] 33))
 have cq:=ae (by simpa using a8 (w.alloc (.cells #[.int .i64 f.f0,.slice A f.f1.length c] 33)) (.cells #[.int .i64 0,.slice none 0 0] 33):((w.alloc (.cells #[.int .i64 f.f0,.slice A f.f1.length c] 33)).alloc (.cells #[.int .i64 0,.slice none 0 0] 33)).heap[w.heap.size+1]?=some (.cells #[.int .i64 0,.slice none 0 0] 33))
 have br:=ae h.n1
 have bT:=ae (Kd.bN h.tm bI.o)
 clear h
 go_enter Tryz.func79,Tryz.ntmps79
 go_wp2
 go_region_law (first|(go_simp;go_at_call 107;refine(RH (by first|exact bT.o|exact Kd.oq bT.o|exact Kd.ot bT.o _) tAz).mono ?_;rintro e w2 ⟨X,cap,rfl,hN,hb⟩;have gJ:=ae (tk B4 hN);have aI:=ae (au bI.o (by first|exact hb|exact au (cB (Below.refl _ _)) hb));have b2:=av (by first|exact cq.o|simpa using cq.o) hb;have aK:w2.cell? ⟨w.heap.size,0,none⟩=some (.int .i64 f.f0):=(mj (av (by first|exact cJ.o|simpa using cJ.o) hb) 0).trans rfl;have x0:w2.cell? ⟨w.heap.size+1,0,none⟩=some (.int .i64 0):=(mj b2 0).trans rfl;have x1:w2.cell? ⟨w.heap.size+1,1,none⟩=some (.slice none 0 0):=(mj b2 1).trans rfl;have IG:=ar b2 0;have IH:=ar b2 1;have l8:=ae b2;have fV:af (∀k,some k=(Value.slice X f.f1.length cap).ownBlock->k≠w.heap.size+1):=⟨fun k hk=>by have:=Kd.eK hN k hk.symm;simp at this;omega⟩;clear b2 hb hN))
 all_goals
  go_wp2
  have q1:=a6 (a6 l8.o 0 (.int .i64 f.f0) rfl) 1 (.slice X f.f1.length cap) rfl
  refine bodyPost_ret (results_cell_row rfl _ _ (w.heap.size+1) 33 #[.int .i64 f.f0,.slice X f.f1.length cap] (0,0) _ rfl q1 Tryz.underlying33 rfl tA1) rfl ?_
  have hb:=(aI.o.setCell (p:=⟨w.heap.size+1,0,none⟩) (Nat.le_succ _) (.int .i64 f.f0)).setCell (p:=⟨w.heap.size+1,1,none⟩) (Nat.le_succ _) (.slice X f.f1.length cap)
  exact⟨X,cap,rfl,Kd.gp (Kd.cw (p:=⟨w.heap.size+1,1,none⟩) (Kd.cw (p:=⟨w.heap.size+1,0,none⟩) gJ.o fV.o _) fV.o _) tAb,hb⟩
end Go.Proofs.YtjgakaembhmhpaaGreatDoor.PA
