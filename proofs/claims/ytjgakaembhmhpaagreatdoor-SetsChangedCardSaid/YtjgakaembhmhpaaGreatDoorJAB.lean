/- Part of the proof of SetsChanged: words printed by the kit's print.sh, struck. It holds without further conditions. -/
import Derived.Laws.StructEq
import Derived.Test.YtjgakaembhmhpaaGreatDoorJAA
set_option linter.unusedVariables false
set_option linter.unusedSimpArgs false
set_option maxHeartbeats 16000000
set_option maxRecDepth 100000
namespace Go.Proofs.YtjgakaembhmhpaaGreatDoorW.PrintWords
open Go.RowKit
section
variable {P:Program}{d:Nat}{xs ys:Array Value}{f:Field}{fs:List Field}{a b:Value}{r s:Bool}{w:World}
theorem Zo (hn:(f.name== "_")=false)(ha:(part f.type xs f.offset).run P w= .ok a w)(hb:(part f.type ys f.offset).run P w= .ok b w)(he:(Op.equalIn d f.type a b).run P w= .ok r w):(Op.eqFields d xs ys [f]).run P w= .ok r w:=by
 have Tx:f.name≠ "_" :=by simpa using hn
 simp only[Op.eqFields,if_pos Tx,Sem.run_bind,ha,hb,he,Result.andThen_ok]
 cases r<;>simp
theorem Sd (hn:(f.name== "_")=false)(ha:(part f.type xs f.offset).run P w= .ok a w)(hb:(part f.type ys f.offset).run P w= .ok b w)(he:(Op.equalIn d f.type a b).run P w= .ok r w)(hr:(Op.eqFields d xs ys fs).run P w= .ok s w):(Op.eqFields d xs ys (f::fs)).run P w= .ok (r&&s) w:=by
 have Tx:f.name≠ "_" :=by simpa using hn
 rw[Op.eqFields]
 simp only[if_pos Tx,Sem.run_bind,ha,hb,he,Result.andThen_ok]
 cases r
 ·simp
 ·simpa using hr
theorem Zm {t:TypeId}{fs:Array Field}(hu:P.underlying t=some (.struct fs))(hp:P.stoodInHeld t=false)(h:(Op.eqFields d xs ys fs.toList).run P w= .ok r w):(Op.equalIn (d+1) t (.agg xs) (.agg ys)).run P w= .ok r w:=by
 have hf:P.fieldsOf t=fs:=by simp[Program.fieldsOf,hu]
 rw[run_equalIn_struct (P:=P) w d t xs ys (by rw[hf];exact hu) hp,hf]
 exact h
end
theorem bU.one {α:Type}{R:α->List Value->Prop}{ps:List α}{cs:List Value}{p:α}{v:Value}(hp:R p [v])(h:bU R 1 ps cs):bU R 1 (p::ps) (v::cs):=by
 refine⟨by simp[h.1],fun j q hq=>?_⟩
 cases j with
 | zero=>
  simp only[List.getElem?_cons_zero,Option.some.injEq]at hq
  subst hq
  simpa using hp
 | succ j=>
  simp only[List.getElem?_cons_succ]at hq
  have h1:=h.2 j q hq
  simpa[Nat.mul_one]using h1
theorem bU.front {α:Type}{R:α->List Value->Prop}{size:Nat}{ps:List α}{cs c all:List Value}{p:α}(hp:R p c)(hc:c.length=size)(h:bU R size ps cs)(ha:c++cs=all):bU R size (p::ps) all:=by
 subst ha
 refine⟨by rw[List.length_append,hc,h.1,List.length_cons,Nat.succ_mul,Nat.add_comm],fun j q hq=>?_⟩
 cases j with
 | zero=>
  simp only[List.getElem?_cons_zero,Option.some.injEq]at hq
  subst hq
  rw[Nat.zero_mul,List.drop_zero,List.take_append_of_le_length (by omega),List.take_of_length_le (by omega)]
  exact hp
 | succ j=>
  simp only[List.getElem?_cons_succ]at hq
  have h1:=h.2 j q hq
  rw[Nat.succ_mul,List.drop_append,List.drop_of_length_le (by rw[hc];exact Nat.le_add_left _ _),List.nil_append,hc,Nat.add_sub_cancel]
  exact h1
theorem bU.bb {α:Type}{R:α->List Value->Prop}{ps:List α}{cs:List Value}{p:α}{va vb:Value}(hp:R p [va,vb])(h:bU R 2 ps cs):bU R 2 (p::ps) (va::vb::cs):=bU.front hp rfl h rfl
theorem bU.aM {α:Type}{R:α->List Value->Prop}{ps:List α}{cs:List Value}{p:α}{va vb vc:Value}(hp:R p [va,vb,vc])(h:bU R 3 ps cs):bU R 3 (p::ps) (va::vb::vc::cs):=bU.front hp rfl h rfl
theorem bU.aV {α:Type}{R:α->List Value->Prop}{ps:List α}{cs:List Value}{p:α}{va vb vc my:Value}(hp:R p [va,vb,vc,my])(h:bU R 4 ps cs):bU R 4 (p::ps) (va::vb::vc::my::cs):=bU.front hp rfl h rfl
theorem bU.bW {α:Type}{R:α->List Value->Prop}{ps:List α}{cs:List Value}{p:α}{va vb vc my oY:Value}(hp:R p [va,vb,vc,my,oY])(h:bU R 5 ps cs):bU R 5 (p::ps) (va::vb::vc::my::oY::cs):=bU.front hp rfl h rfl
theorem bU.c6 {α:Type}{R:α->List Value->Prop}{ps:List α}{cs:List Value}{p:α}{va vb vc my oY vf:Value}(hp:R p [va,vb,vc,my,oY,vf])(h:bU R 6 ps cs):bU R 6 (p::ps) (va::vb::vc::my::oY::vf::cs):=bU.front hp rfl h rfl
theorem bU.c7 {α:Type}{R:α->List Value->Prop}{ps:List α}{cs:List Value}{p:α}{va vb vc my oY vf vB:Value}(hp:R p [va,vb,vc,my,oY,vf,vB])(h:bU R 7 ps cs):bU R 7 (p::ps) (va::vb::vc::my::oY::vf::vB::cs):=bU.front hp rfl h rfl
theorem bU.c8 {α:Type}{R:α->List Value->Prop}{ps:List α}{cs:List Value}{p:α}{va vb vc my oY vf vB Aw:Value}(hp:R p [va,vb,vc,my,oY,vf,vB,Aw])(h:bU R 8 ps cs):bU R 8 (p::ps) (va::vb::vc::my::oY::vf::vB::Aw::cs):=bU.front hp rfl h rfl
theorem bU.c9 {α:Type}{R:α->List Value->Prop}{ps:List α}{cs:List Value}{p:α}{va vb vc my oY vf vB Aw vi:Value}(hp:R p [va,vb,vc,my,oY,vf,vB,Aw,vi])(h:bU R 9 ps cs):bU R 9 (p::ps) (va::vb::vc::my::oY::vf::vB::Aw::vi::cs):=bU.front hp rfl h rfl
theorem bU.c10 {α:Type}{R:α->List Value->Prop}{ps:List α}{cs:List Value}{p:α}{va vb vc my oY vf vB Aw vi vj:Value}(hp:R p [va,vb,vc,my,oY,vf,vB,Aw,vi,vj])(h:bU R 10 ps cs):bU R 10 (p::ps) (va::vb::vc::my::oY::vf::vB::Aw::vi::vj::cs):=bU.front hp rfl h rfl
section
variable {P:Program}{ops:Array Oper}{rest:List Oper}{o:Oper}{a:Act}{Q:Exit->Act->World->Prop}{W:World}
theorem Sp (hw:Region.wanted o (yielded ops a.tmps)=true)(h:wpList P ops Q ({ o with guard:=none}::rest) a W):wpList P ops Q (o::rest) a W:=by
 have h1:Region.wanted { o with guard:=none} (yielded ops a.tmps)=true:=rfl
 unfold wpList at h ⊢
 rw[if_pos h1]at h
 rw[if_pos hw]
 exact h
end
namespace Kd
section
variable {α:Type}{d:Kd α}{e base n cap g:Nat}{ok ok' okp:Nat->Prop}{w w1 W:World}{v v1:Value}{xs ys:List α}
theorem H5 {rows news:List (List Value)}(h0:∀k,v.ownBlock=some k->ok k)(hl:rows.length=xs.length)(hf:∀(j:Nat) (x:α) (c:List Value),xs[j]?=some x->rows[j]?=some c->eI d W (fun k=>ok k/\some k≠v.ownBlock) x c)
  (hl2:news.length=ys.length) (hf2:∀(j:Nat) (x:α) (c:List Value),ys[j]?=some x->news[j]?=some c->eI d W okp x c) (jF:∀k,okp k->ok k/\some k≠v.ownBlock) (iu:∀k,W.heap.size<=k->ok k)
  (hR:(raw d.sz).R e w1 base (fun _=>True) v1 (rows++news)) (hg:W.grownBy w1 v.ownBlock) (hat:v1.ownBlock=v.ownBlock\/∃b,v1.ownBlock=some b/\W.heap.size<=b):N d e w1 base ok v1 (xs++ys):=by
 have hne:∀k,some k≠v.ownBlock->k<W.heap.size->some k≠v1.ownBlock:=by
  intro k hk hlt
  rcases hat with hat|⟨b,hb,hle⟩
  ·rw[hat];exact hk
  ·rw[hb]
   intro he
   injection he with he
   omega
 have step:∀{x:α} {c:List Value} {o:Nat->Prop},eI d W o x c->(∀k,o k->ok k/\some k≠v.ownBlock)->eI d w1 (fun k=>ok k/\some k≠v1.ownBlock) x c:=by
  intro x c o hq ho
  exact nx (xa (OM hq) (fun k hk hlt=>hg.block k hlt (ho k hk.1).2)) (fun k hk=>⟨(ho k hk.1).1,hne k (ho k hk.1).2 hk.2⟩)
 refine⟨fun k hk=>?_,rows++news,by rw[List.length_append,List.length_append,hl,hl2],F7 hR,fun j x c hx hc=>?_⟩
 ·rcases hat with hat|⟨b,hb,hle⟩
  ·exact h0 k (hat▸hk)
  ·rw[hb]at hk
   injection hk with hk
   exact iu k (by omega)
 ·rcases Nat.lt_or_ge j xs.length with hlt|zS
  ·rw[List.getElem?_append_left hlt]at hx
   rw[List.getElem?_append_left (by omega)]at hc
   exact step (hf j x c hx hc) (fun _ hk=>hk)
  ·rw[List.getElem?_append_right zS]at hx
   rw[List.getElem?_append_right (by omega),hl]at hc
   exact step (hf2 _ x c hx hc) jF
theorem GR {x:α}{c:List Value}(h:eI d W ok x c):c=c/\c.length=d.sz/\∀u∈c,u.oneCell'=true:=⟨rfl,d.oC (o6 h),d.lA (o6 h)⟩
theorem aiE {rows:List (List Value)}(hR:(raw d.sz).R e w1 base (fun k=>k=W.heap.size) v1 rows)(hg:W.grownBy w1 none)(hat:∃b,v1.ownBlock=some b/\W.heap.size<=b)(hl:rows.length=xs.length)(hf:∀(j:Nat) (x:α) (c:List Value),xs[j]?=some x->rows[j]?=some c->eI d W okp x c)
  (bX:∀k,okp k->ok k) (iu:ok W.heap.size):N d e w1 base ok v1 xs:=by
 obtain⟨b,hb,hle⟩:=hat
 refine⟨fun k hk=>by rw[hR.1 k hk];exact iu,rows,hl,F7 hR,fun j x c hx hc=>?_⟩
 refine nx (xa (OM (hf j x c hx hc)) (fun k hk hlt=>hg.block k hlt (by simp))) (fun k hk=>⟨bX k hk.1,fun he=>?_⟩)
 rw[hb]at he
 injection he with he
 have:=hk.2
 omega
theorem aiG {rows:List (List Value)}{i:Int}{x':α}{c':List Value}(h0:∀k,(Value.slice (some ⟨g,0,none⟩) n cap).ownBlock=some k->ok k)(hl:rows.length=xs.length)(hf:∀(j:Nat) (x:α) (c:List Value),xs[j]?=some x->rows[j]?=some c->eI d W (fun k=>ok k/\some k≠(Value.slice (some ⟨g,0,none⟩) n cap).ownBlock) x c)
  (hR:(raw d.sz).R e w1 base (fun _=>True) (.slice (some ⟨g,0,none⟩) n cap) (rows.set i.toNat c')) (hg:W.grownBy w1 (some g)) (hM:eI d W okp x' c') (jF:∀k,okp k->ok k/\k≠g):N d e w1 base ok (.slice (some ⟨g,0,none⟩) n cap) (xs.set i.toNat x'):=by
 have hgo:some g=(Value.slice (some ⟨g,0,none⟩) n cap).ownBlock:=by simp[Value.ownBlock]
 refine⟨h0,rows.set i.toNat c',by rw[List.length_set,List.length_set,hl],F7 hR,fun j x c hx hc=>?_⟩
 have gQ:j<xs.length:=by have:=(List.getElem?_eq_some_iff.1 hx).1;rwa[List.length_set]at this
 by_cases aaY:j=i.toNat
 ·subst aaY
  rw[List.getElem?_set_self gQ]at hx
  rw[List.getElem?_set_self (by omega)]at hc
  injection hx with hx
  injection hc with hc
  rw[<- hx,<- hc]
  exact nx (xa hM (fun k hk hlt=>hg.block k hlt (fun he=>(jF k hk).2 (by injection he)))) (fun k hk=>⟨(jF k hk).1,fun he=>(jF k hk).2 (by rw[<- hgo]at he;injection he)⟩)
 ·rw[List.getElem?_set_ne (Ne.symm aaY)]at hx hc
  exact xa (hf j x c hx hc) (fun k hk hlt=>hg.block k hlt (by rw[hgo];exact hk.2))
theorem aiD {rows:List (List Value)}{k:Nat}(h0:∀k,(Value.slice (some ⟨g,0,none⟩) n cap).ownBlock=some k->ok k)(hl:rows.length=xs.length)(hf:∀(j:Nat) (x:α) (c:List Value),xs[j]?=some x->rows[j]?=some c->eI d W (fun k=>ok k/\some k≠(Value.slice (some ⟨g,0,none⟩) n cap).ownBlock) x c)
  {n':Nat} (hR:(raw d.sz).R e w1 base (fun _=>True) (.slice (some ⟨g,0,none⟩) n' cap) (rows.eraseIdx k)) (hg:W.grownBy w1 (some g)):N d e w1 base ok (.slice (some ⟨g,0,none⟩) n' cap) (xs.eraseIdx k):=by
 have hgo:∀m,some g=(Value.slice (some ⟨g,0,none⟩) m cap).ownBlock:=fun m=>by simp[Value.ownBlock]
 refine⟨fun b hb=>h0 b (by rw[<- hgo]at hb ⊢;exact hb),rows.eraseIdx k,by rw[List.length_eraseIdx,List.length_eraseIdx,hl],F7 hR,fun j x c hx hc=>?_⟩
 rw[List.getElem?_eraseIdx]at hx hc
 have key:∀j',xs[j']?=some x->rows[j']?=some c->eI d w1 (fun k=>ok k/\some k≠(Value.slice (some ⟨g,0,none⟩) n' cap).ownBlock) x c:=fun j' h1 h2=>
  nx (xa (hf j' x c h1 h2) (fun b hb hlt=>hg.block b hlt (by rw[hgo n];exact hb.2))) (fun b hb=>⟨hb.1,by rw[<- hgo];rw[<- hgo]at hb;exact hb.2⟩)
 by_cases hjk:j<k
 ·rw[if_pos hjk]at hx hc
  exact key _ hx hc
 ·rw[if_neg hjk]at hx hc
  exact key _ hx hc
theorem aiF {A:Option Addr}{m c:Nat}(h:N d e w base ok (.slice A n c) xs)(hm:m<=xs.length):N d e w base ok (.slice A m c) (xs.take m):=by
 obtain⟨h0,rows,hl,hR,hf⟩:=h
 have hb:∀x y:Nat,(Value.slice A x c).ownBlock=(Value.slice A y c).ownBlock:=by
  intro x y
  cases A<;>rfl
 refine⟨fun k hk=>h0 k (by rw[hb _ m];exact hk),rows.take m,by rw[List.length_take,List.length_take,hl],F7 (ai1 (yJ hR) (by omega)),fun j x c' hx hc=>?_⟩
 rw[List.getElem?_take]at hx hc
 split at hx
 ·rename_i hj
  rw[if_pos hj]at hc
  rw[hb m n]
  exact hf j x c' hx hc
 ·cases hx
theorem ada {Rr:α->List Value->Prop}{sz m:Nat}{A:Option Addr}(h:lC Rr sz W A m ys)(hR:∀x c,Rr x c->c.length=sz/\∀u∈c,u.oneCell'=true):
  ∃news:List (List Value),news.length=ys.length/\lC (fun x cs=>cs=x/\cs.length=sz/\∀u∈cs,u.oneCell'=true) sz W A m news/\∀(j:Nat) (x:α) (c:List Value),ys[j]?=some x->news[j]?=some c->Rr x c:=by
 rcases Nat.eq_zero_or_pos m with h0|hp
 ·have hy:ys=[]:=List.eq_nil_of_length_eq_zero (h.1.trans h0)
  subst hy
  exact⟨[],rfl,⟨h0▸rfl,h.2.1,fun hp=>by omega⟩,fun j x c hx=>by simp at hx⟩
 ·obtain⟨ad,rfl,_⟩:=h.2.2 hp
  obtain⟨inner,hr,hc⟩:=lC.Nj h
  refine⟨chunks sz ys.length inner,oJ _ _ _,⟨by rw[oJ];exact h.1,h.2.1,fun _=>⟨ad,rfl,fun j p hj=>?_⟩⟩,fun j x c hx hcc=>?_⟩
  ·have gQ:j<ys.length:=by have:=(List.getElem?_eq_some_iff.1 hj).1;rwa[oJ]at this
   have abw:=BX hj
   have hq:=hR _ _ (hr.2 j _ (List.getElem?_eq_getElem gQ))
   rw[<- abw]at hq
   refine⟨p,hq.1,⟨rfl,hq⟩,fun i u hu=>?_⟩
   have aov:inner[j * sz+i]?=some u:=by
    rw[abw,List.getElem?_take]at hu
    split at hu
    ·rw[List.getElem?_drop]at hu
     exact hu
    ·cases hu
   exact hc _ u aov
  ·rw[BX hcc]
   exact hr.2 j x hx
end
section
variable {P:Program}{ops:Array Oper}{rest:List Oper}{o:Oper}{a:Act}{Q:Exit->Act->World->Prop}{kX:Act->World->Prop}{α:Type}
theorem oF (d:Kd α){w0 W:World}(base:Nat)(hgd:o.guard=none)(s x:Operand)(t e:TypeId)(z:Value)(bytes:Nat)
  (ho:o.op= .call { callee:= .builtin .append,args:=#[s,x],argTypes:=#[t,t]})
  (ht:P.underlying t=some (.slice e)) (gP:(P.info? e).map (fun i=>(i.zero,i.size,i.bytes))=some (some z,d.sz,bytes)) (hz:z.cells.size=d.sz) (hs0:0<d.sz) (hb0:0<bytes)
  (v:Value) (xs:List α) (p:α) (cs:List Value) (ok okp:Nat->Prop) (hs:a.eval s=v) (hx:a.eval x= .slice (some ⟨W.heap.size,0,none⟩) 1 1) (hp:eI d W okp p cs) (jF:∀k,okp k->ok k/\some k≠v.ownBlock) (iu:∀k,W.heap.size<=k->ok k)
  (HO:N d e W base ok v xs) (ak:Below base w0 W) (hbase:base<=W.heap.size) (hl:(xs.length+1) * bytes<=140737488355328)
  (h:∀v1 w1,N d e w1 base ok v1 (xs++[p])->Below base w0 w1->W.grownBy w1 v.ownBlock->(v1.ownBlock=v.ownBlock\/∃b,v1.ownBlock=some b/\W.heap.size<=b)->wpList P ops Q rest (a.put o.dst v1) w1):
  wpList P ops Q (o::rest) a (W.alloc (.cells cs.toArray e)):=by
 obtain⟨h0,rows,kz,hR,hf⟩:=HO
 refine LC (raw d.sz) base hgd s x t e z bytes ho ht gP hz hs0 hb0 v rows cs cs (fun _=>True) (fun _=>False) hs hx (GR hp) (fun _ hk=>hk.elim) (fun _ _=>trivial) (yJ hR) ak hbase (by rw[kz];exact hl) ?_
 intro v1 w1 hr hb hg hat
 exact h v1 w1 (H5 h0 kz hf (ys:=[p]) (news:=[cs]) rfl (fun j y c hy hc=>by
  rcases j with _|j
  ·simp only[List.getElem?_cons_zero,Option.some.injEq]at hy hc
   rw[<- hy,<- hc];exact hp
  ·simp at hy) jF iu hr hg hat) hb hg hat
theorem th (d:Kd α){w0 W:World}(base:Nat)(hw:Region.wanted o (yielded ops a.tmps)=true)(s x:Operand)(t e:TypeId)(z:Value)(bytes:Nat)
  (ho:o.op= .call { callee:= .builtin .append,args:=#[s,x],argTypes:=#[t,t]})
  (ht:P.underlying t=some (.slice e)) (gP:(P.info? e).map (fun i=>(i.zero,i.size,i.bytes))=some (some z,d.sz,bytes)) (hz:z.cells.size=d.sz) (hs0:0<d.sz) (hb0:0<bytes)
  (v:Value) (xs:List α) (p:α) (cs:List Value) (ok okp:Nat->Prop) (hs:a.eval s=v) (hx:a.eval x= .slice (some ⟨W.heap.size,0,none⟩) 1 1) (hp:eI d W okp p cs) (jF:∀k,okp k->ok k/\some k≠v.ownBlock) (iu:∀k,W.heap.size<=k->ok k)
  (HO:N d e W base ok v xs) (ak:Below base w0 W) (hbase:base<=W.heap.size) (hl:(xs.length+1) * bytes<=140737488355328)
  (h:∀v1 w1,N d e w1 base ok v1 (xs++[p])->Below base w0 w1->W.grownBy w1 v.ownBlock->(v1.ownBlock=v.ownBlock\/∃b,v1.ownBlock=some b/\W.heap.size<=b)->kX (a.put o.dst v1) w1):
  if Region.wanted o (yielded ops a.tmps)=true then Oper.wp P o a (W.alloc (.cells cs.toArray e)) kX Q else kX (a.put o.dst undef) (W.alloc (.cells cs.toArray e)):=by
 obtain⟨h0,rows,kz,hR,hf⟩:=HO
 refine aiS (raw d.sz) base hw s x t e z bytes ho ht gP hz hs0 hb0 v rows cs cs (fun _=>True) (fun _=>False) hs hx (GR hp) (fun _ hk=>hk.elim) (fun _ _=>trivial) (yJ hR) ak hbase (by rw[kz];exact hl) ?_
 intro v1 w1 hr hb hg hat
 exact h v1 w1 (H5 h0 kz hf (ys:=[p]) (news:=[cs]) rfl (fun j y c hy hc=>by
  rcases j with _|j
  ·simp only[List.getElem?_cons_zero,Option.some.injEq]at hy hc
   rw[<- hy,<- hc];exact hp
  ·simp at hy) jF iu hr hg hat) hb hg hat
theorem Ev (d:Kd α){w0 W:World}(base:Nat)(hgd:o.guard=none)(s x:Operand)(t e:TypeId)(z:Value)(bytes:Nat)
  (ho:o.op= .call { callee:= .builtin .append,args:=#[s,x],argTypes:=#[t,t]})
  (ht:P.underlying t=some (.slice e)) (gP:(P.info? e).map (fun i=>(i.zero,i.size,i.bytes))=some (some z,d.sz,bytes)) (hz:z.cells.size=d.sz) (hs0:0<d.sz) (hb0:0<bytes)
  (v:Value) (xs ys:List α) (A:Option Addr) (m c:Nat) (ok okp:Nat->Prop) (hs:a.eval s=v) (hx:a.eval x= .slice A m c)
  (HO:N d e W base ok v xs) (bT:F d W okp A m ys) (jF:∀k,okp k->ok k/\some k≠v.ownBlock) (iu:∀k,W.heap.size<=k->ok k)
  (ak:Below base w0 W) (hbase:base<=W.heap.size) (hl:(xs.length+m) * bytes<=140737488355328)
  (h:∀v1 w1,N d e w1 base ok v1 (xs++ys)->Below base w0 w1->W.grownBy w1 v.ownBlock->(v1.ownBlock=v.ownBlock\/∃b,v1.ownBlock=some b/\W.heap.size<=b)->wpList P ops Q rest (a.put o.dst v1) w1):
  wpList P ops Q (o::rest) a W:=by
 obtain⟨h0,rows,kz,hR,hf⟩:=HO
 obtain⟨news,pG,Cg,tJ⟩:=ada (OP bT) (fun y c hk=>⟨d.oC (o6 hk),d.lA (o6 hk)⟩)
 refine aiQ (raw d.sz) base hgd s x t e z bytes ho ht gP hz hs0 hb0 v rows news A m c (fun _=>True) (fun _=>False) hs hx (yJ hR) Cg (fun _ _ hk=>hk) (fun _ hk=>hk.elim) (fun _ _=>trivial) ak hbase (by rw[kz];exact hl) ?_
 intro v1 w1 hr hb hg hat
 exact h v1 w1 (H5 h0 kz hf pG tJ jF iu hr hg hat) hb hg hat
theorem Ew (d:Kd α){w0 W:World}(base:Nat)(hw:Region.wanted o (yielded ops a.tmps)=true)(s x:Operand)(t e:TypeId)(z:Value)(bytes:Nat)
  (ho:o.op= .call { callee:= .builtin .append,args:=#[s,x],argTypes:=#[t,t]})
  (ht:P.underlying t=some (.slice e)) (gP:(P.info? e).map (fun i=>(i.zero,i.size,i.bytes))=some (some z,d.sz,bytes)) (hz:z.cells.size=d.sz) (hs0:0<d.sz) (hb0:0<bytes)
  (v:Value) (xs ys:List α) (A:Option Addr) (m c:Nat) (ok okp:Nat->Prop) (hs:a.eval s=v) (hx:a.eval x= .slice A m c)
  (HO:N d e W base ok v xs) (bT:F d W okp A m ys) (jF:∀k,okp k->ok k/\some k≠v.ownBlock) (iu:∀k,W.heap.size<=k->ok k)
  (ak:Below base w0 W) (hbase:base<=W.heap.size) (hl:(xs.length+m) * bytes<=140737488355328)
  (h:∀v1 w1,N d e w1 base ok v1 (xs++ys)->Below base w0 w1->W.grownBy w1 v.ownBlock->(v1.ownBlock=v.ownBlock\/∃b,v1.ownBlock=some b/\W.heap.size<=b)->kX (a.put o.dst v1) w1):
  if Region.wanted o (yielded ops a.tmps)=true then Oper.wp P o a W kX Q else kX (a.put o.dst undef) W:=by
 obtain⟨h0,rows,kz,hR,hf⟩:=HO
 obtain⟨news,pG,Cg,tJ⟩:=ada (OP bT) (fun y c hk=>⟨d.oC (o6 hk),d.lA (o6 hk)⟩)
 refine aiR (raw d.sz) base hw s x t e z bytes ho ht gP hz hs0 hb0 v rows news A m c (fun _=>True) (fun _=>False) hs hx (yJ hR) Cg (fun _ _ hk=>hk) (fun _ hk=>hk.elim) (fun _ _=>trivial) ak hbase (by rw[kz];exact hl) ?_
 intro v1 w1 hr hb hg hat
 exact h v1 w1 (H5 h0 kz hf pG tJ jF iu hr hg hat) hb hg hat
theorem aiB (d:Kd α){w0 W:World}(base:Nat)(hgd:o.guard=none)(s x:Operand)(t ti e:TypeId)(z:Value)(bytes:Nat)
  (ho:o.op= .call { callee:= .builtin .append,args:=#[s,x],argTypes:=#[t,ti]})
  (ht:P.underlying t=some (.slice e)) {k:IntKind} (vq:P.underlying ti=some (.int k)) (gP:(P.info? e).map (fun i=>(i.zero,i.size,i.bytes))=some (some z,d.sz,bytes)) (hz:z.cells.size=d.sz) (hs0:0<d.sz) (hb0:0<bytes)
  (v:Value) (xs:List α) (z0:α) {wI:IntKind} (n:Int) (ok:Nat->Prop) (hs:a.eval s=v) (hx:a.eval x= .int wI n) (hzero:eI d W (fun _=>False) z0 z.cells.toList) (iu:∀k,W.heap.size<=k->ok k)
  (HO:N d e W base ok v xs) (h0:0<=n) (ak:Below base w0 W) (hbase:base<=W.heap.size) (hl:(xs.length+n.toNat) * bytes<=140737488355328)
  (h:∀v1 w1,N d e w1 base ok v1 (xs++List.replicate n.toNat z0)->Below base w0 w1->W.grownBy w1 v.ownBlock->(v1.ownBlock=v.ownBlock\/∃b,v1.ownBlock=some b/\W.heap.size<=b)->wpList P ops Q rest (a.put o.dst v1) w1):
  wpList P ops Q (o::rest) a W:=by
 obtain⟨al0,rows,kz,hR,hf⟩:=HO
 refine aiT (raw d.sz) base hgd s x t ti e z bytes ho ht vq gP hz hs0 hb0 v rows z.cells.toList n (fun _=>True) hs hx (GR hzero) (fun _ _=>trivial) (yJ hR) h0 ak hbase (by rw[kz];exact hl) ?_
 intro v1 w1 hr hb hg hat
 refine h v1 w1 (H5 al0 kz hf (ys:=List.replicate n.toNat z0) (news:=List.replicate n.toNat z.cells.toList) (by rw[List.length_replicate,List.length_replicate]) (okp:=fun _=>False) (fun j y c hy hc=>?_) (fun _ hk=>hk.elim) iu hr hg hat) hb hg hat
 have h1:=(List.getElem?_eq_some_iff.1 hy).2
 have h2:=(List.getElem?_eq_some_iff.1 hc).2
 rw[List.getElem_replicate]at h1 h2
 rw[<- h1,<- h2]
 exact hzero
theorem X3 (d:Kd α){w0 W:World}(base:Nat)(hw:Region.wanted o (yielded ops a.tmps)=true)(s x:Operand)(t e:TypeId)(ho:o.op= .call { callee:= .builtin .append,args:=#[s,x],argTypes:=#[t,t]})
  (ht:P.underlying t=some (.slice e)) (gP:(P.info? e).map (·.size)=some d.sz) {g n c k m bb:Nat} {A:Option Addr} {xs:List α} {ok:Nat->Prop}
  (hs:a.eval s= .slice (some ⟨g,0,none⟩) k c) (hx:a.eval x= .slice A m bb) (hA:A=if c=k+1 then some ⟨g,0,none⟩else(some (⟨g,0,none⟩:Addr)).map (·.add ((k+1) * d.sz))) (hm:m=n- (k+1))
  (HO:N d e W base ok (.slice (some ⟨g,0,none⟩) n c) xs) (hk:k<n) (ak:Below base w0 W) (hbase:base<=W.heap.size)
  (h:∀w1,N d e w1 base ok (.slice (some ⟨g,0,none⟩) (n-1) c) (xs.eraseIdx k)->Below base w0 w1->W.grownBy w1 (some g)->kX (a.put o.dst (.slice (some ⟨g,0,none⟩) (n-1) c)) w1):
  if Region.wanted o (yielded ops a.tmps)=true then Oper.wp P o a W kX Q else kX (a.put o.dst undef) W:=by
 obtain⟨hown,rows,hl,hR,hf⟩:=HO
 exact aiV (raw d.sz) base hw s x t e ho ht gP hs hx hA hm (yJ hR) hk ak hbase (fun w1 hr hb hg=>h w1 (aiD hown hl hf hr hg) hb hg)
end
end Kd
end Go.Proofs.YtjgakaembhmhpaaGreatDoorW.PrintWords
namespace Go.Proofs.YtjgakaembhmhpaaGreatDoorW.PrintMore
open Go.RowKit Go.Proofs.YtjgakaembhmhpaaGreatDoorW.PrintWords
theorem max2_int (k k':IntKind)(x y:Int):Builtin.max2 (.int k x) (.int k' y)=pure (.int k (if x<y then y else x)):=by simp only[Builtin.max2,gt_iff_lt]
theorem min2_int (k k':IntKind)(x y:Int):Builtin.min2 (.int k x) (.int k' y)=pure (.int k (if y<x then y else x)):=by simp only[Builtin.min2]
theorem max_two (ats:Array TypeId)(ty:TypeId)(a b:Value):Builtin.max_ ats ty #[a,b]=(Builtin.max2 a b>>= fun s=>pure s):=by simp only[Builtin.max_,List.foldlM_cons,List.foldlM_nil]
theorem min_two (ats:Array TypeId)(ty:TypeId)(a b:Value):Builtin.min_ ats ty #[a,b]=(Builtin.min2 a b>>= fun s=>pure s):=by simp only[Builtin.min_,List.foldlM_cons,List.foldlM_nil]
theorem max_three (ats:Array TypeId)(ty:TypeId)(a b c:Value):Builtin.max_ ats ty #[a,b,c]=(Builtin.max2 a b>>= fun s=>Builtin.max2 s c>>= fun s=>pure s):=by simp only[Builtin.max_,List.foldlM_cons,List.foldlM_nil]
theorem min_three (ats:Array TypeId)(ty:TypeId)(a b c:Value):Builtin.min_ ats ty #[a,b,c]=(Builtin.min2 a b>>= fun s=>Builtin.min2 s c>>= fun s=>pure s):=by simp only[Builtin.min_,List.foldlM_cons,List.foldlM_nil]
theorem max_four (ats:Array TypeId)(ty:TypeId)(a b c d:Value):Builtin.max_ ats ty #[a,b,c,d]=(Builtin.max2 a b>>= fun s=>Builtin.max2 s c>>= fun s=>Builtin.max2 s d>>= fun s=>pure s):=by simp only[Builtin.max_,List.foldlM_cons,List.foldlM_nil]
theorem min_four (ats:Array TypeId)(ty:TypeId)(a b c d:Value):Builtin.min_ ats ty #[a,b,c,d]=(Builtin.min2 a b>>= fun s=>Builtin.min2 s c>>= fun s=>Builtin.min2 s d>>= fun s=>pure s):=by simp only[Builtin.min_,List.foldlM_cons,List.foldlM_nil]
end Go.Proofs.YtjgakaembhmhpaaGreatDoorW.PrintMore
namespace Go.Proofs.YtjgakaembhmhpaaGreatDoorW.PrintWords
open Go.RowKit
section
variable {P:Program}{ops:Array Oper}{rest:List Oper}{o:Oper}{a:Act}{Q:Exit->Act->World->Prop}{W:World}
theorem cV {f:FuncId}{as:Array Operand}{ts:Array TypeId}(ajv:o.op= .call { callee:= .value (.func f),args:=as,argTypes:=ts})(h:wpList P ops Q (o::rest) a W):wpList P ops Q (o::rest) a W:=h
theorem ZP {b:Builtin}{xs:Array Operand}{ts:Array TypeId}(ajv:o.op= .call { callee:= .builtin b,args:=xs,argTypes:=ts})(h:wpList P ops Q (o::rest) a W):wpList P ops Q (o::rest) a W:=h
end
def mx (a b:Int):Int:=if a<b then b else a
end Go.Proofs.YtjgakaembhmhpaaGreatDoorW.PrintWords
namespace Go.Proofs.YtjgakaembhmhpaaGreatDoorW.PrintWords
open Go.RowKit
namespace Kd
def V {α:Type}(d:Kd α)(atL:Nat)(W:World)(atK:Nat)(ok:Nat->Prop)(v:Value)(xs:List α):Prop:=∃A c,v= .slice A xs.length c/\xs.length<=c/\F d W ok A xs.length xs
section
variable {α β:Type}{d:Kd α}{e base base' n m c g N' lo hi:Nat}{ok ok' S:Nat->Prop}{w W w1:World}{A:Option Addr}{ad:Addr}{u v v1:Value}{xs:List α}
theorem ajp (h:V d e W base ok v xs):∃A c,v= .slice A xs.length c:=by
 obtain⟨A,c,hv,_⟩:=h
 exact⟨A,c,hv⟩
theorem QZ (h:V d e W base ok (.slice A n c) xs):n=xs.length/\n<=c/\F d W ok A xs.length xs:=by
 obtain⟨A',c',hv,hl,hf⟩:=h
 injection hv with ha hn hc
 subst ha;subst hc
 exact⟨hn,by rw[hn];exact hl,hf⟩
theorem ajo (h:V d e W base ok (.slice A n c) xs):n=xs.length/\n<=c/\d.C W A xs.length xs:=⟨(QZ h).1,(QZ h).2.1,gY (QZ h).2.2⟩
theorem Q0 (d:Kd α)(e:Nat)(W:World)(base:Nat)(ok:Nat->Prop):V d e W base ok (.slice none 0 0) []:=⟨none,0,rfl,Nat.le_refl _,V7 d W ok⟩
theorem aiA (h:N d e W base ok v xs):V d e W base' ok v xs:=by
 obtain⟨A,c,rfl⟩:=c3 h
 exact⟨A,c,rfl,(ej h).2.1,mb h⟩
theorem ZM {l:List ByteArray}(h:Kd.string.C w (some ad) n l)(i:Int)(h0:0<=i)(h1:i<n):w.cell? (ad.add i.toNat)=some (.string (gg ByteArray.empty l i)):=by
 obtain⟨EK,he,hc⟩:=EM h i h0 h1
 injection he with he
 subst he
 exact hc
end
end Kd
end Go.Proofs.YtjgakaembhmhpaaGreatDoorW.PrintWords
