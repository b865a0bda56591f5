/- Part of the proof of SetsChanged: the walk and the plain laws. It holds without further conditions. -/
import Derived.Great.Frames
import Derived.Test.YtjgakaembhmhpaaGreatDoorJAS
set_option linter.unusedVariables false
set_option linter.unusedSimpArgs false
set_option maxHeartbeats 16000000
set_option maxRecDepth 100000
namespace Go.Proofs.YtjgakaembhmhpaaGreatDoor.PA
open Go.RowKit Go.Proofs.YtjgakaembhmhpaaGreatDoorW.PrintWords Go.Proofs.YtjgakaembhmhpaaGreatDoorW.PrintLast Go.Proofs.YtjgakaembhmhpaaGreatDoorW.PrintMore Go.Proofs.YtjgakaembhmhpaaGreatDoorM
open Go.WideMaps
structure qM (f:aj):Prop where
 bf:f.f0.natAbs<=1000000000000000
 b:fR 1000000000000000 f.f1
 len:f.f1.length<=100
 up:fI f.f1
 qD:∀t∈f.f1,t.f1≠0
 ok:∀t∈f.f1,eE t.f0=true
theorem vv {s:ByteArray}(h:eE s=true):s≠⟨#[]⟩/\s.size<=100:=by
 have hs:=CR h
 exact⟨fun e=>by rw[e]at hs;exact absurd hs.1 tA3,tA0⟩
theorem qM.canon {f:aj}(h:qM f):Canon f:=⟨h.up,h.qD,fun t ht=>vv (h.ok t ht)⟩
theorem qM.key {f:aj}(h:qM f):r5 f.f1:=⟨by have:=h.len;omega,fun t ht=>⟨h.ok t ht,h.qD t ht,h.b t ht⟩⟩
theorem alU:∀{l:List ay} {t:ay},t∈l->kN l∣t.f1.natAbs:=by
 intro l
 refine wR (p:=fun l=>∀{t:ay},t∈l->kN l∣t.f1.natAbs) (fun h=>absurd h tA2) (fun l u ih t ht=>?_) l
 rw[Mv]
 rcases List.mem_append.1 ht with ht|ht
 ·exact Nat.dvd_trans (by simpa using Int.gcd_dvd_natAbs_left (kN l:Int) u.f1) (ih ht)
 ·rw[il.1 ht]
  exact Int.gcd_dvd_natAbs_right _ _
theorem akO {a:Int}{g:Nat}(hg:0<g)(ha:a≠0)(hd:g∣a.natAbs):a.tdiv (g:Int)≠0:=by
 intro e
 have h1:=Int.mul_tdiv_cancel' (show(g:Int)∣a from Int.ofNat_dvd_left.2 hd)
 rw[e,Int.mul_zero]at h1
 exact ha h1.symm
theorem ak6 {a:Int}{g:Nat}(hg:0<g):(a / (g:Int)).natAbs<=a.natAbs:=by
 have h1:=Int.mul_ediv_add_emod a g
 have h2:=Int.emod_nonneg a (show(g:Int)≠0 by omega)
 have h3:=Int.emod_lt_of_pos a (show(0:Int)<g by omega)
 generalize a / (g:Int)=q at *
 generalize a % (g:Int)=r at *
 rcases Int.lt_or_le q 0 with hq|hq
 ·have:(g:Int) * q<=1 * q:=Int.mul_le_mul_of_nonpos_right tA0 tA0
  have h4:(g:Int) * (q+1)<=1 * (q+1):=Int.mul_le_mul_of_nonpos_right tA0 tA0
  rw[Int.mul_add]at h4
  omega
 ·have:1 * q<=(g:Int) * q:=Int.mul_le_mul_of_nonneg_right tA0 hq
  omega
theorem qM.norm {f:aj}(h:qM f):qM (rC f):=by
 unfold rC
 by_cases hg:0<kN f.f1
 ·rw[if_pos hg]
  refine⟨bj (ak6 hg) h.bf,fun t ht=>?_,by rw[fc];exact h.len,?_,fun t ht=>?_,fun t ht=>?_⟩
  ·obtain⟨u,hu,rfl⟩:=List.mem_map.1 ht
   show(Int.tdiv _ _).natAbs<=_
   rw[Int.natAbs_tdiv]
   exact bj (Nat.div_le_self _ _) (h.b u hu)
  ·exact List.pairwise_map.2 (h.up.imp fun hlt=>hlt)
  ·obtain⟨u,hu,rfl⟩:=List.mem_map.1 ht
   exact akO hg (h.qD u hu) (alU hu)
  ·obtain⟨u,hu,rfl⟩:=List.mem_map.1 ht
   exact h.ok u hu
 ·rw[if_neg hg]
  exact h
theorem aky {l:List ay}{t:ay}(hn:∀u∈l,u.f0≠t.f0)(s:ByteArray):bu (l++[t]) s=if s=t.f0 then t.f1 else bu l s:=by
 induction l with
 | nil=>
  show(if t.f0=s then t.f1 else 0)=_
  by_cases e:s=t.f0
  ·rw[if_pos e,if_pos e.symm]
  ·rw[if_neg e,if_neg (Ne.symm e)]
   rfl
 | cons u l ih=>
  rw[List.cons_append,bu,ih (fun v hv=>hn v (jk _ hv)),bu]
  by_cases e:s=t.f0
  ·rw[if_pos e,if_neg (fun e'=>hn u tA2 (e'.trans e)),if_pos e]
  ·rw[if_neg e,if_neg e]
section
variable {W:World}{b N:Nat}{q:Int}{l:List ay}
theorem aqL (h:iB W b 0 (.map []))(hw:(Lit.int .i64 q).wf=true):∃W',(Instr.mapUpdate 100 (.map (some b)) (.string ⟨#[]⟩) (.int .i64 q)).run Tryz.prog W= .ok () W'/\eX W' b 1 (pf ⟨q,[]⟩)/\W.grownBy W' (some b):=by
 obtain⟨W',r1,r2,r3⟩:=World.ownsMap.update h jH Tryz.underlying100 tAw (pI (s:=⟨#[]⟩) (Nat.zero_le _)) (plainElem_int Tryz.underlying3 hw)
 refine⟨W',r1,⟨1,_,bl _,r2,fun s hs=>?_⟩,r3⟩
 rw[Ag (sO h)]
 rfl
theorem aqM (h:eX W b N (pf ⟨q,l⟩))(t:ay)(h0:t.f0≠⟨#[]⟩)(hs:t.f0.size<=maxLen)(hn:∀u∈l,u.f0≠t.f0)(hw:(Lit.int .i64 t.f1).wf=true)(hN:N<1000000):∃W',(Instr.mapUpdate 100 (.map (some b)) (.string t.f0) (.int .i64 t.f1)).run Tryz.prog W= .ok () W'/\eX W' b (N+1) (pf ⟨q,l++[t]⟩)/\W.grownBy W' (some b):=by
 obtain⟨n,D,h1,hm,h2⟩:=h
 obtain⟨W',r1,r2,r3⟩:=World.ownsMap.update hm jH Tryz.underlying100 tAw (pI hs) (plainElem_int Tryz.underlying3 hw)
 refine⟨W',r1,⟨n+1,_,tA0,r2,fun s hs=>?_⟩,r3⟩
 rw[Ag (sO hm),h2 s hs]
 unfold pf
 show _=if s=⟨#[]⟩then q else bu (l++[t]) s
 rw[aky hn]
 by_cases e:s=t.f0
 ·rw[if_pos e,if_neg (fun e'=>h0 (e.symm.trans e')),if_pos e]
 ·rw[if_neg e,if_neg e]
end
theorem apj (l:List aj):(jG l).length<=l.length:=by
 unfold jG
 rw[fc]
 exact List.length_filter_le _ _
theorem alD (all:List aj)(l:List aj):(k7 all l).length<=l.length:=by
 refine wR (p:=fun l=>(k7 all l).length<=l.length) (bl _) (fun l f ih=>?_) l
 rw[Sj,fZ]
 split
 ·simp only[i6,List.length_nil];omega
 ·rw[fZ];simp only[i6,List.length_nil];omega
theorem apn {B:Nat}{a w w':World}(h:Below B a w)(h':Below B a w')(hs:w.heap.size<=w'.heap.size):Kept w w' (fun k=>B<=k):=⟨hs,fun k hk hn=>(h'.block k (Nat.lt_of_not_le hn)).trans (h.block k (Nat.lt_of_not_le hn)).symm⟩
theorem apk {l:List aj}(h:∀f∈l,qM f):∀f∈jG l,qM f:=fun f hf=>by
 unfold jG at hf
 obtain⟨u,hu,rfl⟩:=List.mem_map.1 hf
 exact(h u (List.mem_filter.1 hu).1).norm
theorem ad2 {A A':Option Addr}{c c':Nat}{l0:List aq}{l1:List aj}{R:Nat->Prop}{w:World}(hs:Kd.C cu w A l0.length l0)(hc:l0.length<=c)(hk:Kd.F bc w R A' l1.length l1)(aa1:l1.length<=c')(hR:∀k,R k->k<w.heap.size)(hl0:l0.length<=1000)(fk:l1.length<=5000)(hf:∀f∈l1,qM f)(ht:TabW w):
  Calls Tryz.prog 35 #[.agg #[.slice A l0.length c,.slice A' l1.length c']] w fun e w'=>∃Y c0 ek ep,e= .returned (.agg #[.slice Y l0.length c0,.slice ek (dT l1).length ep])/\Kd.N cu 77 w' w.heap.size (fun k=>w.heap.size<=k) (.slice Y l0.length c0) l0/\Kd.N bc 33 w' w.heap.size (fun k=>R k\/w.heap.size<=k) (.slice ek (dT l1).length ep) (dT l1)/\Below w.heap.size w w':=by
 have HS:=ae hs
 have agH:=ae hk
 have Xk:=ae hR
 have y9:=ae hl0
 have jU:=ae fk
 have fX:=ae hf
 have b9:=ae ht
 have Hm:af (l1.length<=9223372036854775807):=⟨tA0⟩
 have vH:=ae (ax (ax (Below.refl w.heap.size w) (.cells #[.slice A l0.length c,.slice A' l1.length c'] 29)) (.cells #[.slice none 0 0,.slice none 0 0] 29))
 have ra:=ae (aH (a8 w (.cells #[.slice A l0.length c,.slice A' l1.length c'] 29)) (.cells #[.slice none 0 0,.slice none 0 0] 29))
 have cJ:af (((w.alloc (.cells #[.slice A l0.length c,.slice A' l1.length c'] 29)).alloc (.cells #[.slice none 0 0,.slice none 0 0] 29)).heap[w.heap.size+1]?=some (.cells #[.slice none 0 0,.slice none 0 0] 29 (0,0))):=⟨tCq⟩
 have km:af (((w.alloc (.cells #[.slice A l0.length c,.slice A' l1.length c'] 29)).alloc (.cells #[.slice none 0 0,.slice none 0 0] 29)).heap.size=w.heap.size+2):=⟨tA2⟩
 clear hs hk hf ht hR
 go_enter Tryz.func35,Tryz.ntmps35
 go_wp2
 generalize z1:(w.alloc (.cells #[.slice A l0.length c,.slice A' l1.length c'] 29)).alloc (.cells #[.slice none 0 0,.slice none 0 0] 29)=w1 at *
 clear z1
 go_loopg [3,5,6,8,9,11,25,32,59] l1.length (fun bL kD _ _ _ _ _ U8 _ _ wr=>∃kk:Nat,kk<=l1.length/\l1.length-kk<=bL/\U8= .int .i64 kk/\af (Kd.N bc 33 wr w1.heap.size (fun k=>R k\/w1.heap.size<=k) kD (jG (l1.take kk)))/\af (Below w1.heap.size w1 wr))
 case atStart=>exact⟨0,Nat.zero_le _,tA0,rfl,⟨Kd.i1 _ _ _ _ _⟩,⟨Below.refl _ _⟩⟩
 case round=>
  obtain⟨kk,eO,hg,rfl,bm,bA⟩:=hrel
  generalize mM:wr=aA at *
  clear mM
  obtain⟨fu,eo,rfl⟩:=Kd.c3 bm.o
  have l7:=ae (vH.o.trans (dM bA.o vH.o.size))
  have jB:af ((jG (l1.take kk)).length<=5000):=⟨by have:=apj (l1.take kk);rw[bQ]at this;have:=jU.o;omega⟩
  have ahD:=ae (b9.o.below l7.o)
  by_cases hlt:kk<l1.length
  ·have cp:(kk:Int)< (l1.length:Int):=by omega
   obtain⟨ad,aN,c1,e,x0,x1,fF,jq⟩:=xV (Kd.fH agH.o l7.o) kk hlt
   cases e
   have Pn:af (jG (l1.take (kk+1))=if tB (bH l1 (kk:Int))=true then jG (l1.take kk)else jG (l1.take kk)++[rC (bH l1 (kk:Int))]):=⟨by rw[sT hlt,ab3]⟩
   have e8:=ae (fX.o _ (sL l1 kk hlt))
   have ma:=ae jq
   have iA:=ae fF
   have pY:af (∀k,R k\/aA.heap.size<=k->R k\/w1.heap.size<=k):=⟨fun k hk=>hk.imp id (bj bA.o.size)⟩
   have WX:af (∀k,R k\/aA.heap.size<=k->some k=(Value.slice fu (jG (l1.take kk)).length eo).ownBlock->False):=⟨fun k hk e=>by
    have h1:=Kd.BD bm.o k e.symm
    have h2:=Kd.eK bm.o k e.symm
    rcases hk with hk|hk
    ·have:=Xk.o k hk;have:=km.o;omega
    ·omega⟩
   clear jq fF
   generalize bH l1 (kk:Int)=f at *
   generalize jG (l1.take kk)=out at *
   have bR:=ae (ax (Below.refl aA.heap.size aA) (.cells #[.int .i64 f.f0,.slice aN f.f1.length c1] 33))
   have dh:=ae (a8 aA (.cells #[.int .i64 f.f0,.slice aN f.f1.length c1] 33))
   have atz:af ((aA.alloc (.cells #[.int .i64 f.f0,.slice aN f.f1.length c1] 33)).heap.size=aA.heap.size+1):=⟨tA2⟩
   go_wp2
   generalize qB:aA.alloc (.cells #[.int .i64 f.f0,.slice aN f.f1.length c1] 33)=cz at *
   clear qB
   go_loopg [6,8,32] f.f1.length (fun bL qG _ arS w2=>∃jj:Nat,jj<=f.f1.length/\f.f1.length-jj<=bL/\arS= .int .i64 jj/\qG= .int .i64 (kN (f.f1.take jj):Nat)/\af (Below cz.heap.size cz w2))
   case atStart=>exact⟨0,Nat.zero_le _,tA0,rfl,rfl,⟨Below.refl _ _⟩⟩
   case round=>
    obtain⟨jj,yt,hg2,rfl,rfl,aI⟩:=hrel
    generalize hw2:wr=w2 at *
    clear hw2
    have S6:=e8.o.len
    have cq:=ae (av dh.o aI.o)
    have uv:=ae (au bR.o aI.o)
    by_cases nR:jj<f.f1.length
    ·have vg:(jj:Int)< (f.f1.length:Int):=by omega
     obtain⟨Rh,e,z0,c2⟩:=jD (Kd.bN (Kd.gY ma.o) uv.o) (jj:Int) tA0 tA0
     cases e
     simp only[eQ]at z0 c2
     have iM:=ae (N9 nR)
     have q9:=ae (e8.o.b _ (Ah f.f1 jj nR))
     have pc:af (kN (f.f1.take jj)<=1000000000000000):=⟨Sq (fun t ht=>e8.o.b t (List.mem_of_mem_take ht))⟩
     generalize aJ f.f1 (jj:Int)=t at *
     obtain⟨t0,t1⟩:=t
     have uD:af (∀W:World,Calls Tryz.prog 96 #[.int .i64 (kN (f.f1.take jj):Nat),.int .i64 t1] W fun e w'=>e= .returned (.int .i64 (Int.gcd (kN (f.f1.take jj):Int) t1:Nat))/\Below W.heap.size W w'):=⟨fun W=>sW.calls _ _ _ _ W (akQ _ _ (by have:=pc.o;omega) tBk)⟩
     go_wp2_with (go_at_call 96;with_reducible(refine(uD.o _).mono ?_);rintro e w3 ⟨rfl,hd⟩;have bS:=ae (au (ax aI.o (.cells #[.string t0,.int .i64 t1] 79)) hd))
     go_roundg (f.f1.length- (jj+1))
     case measure=>omega
     case rel=>exact⟨jj+1,tA0,tA0,tA7,by rw[iM.o,Mv],bS⟩
    ·have mG:jj=f.f1.length:=by omega
     subst mG
     rw[fJ]
     have vg:¬ (f.f1.length:Int)< (f.f1.length:Int):=tA0
     have aK:w2.cell? ⟨aA.heap.size,0,none⟩=some (.int .i64 f.f0):=ah cq.o 0
     have aC:w2.cell? ⟨aA.heap.size,1,none⟩=some (.slice aN f.f1.length c1):=ah cq.o 1
     have uA:=ae (bA.o.trans (dM uv.o bA.o.size))
     have gJ:=ae (Kd.dz bm.o uv.o)
     have xo:af (kN f.f1<=1000000000000000):=⟨Sq e8.o.b⟩
     obtain⟨g,HG⟩:∃g,af (kN f.f1=g):=⟨_,⟨rfl⟩⟩
     rw[HG.o]at xo ⊢
     by_cases hg0:g=0
     ·subst hg0
      by_cases hc0:f.f0<0
      ·have Bc:af (jG (l1.take (kk+1))=out++[f]):=⟨by
        rw[Pn.o,if_neg (fun h:tB f=true=>by have:=(bg h).2;omega),rC,if_neg (by rw[HG.o];omega)]⟩
       have agw:af (Kd.eI bc w2 R f [.int .i64 f.f0,.slice aN f.f1.length c1]):=⟨zI iA.o (Kd.fH ma.o uv.o)⟩
       have agu:=ae (Kd.nx agw.o (fun k hk=>(.inl hk:R k\/aA.heap.size<=k)))
       go_wp2_with ((at_builtin;(refine Kd.oF bc w1.heap.size rfl (.tmp 46) (.tmp 48) 27 33 (.agg #[.int .i64 0,.slice none 0 0]) 32 rfl Tryz.underlying27 jR rfl tA3 tA3 (.slice fu out.length eo) out f [.int .i64 f.f0,.slice aN f.f1.length c1] (fun k=>R k\/w1.heap.size<=k) (fun k=>R k\/aA.heap.size<=k) rfl rfl agu.o (fun k hk=>⟨pY.o k hk,fun e=>WX.o k hk e⟩) (fun k hk=> .inr (bj uA.o.size hk)) gJ.o uA.o uA.o.size tAp ?_);intro v7 bt iG oL qy u7;have je:=ae iG;have eh:=ae oL;clear iG oL qy u7))
       go_roundg (l1.length- (kk+1))
       case measure=>omega
       case rel=>exact⟨kk+1,tA0,tA0,tA7,⟨by rw[Bc.o];exact je.o⟩,eh⟩
      ·have Bc:af (jG (l1.take (kk+1))=out):=⟨by rw[Pn.o,if_pos (show tB f=true from bn ⟨HG.o,tA0⟩)]⟩
       go_wp2
       go_roundg (l1.length- (kk+1))
       case measure=>omega
       case rel=>exact⟨kk+1,tA0,tA0,tA7,⟨by rw[Bc.o];exact gJ.o⟩,uA⟩
     ·have MP:(0:Int)< (g:Int):=by omega
      have Td:¬ (g:Int)=0:=tA0
      have hgb:((g:Int)==0)=false:=ey.2 Td
      have ann:0<g:=tA0
      obtain⟨q,dK⟩:∃q,af (f.f0 / (g:Int)=q):=⟨_,⟨rfl⟩⟩
      have qW:af (rC f=⟨q,f.f1.map fun t=>⟨t.f0,t.f1.tdiv (g:Int)⟩⟩):=⟨by rw[rC,if_pos (by rw[HG.o];exact ann),HG.o,dK.o]⟩
      have Hs:=ae e8.o.norm
      rw[qW.o]at Hs
      obtain⟨kH,kV⟩:∃kH,af (f.f1.map (fun t=>(⟨t.f0,t.f1.tdiv (g:Int)⟩:ay))=kH):=⟨_,⟨rfl⟩⟩
      rw[kV.o]at Hs qW
      have Pe:af (kH.length=f.f1.length):=⟨by rw[<- kV.o,fc]⟩
      have Bc:af (jG (l1.take (kk+1))=out++[⟨q,kH⟩]):=⟨by
       rw[Pn.o,if_neg (fun h:tB f=true=>hg0 (HG.o.symm.trans (bg h).1)),qW.o]⟩
      have ahr:af ((Lit.int .i64 q).wf=true):=⟨DI (by have:=Hs.o.bf;simp only at this;omega)⟩
      have O8:af (∀W:World,Calls Tryz.prog 97 #[.int .i64 f.f0,.int .i64 (g:Int)] W fun e w'=>e= .returned (.int .i64 q)/\Below W.heap.size W w'):=⟨fun W=>(Ka.calls f.f0 (g:Int) q W ((alI f.f0 (g:Int) tCs MP).trans (congrArg some dK.o))).mono fun e w' ⟨he,hd⟩=>⟨he,Y5 hd⟩⟩
      have I7:= @run_makeMap Tryz.prog
      have ahd:af (iB (w2.alloc (.map #[] 0)) w2.heap.size 0 (.map [])):=⟨World.ownsMap_made (H:=Unit) w2 Tryz.prog 9 (plainElem Tryz.prog 3)⟩
      have nz:=ae (ax (Below.refl w2.heap.size w2) (.map #[] 0))
      have as9:=bw nz.o aK
      have ata:=bw nz.o aC
      go_wp2_with (first|(go_at_call 97;with_reducible(refine(O8.o _).mono ?_);rintro e w4 ⟨rfl,hb⟩;obtain⟨aZ,hrun,Z7,Z4⟩:=aqL (q:=q) (sN ahd.o hb) ahr.o;have KY:=ae Z7;have bq:=ae ((au nz.o hb).grown Z4 (au nz.o hb).size (fun j hj=>tAr));have atb:=bw bq.o aC;clear hb Z7 Z4)|fail)
      have Wm:=ae (aI.o.trans (dM bq.o aI.o.size))
      have ze:af (cz.heap.size<=w2.heap.size):=⟨aI.o.size⟩
      clear aK aC as9 ata atb
      go_loopg [11,59] f.f1.length (fun bL _ Vb wr=>∃jj:Nat,jj<=f.f1.length/\f.f1.length-jj<=bL/\Vb= .int .i64 jj/\af (eX wr w2.heap.size (jj+1) (pf ⟨q,kH.take jj⟩))/\af (Below cz.heap.size cz wr)/\af (Below w2.heap.size w2 wr))
      case atStart=>exact⟨0,Nat.zero_le _,tA0,rfl,KY,Wm,bq⟩
      case round=>
       clear KY Wm bq
       obtain⟨jj,yt,hg3,rfl,KZ,G0,s3⟩:=hrel
       generalize Ng:wr=aY at *
       clear Ng
       have hE:=ae (av dh.o G0.o)
       have Wj:=ae (au bR.o G0.o)
       by_cases ve:jj<f.f1.length
       ·have Tr:(jj:Int)< (f.f1.length:Int):=by omega
        obtain⟨Rh,e,z0,c2⟩:=jD (Kd.bN (Kd.gY ma.o) Wj.o) (jj:Int) tA0 tA0
        cases e
        simp only[eQ]at z0 c2
        have yu:=Ah f.f1 jj ve
        have wE:aJ f.f1 (jj:Int)=f.f1[jj]:=by simp[aJ,List.getD,b8 ve]
        have q9:=ae (e8.o.b _ yu)
        have Lb:=ae (vv (e8.o.ok _ yu))
        have iM:af (kH.take (jj+1)=kH.take jj++[⟨(aJ f.f1 (jj:Int)).f0,(aJ f.f1 (jj:Int)).f1.tdiv (g:Int)⟩]):=⟨by
         rw[<- kV.o,kr (by rw[fc];exact ve),wE,List.getElem_map]⟩
        have zf:af (∀u∈kH.take jj,u.f0≠(aJ f.f1 (jj:Int)).f0):=⟨fun u hu=>by
         have aow:=Hs.o.up
         have h1:=List.pairwise_iff_getElem.1 aow
         obtain⟨i,hi,rfl⟩:=List.mem_take_iff_getElem.1 hu
         have gQ:jj<kH.length:=by rw[Pe.o];exact ve
         have h2:=h1 i jj (fy hi (Nat.min_le_right _ _)) gQ (fy hi (Nat.min_le_left _ _))
         have h3:(kH[jj]'gQ).f0=(aJ f.f1 (jj:Int)).f0:=by
          rw[wE]
          simp only[<- kV.o,List.getElem_map]
         rw[<- h3]
         exact wJ h2⟩
        clear yu wE
        generalize aJ f.f1 (jj:Int)=t at *
        obtain⟨t0,t1⟩:=t
        have atE:=ae (Oa t1 (g:Int) tBk)
        have Xu:af ((t1.tdiv (g:Int)).natAbs<=1000000000000000):=⟨by rw[Int.natAbs_tdiv];exact bj (Nat.div_le_self _ _) q9.o⟩
        have Bv:af (IntKind.i64.wrap (t1.tdiv (g:Int))=t1.tdiv (g:Int)):=⟨by
         have h1:=Xu.o
         rw[IntKind.wrap_i64]
         omega⟩
        have xi:=ae (ax (Below.refl aY.heap.size aY) (.cells #[.string t0,.int .i64 t1] 79))
        have gA:=ae (a8 aY (.cells #[.string t0,.int .i64 t1] 79))
        go_wp2
        generalize Cj:aY.alloc (.cells #[.string t0,.int .i64 t1] 79)=cr at *
        clear Cj
        have er:af (∀W:World,Below cr.heap.size cr W->(W.cell? ⟨aY.heap.size,0,none⟩=some (.string t0)/\W.cell? ⟨aY.heap.size,1,none⟩=some (.int .i64 t1))):=⟨fun W hb=>⟨ah (av gA.o hb) 0,ah (av gA.o hb) 1⟩⟩
        have uw:=ae (au xi.o (cB (Below.refl cr.heap.size cr)))
        have anO:=aqM (KZ.o.below uw.o) ⟨t0,t1.tdiv (g:Int)⟩ Lb.o.1 (by have:=Lb.o.2;unfold maxLen;show t0.size<=_;omega) zf.o (DI (by have:=Xu.o;show _<=t1.tdiv (g:Int)/\t1.tdiv (g:Int)<=_;omega)) tA0
        obtain⟨bt,hrun,Z8,Mx⟩:=anO
        have aok:=hrun
        simp only at hrun
        rw[<- Bv.o]at hrun
        have ahj:=ae Z8
        have af6:=ae ((G0.o.trans (dM uw.o G0.o.size)).grown Mx (bj G0.o.size uw.o.size) (fun j hj=>by have:=bo hj;have:=ze.o;omega))
        have af5:=ae ((s3.o.trans (dM uw.o s3.o.size)).grown Mx (bj s3.o.size uw.o.size) (fun j hj=>tAr))
        have Nh:=gf (av gA.o (cB (Below.refl cr.heap.size cr))) Mx (fun e=>by have h1:=bo e;have h2:=KZ.o.lt;omega)
        have amf:bt.cell? ⟨aY.heap.size,0,none⟩=some (.string t0)/\bt.cell? ⟨aY.heap.size,1,none⟩=some (.int .i64 t1):=⟨ah Nh 0,ah Nh 1⟩
        clear Z8 Mx aok Nh
        go_region_held3 (fun W=>W.cell? ⟨aY.heap.size,0,none⟩=some (.string t0)/\W.cell? ⟨aY.heap.size,1,none⟩=some (.int .i64 t1)) (first|assumption|exact er.o _ (cB (Below.refl _ _))) (fail)
        go_wp2
        go_roundg (f.f1.length- (jj+1))
        case measure=>omega
        case rel=>exact⟨jj+1,tA0,tA0,tA7,⟨by rw[iM.o];exact ahj.o⟩,af6,af5⟩
       ·have R9:jj=f.f1.length:=by omega
        subst R9
        have Tr:¬ (f.f1.length:Int)< (f.f1.length:Int):=tA0
        have Xc:af (eX aY w2.heap.size (f.f1.length+1) (pf ⟨q,kH⟩)):=⟨by
         have h1:=KZ.o
         rw[<- Pe.o,fJ]at h1
         rw[<- Pe.o]
         exact h1⟩
        have jd:=ae (JL Xc.o Hs.o.canon tA0)
        have qN:=ae (uA.o.trans (dM s3.o uA.o.size))
        have dr:=ae (Kd.dz gJ.o s3.o)
        clear KZ Xc
        go_wp2_with (first|(go_at_call 70;with_reducible(refine jd.o.mono ?_);intro e dG hI;unfold oB at hI;obtain⟨p9,qi,rfl,hN,hb⟩:=hI;have iU:=ae (qN.o.trans (dM hb qN.o.size));have mE:=ae (Kd.dz dr.o hb);have agv:=ae (Kd.nx (tz (a:=q) hN) (fun k hk=>(.inr (bj (Wj.o.size) hk):R k\/aA.heap.size<=k)));clear hN hb)|(at_builtin;(refine Kd.oF bc w1.heap.size rfl (.tmp 71) (.tmp 74) 27 33 (.agg #[.int .i64 0,.slice none 0 0]) 32 rfl Tryz.underlying27 jR rfl tA3 tA3 (.slice fu out.length eo) out ⟨q,kH⟩ [.int .i64 q,.slice p9 kH.length qi] (fun k=>R k\/w1.heap.size<=k) (fun k=>R k\/aA.heap.size<=k) rfl rfl agv.o (fun k hk=>⟨pY.o k hk,fun e=>WX.o k hk e⟩) (fun k hk=> .inr (bj iU.o.size hk)) mE.o iU.o iU.o.size tAp ?_);intro v7 bt iG oL qy u7;have je:=ae iG;have eh:=ae oL;clear iG oL qy u7))
        go_roundg (l1.length- (kk+1))
        case measure=>omega
        case rel=>exact⟨kk+1,tA0,tA0,tA7,⟨by rw[Bc.o];exact je.o⟩,eh⟩
  ·have cp:¬ (kk:Int)< (l1.length:Int):=by omega
   have di:kk=l1.length:=tA0
   have vQ:af (dT l1=k7 (jG l1) (jG l1)):=⟨asJ l1⟩
   have KN:af (jG (l1.take kk)=jG l1):=⟨by rw[di,fJ]⟩
   have kV:=ae (apk fX.o)
   rw[KN.o]at bm jB ⊢
   clear KN di
   generalize jG l1=L at *
   have Ht:af (Kd.F bc aA (fun k=>R k\/w1.heap.size<=k) fu L.length L):=⟨Kd.mb bm.o⟩
   have I5:L.length<=9223372036854775807:=tAp
   have I7:= @run_makeMap Tryz.prog
   have agN:=ae (jt.new aA)
   have nz:=ae (ax (Below.refl aA.heap.size aA) (.map #[] 0))
   go_wp2
   generalize TT:aA.alloc (.map #[] 0)=DJ at *
   clear TT
   go_loopg [14,15,16,80] L.length (fun bL _ _ _ ar0 wr=>∃jj:Nat,jj<=L.length/\L.length-jj<=bL/\ar0= .int .i64 jj/\af (jt wr aA.heap.size jj (L.take jj))/\af (Below aA.heap.size aA wr))
   case atStart=>exact⟨0,Nat.zero_le _,tA0,rfl,agN,nz⟩
   case round=>
    obtain⟨jj,yt,hg2,rfl,xu,aI⟩:=hrel
    generalize hw2:wr=w2 at *
    clear hw2
    have P1:=ae (ahD.o.below aI.o)
    by_cases nR:jj<L.length
    ·have vg:(jj:Int)< (L.length:Int):=by omega
     obtain⟨ad,aN,c1,e,x0,x1,fF,jq⟩:=xV (Kd.fH Ht.o aI.o) jj nR
     cases e
     have iM:af (L.take (jj+1)=L.take jj++[bH L (jj:Int)]):=⟨sT nR⟩
     have e8:=ae (kV.o _ (sL L jj nR))
     have ma:=ae jq
     have iA:=ae fF
     clear jq fF
     generalize bH L (jj:Int)=f at *
     have bR:=ae (ax (Below.refl w2.heap.size w2) (.cells #[.int .i64 f.f0,.slice aN f.f1.length c1] 33))
     have dh:=ae (a8 w2 (.cells #[.int .i64 f.f0,.slice aN f.f1.length c1] 33))
     have lu:af (∀W:World,Below w2.heap.size w2 W->gl aN c1 f W):=⟨fun W hb=>⟨Kd.bN (Kd.gY ma.o) hb,iA.o,by have:=e8.o.len;omega,fun t ht=>(vv (e8.o.ok t ht)).2⟩⟩
     have y8:=ae (Nr (lu.o _ bR.o) e8.o.b (P1.o.below bR.o))
     cases mK:iI (L.take jj) f.f1 with
     | none=>
      have zb:af ((iI (L.take jj) f.f1).isSome=false\/f.f0< (iI (L.take jj) f.f1).getD 0):=⟨.inl (by rw[mK];rfl)⟩
      have qU:af (∀W:World,Below w2.heap.size w2 W->(Instr.lookup 99 (.map (some aA.heap.size)) (.string (jl f.f1)) true).run Tryz.prog W= .ok (.tuple #[.int .i64 0,.bool false]) W):=⟨fun W hb=>by
       have:=(xu.o.below hb).look e8.o.key
       rw[mK]at this
       exact this⟩
      clear mK
      go_wp2_with (go_at_call 98;with_reducible(refine y8.o.mono ?_);rintro e w3 ⟨rfl,hb⟩;have bS:=ae (au bR.o hb);have eC:=ae (av dh.o hb);have z0:w3.cell? ⟨w2.heap.size,0,none⟩=some (.int .i64 f.f0):=(mj (av dh.o hb) 0).trans rfl;have c2:w3.cell? ⟨w2.heap.size,1,none⟩=some (.slice aN f.f1.length c1):=(mj (av dh.o hb) 1).trans rfl;have hlk:=qU.o w3 bS.o;clear hb)
      have xg:=ae (aI.o.trans (dM bS.o aI.o.size))
      have er:af (∀W:World,Below w3.heap.size w3 W->(W.cell? ⟨w2.heap.size,0,none⟩=some (.int .i64 f.f0)/\W.cell? ⟨w2.heap.size,1,none⟩=some (.slice aN f.f1.length c1))):=⟨fun W hb=>⟨bw hb z0,bw hb c2⟩⟩
      have Pl:af (∀W:World,Below w3.heap.size w3 W->Calls Tryz.prog 98 #[.agg #[.int .i64 f.f0,.slice aN f.f1.length c1]] W fun e w'=>e= .returned (.string (jl f.f1))/\Below w3.heap.size w3 w'):=⟨fun W hb=>(Nr (lu.o W (au bS.o hb)) e8.o.b (P1.o.below (au bS.o hb))).mono fun e w' ⟨he,hb'⟩=>⟨he,au hb hb'⟩⟩
      have Bl:af (∀W:World,Below w3.heap.size w3 W->∃W',(Instr.mapUpdate 99 (.map (some aA.heap.size)) (.string (jl f.f1)) (.int .i64 f.f0)).run Tryz.prog W= .ok () W'/\jt W' aA.heap.size (jj+1) (L.take (jj+1))/\(W'.cell? ⟨w2.heap.size,0,none⟩=some (.int .i64 f.f0)/\W'.cell? ⟨w2.heap.size,1,none⟩=some (.slice aN f.f1.length c1))/\Below aA.heap.size aA W'):=⟨fun W hb=>by
       obtain⟨W',r1,r2,r3⟩:=jt.put (f:=f) (xu.o.below (au bS.o hb)) e8.o.key (DI tCs) tAp zb.o
       have hx:=gf (av eC.o hb) r3 (fun e=>tEn)
       refine⟨W',r1,by rw[iM.o];exact r2,⟨ah hx 0,ah hx 1⟩,?_⟩
       exact(xg.o.trans (dM hb xg.o.size)).grown r3 (bj xg.o.size hb.size) (fun j hj=>tAr)⟩
      go_region_held3 (fun W=>W.cell? ⟨w2.heap.size,0,none⟩=some (.int .i64 f.f0)/\W.cell? ⟨w2.heap.size,1,none⟩=some (.slice aN f.f1.length c1)) (first|assumption|exact er.o _ (cB (Below.refl _ _))|exact er.o _ cO.o) (first|(go_simp;go_at_call 98;with_reducible(refine(Pl.o _ (cB (Below.refl _ _))).mono ?_);rintro e w4 ⟨rfl,hb⟩;have cO:=ae hb;obtain⟨aZ,hrun,IK,Z9,sB⟩:=Bl.o w4 hb;have xt:=ae IK;have bq:=ae sB;clear hb IK sB))
      all_goals
       go_wp2
       go_roundg (L.length- (jj+1))
       case measure=>omega
       case rel=>exact⟨jj+1,tA0,tA0,tA7,xt,bq⟩
     | some n=>
      have qU:af (∀W:World,Below w2.heap.size w2 W->(Instr.lookup 99 (.map (some aA.heap.size)) (.string (jl f.f1)) true).run Tryz.prog W= .ok (.tuple #[.int .i64 n,.bool true]) W):=⟨fun W hb=>by
       have:=(xu.o.below hb).look e8.o.key
       rw[mK]at this
       exact this⟩
      have za:=ae mK
      clear mK
      by_cases Ts:f.f0<n
      ·have zb:af ((iI (L.take jj) f.f1).isSome=false\/f.f0< (iI (L.take jj) f.f1).getD 0):=⟨.inr (by rw[za.o];exact Ts)⟩
       go_wp2_with (go_at_call 98;with_reducible(refine y8.o.mono ?_);rintro e w3 ⟨rfl,hb⟩;have bS:=ae (au bR.o hb);have eC:=ae (av dh.o hb);have z0:w3.cell? ⟨w2.heap.size,0,none⟩=some (.int .i64 f.f0):=(mj (av dh.o hb) 0).trans rfl;have c2:w3.cell? ⟨w2.heap.size,1,none⟩=some (.slice aN f.f1.length c1):=(mj (av dh.o hb) 1).trans rfl;have hlk:=qU.o w3 bS.o;clear hb)
       have xg:=ae (aI.o.trans (dM bS.o aI.o.size))
       have er:af (∀W:World,Below w3.heap.size w3 W->(W.cell? ⟨w2.heap.size,0,none⟩=some (.int .i64 f.f0)/\W.cell? ⟨w2.heap.size,1,none⟩=some (.slice aN f.f1.length c1))):=⟨fun W hb=>⟨bw hb z0,bw hb c2⟩⟩
       have Pl:af (∀W:World,Below w3.heap.size w3 W->Calls Tryz.prog 98 #[.agg #[.int .i64 f.f0,.slice aN f.f1.length c1]] W fun e w'=>e= .returned (.string (jl f.f1))/\Below w3.heap.size w3 w'):=⟨fun W hb=>(Nr (lu.o W (au bS.o hb)) e8.o.b (P1.o.below (au bS.o hb))).mono fun e w' ⟨he,hb'⟩=>⟨he,au hb hb'⟩⟩
       have Bl:af (∀W:World,Below w3.heap.size w3 W->∃W',(Instr.mapUpdate 99 (.map (some aA.heap.size)) (.string (jl f.f1)) (.int .i64 f.f0)).run Tryz.prog W= .ok () W'/\jt W' aA.heap.size (jj+1) (L.take (jj+1))/\(W'.cell? ⟨w2.heap.size,0,none⟩=some (.int .i64 f.f0)/\W'.cell? ⟨w2.heap.size,1,none⟩=some (.slice aN f.f1.length c1))/\Below aA.heap.size aA W'):=⟨fun W hb=>by
        obtain⟨W',r1,r2,r3⟩:=jt.put (f:=f) (xu.o.below (au bS.o hb)) e8.o.key (DI tCs) tAp zb.o
        have hx:=gf (av eC.o hb) r3 (fun e=>tEn)
        refine⟨W',r1,by rw[iM.o];exact r2,⟨ah hx 0,ah hx 1⟩,?_⟩
        exact(xg.o.trans (dM hb xg.o.size)).grown r3 (bj xg.o.size hb.size) (fun j hj=>tAr)⟩
       go_region_held3 (fun W=>W.cell? ⟨w2.heap.size,0,none⟩=some (.int .i64 f.f0)/\W.cell? ⟨w2.heap.size,1,none⟩=some (.slice aN f.f1.length c1)) (first|assumption|exact er.o _ (cB (Below.refl _ _))|exact er.o _ cO.o) (first|(go_simp;go_at_call 98;with_reducible(refine(Pl.o _ (cB (Below.refl _ _))).mono ?_);rintro e w4 ⟨rfl,hb⟩;have cO:=ae hb;obtain⟨aZ,hrun,IK,Z9,sB⟩:=Bl.o w4 hb;have xt:=ae IK;have bq:=ae sB;clear hb IK sB))
       all_goals
        go_wp2
        go_roundg (L.length- (jj+1))
        case measure=>omega
        case rel=>exact⟨jj+1,tA0,tA0,tA7,xt,bq⟩
      ·have PN:af (∀W:World,Below w2.heap.size w2 W->jt W aA.heap.size (jj+1) (L.take (jj+1))):=⟨fun W hb=>by
        rw[iM.o]
        obtain⟨n9,OI,al3,Sz⟩:=(xu.o.below hb).skip (f:=f) (by rw[za.o];rfl) (by rw[za.o];exact Ts)
        exact⟨n9,OI,tA0,Sz⟩⟩
       go_wp2_with (go_at_call 98;with_reducible(refine y8.o.mono ?_);rintro e w3 ⟨rfl,hb⟩;have bS:=ae (au bR.o hb);have eC:=ae (av dh.o hb);have z0:w3.cell? ⟨w2.heap.size,0,none⟩=some (.int .i64 f.f0):=(mj (av dh.o hb) 0).trans rfl;have c2:w3.cell? ⟨w2.heap.size,1,none⟩=some (.slice aN f.f1.length c1):=(mj (av dh.o hb) 1).trans rfl;have hlk:=qU.o w3 bS.o;clear hb)
       have xg:=ae (aI.o.trans (dM bS.o aI.o.size))
       go_roundg (L.length- (jj+1))
       case measure=>omega
       case rel=>exact⟨jj+1,tA0,tA0,tA7,⟨PN.o _ bS.o⟩,xg⟩
    ·have mG:jj=L.length:=by omega
     have vg:¬ (jj:Int)< (L.length:Int):=tA0
     have KS:af (jt w2 aA.heap.size L.length L):=⟨by
      have h1:=xu.o
      rw[mG,fJ]at h1
      exact h1⟩
     have uA:=ae (bA.o.trans (dM aI.o bA.o.size))
     have O2:=ae (vH.o.trans (dM uA.o vH.o.size))
     have Eh:=ae (av ra.o uA.o)
     have jW:=ae (av cJ.o uA.o)
     have aha:af (Kd.F bc w2 (fun k=>(R k\/w1.heap.size<=k)/\k<aA.heap.size) fu L.length L):=⟨Kd.fH (Kd.mb (Kd.tj bm.o)) aI.o⟩
     have eJ:=ae (L9 (c:=c) (Kd.bN HS.o O2.o) (by have:=y9.o;omega))
     have aK:w2.cell? ⟨w.heap.size,0,none⟩=some (.slice A l0.length c):=ah Eh.o 0
     have aC:w2.cell? ⟨w.heap.size,1,none⟩=some (.slice A' l1.length c'):=ah Eh.o 1
     have I7:= @run_makeMap Tryz.prog
     clear xu bm Ht
     go_wp2_with (go_at_call 83;with_reducible(refine eJ.o.mono ?_);rintro e w3 ⟨X,cap,rfl,hN,hb⟩;have qX:=ae (tk B3 hN);have bS:=ae hb;clear hb hN)
     have Wz:af (lZ ((w3.alloc (.cells #[.slice X l0.length cap,.slice none 0 0] 29)).alloc (.map #[] 0)) (w3.heap.size+1) 0 []):=⟨by have:=lZ.new (w3.alloc (.cells #[.slice X l0.length cap,.slice none 0 0] 29));simpa using this⟩
     have Wt:=ae (ax (ax (Below.refl w3.heap.size w3) (.cells #[.slice X l0.length cap,.slice none 0 0] 29)) (.map #[] 0))
     have El:=ae (aH (a8 w3 (.cells #[.slice X l0.length cap,.slice none 0 0] 29)) (.map #[] 0))
     have ze:af (((w3.alloc (.cells #[.slice X l0.length cap,.slice none 0 0] 29)).alloc (.map #[] 0)).heap.size=w3.heap.size+2):=⟨tA2⟩
     clear aK aC
     generalize TT:(w3.alloc (.cells #[.slice X l0.length cap,.slice none 0 0] 29)).alloc (.map #[] 0)=DJ at *
     clear TT
     go_loopg [20,21,112] L.length (fun bL _ _ arM wr=>∃(jj:Nat) (v:Value),jj<=L.length/\L.length-jj<=bL/\arM= .int .i64 jj/\af (lZ wr (w3.heap.size+1) jj ((k7 L (L.take jj)).map (·.f1)))/\af (wr.heap[w3.heap.size]?=some (.cells #[.slice X l0.length cap,v] 29 (0,0)))/\af (Kd.N bc 33 wr DJ.heap.size (fun k=>(R k\/w1.heap.size<=k)/\k≠w3.heap.size/\k≠w3.heap.size+1) v (k7 L (L.take jj)))/\af (Below w3.heap.size w3 wr)/\af (DJ.heap.size<=wr.heap.size))
     case atStart=>exact⟨0,.slice none 0 0,Nat.zero_le _,tA0,rfl,Wz,El,⟨Kd.i1 _ _ _ _ _⟩,Wt,⟨bl _⟩⟩
     case round=>
      obtain⟨ib,v,aw9,hg3,rfl,KD,zx,gy,cO,Lp⟩:=hrel
      generalize hw4:wr=w4 at *
      clear hw4 Wz El Wt
      obtain⟨b5,b6,rfl⟩:=Kd.c3 gy.o
      have Xy:af ((k7 L (L.take ib)).length<=5000):=⟨by have:=alD L (L.take ib);rw[bQ]at this;have:=jB.o;omega⟩
      have OW:=ae (bS.o.trans (dM cO.o bS.o.size))
      have Wu:=ae (O2.o.trans (dM OW.o O2.o.size))
      have ahE:=ae (b9.o.below Wu.o)
      by_cases Tq:ib<L.length
      ·have anG:(ib:Int)< (L.length:Int):=by omega
       obtain⟨ad,aN,c1,e,x0,x1,fF,jq⟩:=xV (Kd.fH aha.o OW.o) ib Tq
       cases e
       have iM:af (k7 L (L.take (ib+1))=if(bH L (ib:Int)).f1∈(k7 L (L.take ib)).map (·.f1)then k7 L (L.take ib)else k7 L (L.take ib)++[⟨(iI L (bH L (ib:Int)).f1).getD 0,(bH L (ib:Int)).f1⟩]):=⟨by rw[sT Tq,Sj]⟩
       have e8:=ae (kV.o _ (sL L ib Tq))
       have ma:=ae jq
       have iA:=ae fF
       clear jq fF
       generalize bH L (ib:Int)=f at *
       generalize k7 L (L.take ib)=outs at *
       have bR:=ae (ax (Below.refl w4.heap.size w4) (.cells #[.int .i64 f.f0,.slice aN f.f1.length c1] 33))
       have dh:=ae (a8 w4 (.cells #[.int .i64 f.f0,.slice aN f.f1.length c1] 33))
       have lu:af (gl aN c1 f (w4.alloc (.cells #[.int .i64 f.f0,.slice aN f.f1.length c1] 33))):=⟨⟨Kd.bN (Kd.gY ma.o) bR.o,iA.o,by have:=e8.o.len;omega,fun t ht=>(vv (e8.o.ok t ht)).2⟩⟩
       have y8:=ae (Nr lu.o e8.o.b (ahE.o.below bR.o))
       by_cases gO:f.f1∈outs.map (·.f1)
       ·have qU:af (∀W:World,Below w4.heap.size w4 W->(Instr.lookup 90 (.map (some (w3.heap.size+1))) (.string (jl f.f1)) false).run Tryz.prog W= .ok (.bool true) W):=⟨fun W hb=>by
         have:=(KD.o.below hb).look e8.o.key
         rw[bn gO]at this
         exact this⟩
        have HL:af (k7 L (L.take (ib+1))=outs):=⟨by rw[iM.o,if_pos gO]⟩
        have agq:af (∀W:World,Below w4.heap.size w4 W->lZ W (w3.heap.size+1) (ib+1) (outs.map (·.f1))):=⟨fun W hb=>by
         obtain⟨n9,OI,al3,Sz⟩:=KD.o.below hb
         exact⟨n9,OI,tA0,Sz⟩⟩
        clear gO
        go_wp2_with (go_at_call 98;with_reducible(refine y8.o.mono ?_);rintro e aZ ⟨rfl,hb⟩;have bq:=ae (au bR.o hb);have hlk:=qU.o aZ bq.o;clear hb)
        go_roundg (L.length- (ib+1))
        case measure=>omega
        case rel=>exact⟨ib+1,_,tA0,tA0,tA7,⟨by rw[HL.o];exact agq.o _ bq.o⟩,⟨av zx.o bq.o⟩,⟨by rw[HL.o];exact Kd.dz gy.o bq.o⟩,⟨cO.o.trans (dM bq.o cO.o.size)⟩,⟨bj Lp.o bq.o.size⟩⟩
       ·have qU:af (∀W:World,Below w4.heap.size w4 W->(Instr.lookup 90 (.map (some (w3.heap.size+1))) (.string (jl f.f1)) false).run Tryz.prog W= .ok (.bool false) W):=⟨fun W hb=>by
         have:=(KD.o.below hb).look e8.o.key
         rw[cE gO]at this
         exact this⟩
        obtain⟨n,mE⟩:∃n,af ((iI L f.f1).getD 0=n):=⟨_,⟨rfl⟩⟩
        have HL:af (k7 L (L.take (ib+1))=outs++[⟨n,f.f1⟩]):=⟨by rw[iM.o,if_neg gO,mE.o]⟩
        have Bl:af (∀W:World,Below w4.heap.size w4 W->∃W',(Instr.mapUpdate 90 (.map (some (w3.heap.size+1))) (.string (jl f.f1)) (.bool true)).run Tryz.prog W= .ok () W'/\lZ W' (w3.heap.size+1) (ib+1) (outs.map (·.f1)++[f.f1])/\W.grownBy W' (some (w3.heap.size+1))):=⟨fun W hb=>(KD.o.below hb).put e8.o.key tAp⟩
        have agM:=ae (KS.o.below bS.o)
        have Bw:af (w3.heap.size+2<=w4.heap.size):=⟨by have:=ze.o;have:=Lp.o;omega⟩
        have HP:af (aA.heap.size<=w3.heap.size):=⟨bj aI.o.size bS.o.size⟩
        have Bu:af (w1.heap.size<=aA.heap.size):=⟨bA.o.size⟩
        have abo:¬ w4.heap.size=w3.heap.size:=by have:=Bw.o;omega
        have rv:¬ w3.heap.size=w4.heap.size:=by have:=Bw.o;omega
        have iL:af (∀k,some k=(Value.slice b5 outs.length b6).ownBlock->DJ.heap.size<=k/\k<w4.heap.size):=⟨fun k hk=>⟨Kd.eK gy.o k hk.symm,Kd.BD gy.o k hk.symm⟩⟩
        have ki:=ae (Kd.tj gy.o)
        clear gO
        go_wp2_with (first|(go_at_call 98;with_reducible(refine y8.o.mono ?_);rintro e aZ ⟨rfl,hb⟩;have bq:=ae (au bR.o hb);have hlk:=qU.o aZ bq.o;obtain⟨aY,hrun,Z0,yj⟩:=Bl.o aZ bq.o;have agp:=ae Z0;have wH:=gf (av dh.o hb) yj (fun e=>by have h1:=bo e;have:=Bw.o;omega);have Jl:=gf (av zx.o bq.o) yj (fun e=>by have h1:=bo e;omega);have hE:=ae wH;have HX:=ae Jl;have cP:=ae ((cO.o.trans (dM bq.o cO.o.size)).grown yj (bj cO.o.size bq.o.size) (fun j hj=>tAr));have anH:=agM.o.below cP.o |>.apI e8.o.key;rw[mE.o]at anH;have z0:aY.cell? ⟨w4.heap.size,0,none⟩=some (.int .i64 f.f0):=(mj wH 0).trans rfl;have c2:aY.cell? ⟨w4.heap.size,1,none⟩=some (.slice aN f.f1.length c1):=(mj wH 1).trans rfl;have vw:aY.cell? ⟨w3.heap.size,0,none⟩=some (.slice X l0.length cap):=(mj Jl 0).trans rfl;have o1:aY.cell? ⟨w3.heap.size,1,none⟩=some (.slice b5 outs.length b6):=(mj Jl 1).trans rfl;have IG:=ar wH 0;have vu:=az wH;have aym:=az Jl;have PS:af (w4.heap.size+1<=aY.heap.size):=(⟨Nat.succ_le_of_lt (az wH)⟩);have dr:=ae (Kd.X6 (Kd.dz ki.o bq.o) yj (fun k hk e=>absurd (bo e) hk.1.2.2));have agI:=ae (apn cO.o cP.o (bj bq.o.size yj.size));clear hb Z0 yj wH Jl)|(at_builtin;have nG:=ae (Kd.cw (p:=⟨w4.heap.size,0,none⟩) dr.o (fun k hk=>by have:=hk.2;show k≠w4.heap.size;omega) (.int .i64 n));have ahT:af ((aY.setCell ⟨w4.heap.size,0,none⟩ (.int .i64 n)).heap[w3.heap.size]?=some (.cells #[.slice X l0.length cap,.slice b5 outs.length b6] 29 (0,0))):=(⟨(jZ _ ⟨w4.heap.size,0,none⟩ _ _ rv).trans HX.o⟩);have mB:=ae (zI (a:=n) iA.o (Kd.l4 ma.o (fN (p:=⟨w4.heap.size,0,none⟩) agI.o (.inl tDn) (.int .i64 n)) (fun k hk e=>by have h1:=hk.2;have h2:=HP.o;have h3:w3.heap.size<=k:=e;omega)));(refine Kd.oF bc DJ.heap.size rfl (.tmp 129) (.tmp 131) 27 33 (.agg #[.int .i64 0,.slice none 0 0]) 32 rfl Tryz.underlying27 jR rfl tA3 tA3 (.slice b5 outs.length b6) outs ⟨n,f.f1⟩ [.int .i64 n,.slice aN f.f1.length c1] (fun k=>(R k\/w1.heap.size<=k)/\k≠w3.heap.size/\k≠w3.heap.size+1) (fun k=>(R k\/w1.heap.size<=k)/\k<aA.heap.size) rfl (by first|rfl|(rw[World.size_setCell];rfl)) mB.o (fun k hk=>⟨⟨hk.1,by have h1:=hk.2;have h2:=HP.o;omega,by have h1:=hk.2;have h2:=HP.o;omega⟩,fun e=>by have h1:=hk.2;have h2:=HP.o;have h3:=(iL.o k e).1;have h4:=ze.o;omega⟩) (fun k hk=>by have h1:=PS.o;have h2:=Bw.o;have h3:=HP.o;have h4:=Bu.o;have h5:aY.heap.size<=k:=(by simpa using hk);exact⟨.inr tA0,tA0,tA0⟩) (Kd.et nG.o (fun k hk=>hk.1)) (Below.refl DJ.heap.size _) (by have h1:=PS.o;have h2:=Lp.o;show DJ.heap.size<=(aY.setCell ⟨w4.heap.size,0,none⟩ (.int .i64 n)).heap.size;simp;omega) (by have:=Xy.o;omega) ?_);intro v8 fq fO gD eY iq;obtain⟨jJ,c8,rfl⟩:=Kd.c3 fO;rw[j2]at fO iq ⊢;have kP:=gf ahT.o eY (fun e=>by have h1:=(iL.o _ e).1;have h2:=ze.o;omega);have uO:=ae kP;have p1:fq.cell? ⟨w3.heap.size,1,none⟩=some (.slice b5 outs.length b6):=(mj kP 1).trans rfl;have Mu:=ar kP 1;have yD:=az kP;have je:=ae fO;have eh:=ae gD;clear fO gD eY iq kP))
        go_roundg (L.length- (ib+1))
        case measure=>omega
        case rel=>exact⟨ib+1,.slice jJ (outs.length+1) c8,tA0,tA0,tA7,⟨by
          rw[HL.o,List.map_append]
          exact agp.o.same (((jZ _ ⟨w3.heap.size,1,none⟩ _ _ (by show w3.heap.size+1≠w3.heap.size;omega)).trans (eh.o.block _ (by have:=ze.o;omega))).trans (jZ _ ⟨w4.heap.size,0,none⟩ _ _ (by show w3.heap.size+1≠w4.heap.size;have:=Bw.o;omega)))⟩,⟨a6 uO.o 1 _ rfl⟩,⟨by rw[HL.o];exact Kd.cw (p:=⟨w3.heap.size,1,none⟩) je.o (fun k hk=>hk.2.1) _⟩,⟨((cP.o.setCell (p:=⟨w4.heap.size,0,none⟩) tDn (.int .i64 n)).trans (dM eh.o (by have:=ze.o;omega))).setCell (p:=⟨w3.heap.size,1,none⟩) (bl _) _⟩,⟨by
          have h1:=eh.o.size
          have h2:=PS.o
          have h3:=Lp.o
          simp only[World.size_setCell]at h1 ⊢
          omega⟩⟩
      ·have anG:¬ (ib:Int)< (L.length:Int):=by omega
       have Ze:ib=L.length:=tA0
       have o9:af (k7 L (L.take ib)=dT l1):=⟨by rw[vQ.o,Ze,fJ]⟩
       rw[o9.o]at gy zx Xy
       have zu:=ae (av jW.o OW.o)
       have r0:w4.cell? ⟨w.heap.size+1,0,none⟩=some (.slice none 0 0):=ah zu.o 0
       have r1:w4.cell? ⟨w.heap.size+1,1,none⟩=some (.slice none 0 0):=ah zu.o 1
       have g0:=ar zu.o 0
       have g1:=ar zu.o 1
       have ace:=az zu.o
       have vw:w4.cell? ⟨w3.heap.size,0,none⟩=some (.slice X l0.length cap):=ah zx.o 0
       have o1:w4.cell? ⟨w3.heap.size,1,none⟩=some (.slice b5 (dT l1).length b6):=ah zx.o 1
       clear Ze
       go_wp2
       have q1:=a6 (a6 zu.o 0 (.slice X l0.length cap) rfl) 1 (.slice b5 (dT l1).length b6) rfl
       refine bodyPost_ret (results_cell_row rfl _ _ (w.heap.size+1) 29 #[.slice X l0.length cap,.slice b5 (dT l1).length b6] (0,0) _ rfl q1 Tryz.underlying29 rfl tA1) rfl ?_
       have hz1:=km.o
       have hz2:=uA.o.size
       have hz3:=bS.o.size
       have abS:=ze.o
       have hb:=(Wu.o.setCell (p:=⟨w.heap.size+1,0,none⟩) tBp (.slice X l0.length cap)).setCell (p:=⟨w.heap.size+1,1,none⟩) tBp (.slice b5 (dT l1).length b6)
       have n0:=Kd.dz qX.o cO.o
       have hq:∀k,some k=(Value.slice X l0.length cap).ownBlock->w2.heap.size<=k:=fun k hk=>Kd.eK qX.o k hk.symm
       have n1:=Kd.cw (p:=⟨w.heap.size+1,1,none⟩) (Kd.cw (p:=⟨w.heap.size+1,0,none⟩) n0 (fun k hk=>tDa) (.slice X l0.length cap)) (fun k hk=>tDa) (.slice b5 (dT l1).length b6)
       have hr:∀k,(R k\/w1.heap.size<=k)/\k≠w3.heap.size/\k≠w3.heap.size+1->k≠w.heap.size+1:=fun k hk=>by
        rcases hk.1 with h|h
        ·have:=Xk.o k h;omega
        ·omega
       have m1:=Kd.cw (p:=⟨w.heap.size+1,1,none⟩) (Kd.cw (p:=⟨w.heap.size+1,0,none⟩) gy.o (fun k hk=>hr k hk) (.slice X l0.length cap)) (fun k hk=>hr k hk) (.slice b5 (dT l1).length b6)
       exact⟨X,cap,b5,b6,rfl,Kd.et (Kd.gp n1 tA0) (fun k hk=>by have:=hq k hk;omega),Kd.et (Kd.gp m1 tA0) (fun k hk=>hk.1.imp id (fun h=>tA0)),hb⟩
open Go
def uY:List Bool->Nat
 | []=>0
 | b::l=>(if b=false then 1 else 0)+uY l
theorem YU:∀{l:List Bool} {k:Nat},uY l=0->l[k]?=some false->False
 | [],_,_,h=>tAk
 | b::l,0,h0,h=>by
  have:b=false:=tAi
  subst this
  simp[uY]at h0
 | b::l,k+1,h0,h=>by
  refine YU (l:=l) (k:=k) ?_ tAi
  unfold uY at h0
  omega
theorem YT:∀{l:List Bool} {k:Nat},l[k]?=some false->uY (l.set k true)+1=uY l
 | [],_,h=>tAk
 | b::l,0,h=>by
  have:b=false:=tAi
  subst this
  simp[uY]
  omega
 | b::l,k+1,h=>by
  have:=YT (l:=l) (k:=k) tAi
  rw[List.set_cons_succ,uY,uY]
  omega
theorem acN {l:Array Bool}{k:Nat}(h:l.getD k true=false):l.toList[k]?=some false:=by
 rw[Array.getElem?_toList]
 by_cases hk:k<l.size
 ·simp[Array.getD,hk]at h
  simp[Array.getElem?_eq_getElem hk,h]
 ·simp[Array.getD,hk]at h
section
variable {P:Program}{ops:Array Oper}{Q:Exit->Act->World->Prop}{md:Region.Mode}{S:World->Prop}{n:Nat}
theorem ad7 {I:Array Bool->Act->World->Prop}
  (hstep:∀l a w k,I l a w->l.getD k true=false->(∃o,ops[k]?=some o/\∀e∈o.after,Region.binds md e=true->l.getD e.on false=true)->wpOp P ops Q k (fun b v=>(k<n->S v)/\I (l.setIfInBounds k true) b v) a w)
  (hend:∀l a w,I l a w->Region.ready md ops l=[]->Q .normal a w):
  ∀m l a w,uY l.toList<=m->I l a w->pN P md ops Q S n m l a w
 | 0,l,a,w,hc,hI=>by
  have hr:Region.ready md ops l=[]:=by
   refine List.eq_nil_iff_forall_not_mem.2 fun k hk=>?_
   exact YU (Nat.le_zero.1 hc) (acN (mem_ready.1 hk).1)
  exact⟨hr,hend l a w hI hr⟩
 | m+1,l,a,w,hc,hI=>by
  refine⟨hend l a w hI,fun k hk=>?_⟩
  have fP:=mem_ready.1 hk
  refine wpOp_mono (fun b v hb=>⟨hb.1,ad7 hstep hend m _ b v ?_ hb.2⟩) (hstep l a w k hI fP.1 fP.2)
  have:=YT (acN fP.1)
  rw[Array.toList_setIfInBounds]
  omega
theorem ajJ {l:Array Bool}(hb:(List.range ops.size).all (fun k=>((ops[k]?).map fun o=>o.after.all fun e=> !Region.binds md e||decide (e.on<k)).getD true)=true)(hr:Region.ready md ops l=[])(hs:l.size=ops.size):∀k,k<ops.size->l.getD k false=true:=by
 intro k
 induction k using Nat.strongRecOn with
 | _ k ih=>
  intro hk
  cases h:l.getD k true with
  | true=>
   have pF:k<l.size:=tA0
   simp[Array.getD,pF]at h ⊢
   exact h
  | false=>
   have h1:=List.all_eq_true.1 hb k (List.mem_range.2 hk)
   have ho:ops[k]?=some ops[k]:=Array.getElem?_eq_getElem hk
   have hm:k∈Region.ready md ops l:=mem_ready.2 ⟨h,ops[k],ho,fun e he MA=>by
    rw[ho]at h1
    have h2:(ops[k].after.all fun e=> !Region.binds md e||decide (e.on<k))=true:=h1
    have h3:=Array.all_eq_true'.1 h2 e he
    rw[MA]at h3
    have h4:e.on<k:=by simpa using h3
    exact ih e.on h4 tA0⟩
   rw[hr]at hm
   cases hm
section
variable {k:Nat}{o:Oper}{K:Act->World->Prop}{a:Act}{w:World}
theorem F3 {v:Value}{w':World}(ho:ops[k]?=some o)(hg:o.guard=none)(hrun:(execOp a.eval o).run P w= .ok (.value v) w')(h:K (a.put o.dst v) w'):wpOp P ops Q k K a w:=
 wpOp_step ho fun K' hK=>by
  have hw:Region.wanted o (yielded ops a.tmps)=true:=tCp
  rw[if_pos hw]
  unfold Oper.wp
  rw[hrun]
  exact hK _ _ h
theorem NC {w':World}(ho:ops[k]?=some o)(hg:o.guard=none)(hrun:(execOp a.eval o).run P w= .ok .skip w')(h:K (a.put o.dst undef) w'):wpOp P ops Q k K a w:=
 wpOp_step ho fun K' hK=>by
  have hw:Region.wanted o (yielded ops a.tmps)=true:=tCp
  rw[if_pos hw]
  unfold Oper.wp
  rw[hrun]
  exact hK _ _ h
theorem acM {f:FuncId}{args:Array Value}(ho:ops[k]?=some o)(hg:o.guard=none)(hrun:(execOp a.eval o).run P w= .ok (.enter f args) w)(h:Calls P f args w fun e w'=>∃v,e= .returned v/\K (a.put o.dst v) w'):wpOp P ops Q k K a w:=
 wpOp_step ho fun K' hK=>by
  have hw:Region.wanted o (yielded ops a.tmps)=true:=tCp
  rw[if_pos hw]
  unfold Oper.wp
  rw[hrun]
  show Calls P f args w _
  refine h.mono fun e w' ⟨v,he,hk⟩=>?_
  subst he
  exact hK _ _ hk
end
end
theorem alF (W:World)(x:aq):Kd.eI cu W (fun _=>False) x (encS x):=fun W' _=>⟨[.string x.f0],[.int .i64 x.f1,.int .i64 x.f2],rfl,rfl,[.int .i64 x.f1],[.int .i64 x.f2],rfl,rfl,rfl⟩
theorem arF {W:World}{ok:Nat->Prop}{l:List aq}{rows:List (List Value)}(hl:rows.length=l.length)(hf:∀(j:Nat) x c,l[j]?=some x->rows[j]?=some c->Kd.eI cu W ok x c):rows=l.map encS:=by
 apply List.ext_getElem?
 intro j
 rw[List.getElem?_map]
 by_cases hj:j<l.length
 ·have h1:=b8 hj
  have h2:=b8 (show j<rows.length by omega)
  have e:=Np (Kd.o6 (hf j _ _ h1 h2))
  rw[h1,h2,e]
  rfl
 ·rw[List.getElem?_eq_none tA0,List.getElem?_eq_none tA0]
  rfl
theorem aiO {W:World}{X cap base:Nat}{l:List aq}(h:mg W X cap l)(hX:base<=X):Kd.N cu 77 W base (fun k=>some k=(Value.slice (some ⟨X,0,none⟩) l.length cap).ownBlock) (.slice (some ⟨X,0,none⟩) l.length cap) l:=
 LB (d:=cu) h hX rfl (fc _) fun j x c hx hc=>by
  rw[List.getElem?_map,hx]at hc
  rw[<- bo hc]
  exact fun W' hW=>alF W x W' (fun k hk=>hk.elim)
theorem aqj {B:Nat}{name:ByteArray}{W:World}(hB:W.heap[B]?=some (.cells #[.string name] 9 (0,0)))(x:aq):Calls Tryz.prog 146 #[.agg #[.string x.f0,.int .i64 x.f1,.int .i64 x.f2],.pointer (some ⟨B,0,none⟩)] W fun e w'=>e= .returned (.bool (decide (x.f0=name)))/\Below W.heap.size W w':=by
 have ak:=ae (ax (Below.refl W.heap.size W) (.cells #[.string x.f0,.int .i64 x.f1,.int .i64 x.f2] 77))
 have aC:W.cell? ⟨B,0,none⟩=some (.string name):=ah hB 0
 have Nv:=az hB
 have hne:¬ B=W.heap.size:=tA0
 have rv:¬ W.heap.size=B:=tA0
 clear hB
 go_enter Tryz.func146,Tryz.ntmps146
 go_wp2
 go_ret
 refine⟨?_,ak.o⟩
 have:(x.f0.toList==name.toList)=decide (x.f0=name):=by
  rw[Bool.eq_iff_iff]
  simp[pK]
 simp[this]
theorem aqk {B:Nat}{name:ByteArray}{W:World}(hB:W.heap[B]?=some (.cells #[.string name] 9 (0,0)))(x:aq):Calls Tryz.prog 147 #[.agg #[.string x.f0,.int .i64 x.f1,.int .i64 x.f2],.pointer (some ⟨B,0,none⟩)] W fun e w'=>e= .returned (.bool (decide (x.f0=name)))/\Below W.heap.size W w':=by
 have ak:=ae (ax (Below.refl W.heap.size W) (.cells #[.string x.f0,.int .i64 x.f1,.int .i64 x.f2] 77))
 have aC:W.cell? ⟨B,0,none⟩=some (.string name):=ah hB 0
 have Nv:=az hB
 have hne:¬ B=W.heap.size:=tA0
 have rv:¬ W.heap.size=B:=tA0
 clear hB
 go_enter Tryz.func147,Tryz.ntmps147
 go_wp2
 go_ret
 refine⟨?_,ak.o⟩
 have:(x.f0.toList==name.toList)=decide (x.f0=name):=by
  rw[Bool.eq_iff_iff]
  simp[pK]
 simp[this]
theorem acR {A A':Option Addr}{c c':Nat}{l0:List aq}{l1:List aj}{name:ByteArray}{w:World}(h:cD A c l0 A' c' l1 w)(hl:l0.length<=1000)(hn:name∈l0.map (·.f0)):
  Calls Tryz.prog 99 #[.agg #[.slice A l0.length c,.slice A' l1.length c'],.string name] w fun e w'=>∃X cx,e= .returned (.slice X (dE l0 name).length cx)/\Kd.N cu 77 w' w.heap.size (fun k=>some k=(Value.slice X (dE l0 name).length cx).ownBlock) (.slice X (dE l0 name).length cx) (dE l0 name)/\Below w.heap.size w w':=by
 have hne:l0≠[]:=fun e=>by rw[e]at hn;simp at hn
 have br:=ae hl
 have bI:=ae (ax (ax (Below.refl w.heap.size w) (.cells #[.slice A l0.length c,.slice A' l1.length c'] 29)) (.cells #[.string name] 9))
 have cq:af (((w.alloc (.cells #[.slice A l0.length c,.slice A' l1.length c'] 29)).alloc (.cells #[.string name] 9)).heap[w.heap.size+1]?=some (.cells #[.string name] 9 (0,0))):=⟨tDf⟩
 have HC:=ae (L9 (c:=c) (Kd.bN h.hs bI.o) tA0)
 clear h hn hl
 go_enter Tryz.func99,Tryz.ntmps99
 go_wp2_with (first|(go_at_call 83;refine HC.o.mono ?_;rintro e w3 ⟨X,cap,rfl,hN,hb⟩;obtain⟨Q5,cap0,rows,IC,_,amj,kz,hR,hf⟩:=QQ hN hne;simp only[Value.slice.injEq,true_and]at IC;obtain⟨rfl,rfl⟩:=IC;have fW:=arF kz hf;subst fW;have ra:af (w.heap.size<=Q5):=(⟨by have:=bI.o.size;omega⟩);have bS:=ae (au bI.o hb);have eC:=ae (av cq.o hb);have Qo:af (Q5≠w.heap.size+1):=(⟨by have iF:=az cq.o;omega⟩);have HD:=ae (ae8 (B:=w.heap.size+1) (w0:=w) (pd:=fun x=>decide (x.f0=name)) hR br.o ra.o bS.o (fun x _ W' hW=>aqj ((hW.2 _ (az eC.o) (Ne.symm Qo.o)).trans eC.o) x));clear hN hR hf hb kz amj)|(go_at_call 145;refine HD.o.mono ?_;rintro e w4 ⟨rfl,amc,hK4,Mw⟩))
 go_ret
 exact⟨_,_,rfl,aiO amc.o ra.o,Mw.o⟩
theorem ah0 {A:Option Addr}{c B:Nat}{l:List aq}{name:ByteArray}{W:World}(h:Kd.C cu W A l.length l)(hB:W.heap[B]?=some (.cells #[.string name] 9 (0,0)))(hm:name∈l.map (·.f0)):
  Calls Tryz.prog 120 #[.slice A l.length c,.func (.func 147) #[] #[.pointer (some ⟨B,0,none⟩)]] W fun e w'=>∃i0:Nat,e= .returned (.int .i64 (i0:Int))/\l[i0]?=some (eV l name)/\(eV l name).f0=name/\Below W.heap.size W w':=by
 have bT:=ae h
 have dh:=ae hB
 have dC:=ae hm
 have FH:=h.2.1
 have eg:=enters_of Tryz.func147 tA1 rfl
 clear h hB hm
 go_enter Tryz.func120,Tryz.ntmps120
 go_wp2
 go_loopg [5,8] l.length (fun bL _ kE wr=>∃kk:Nat,kk<=l.length/\l.length-kk<=bL/\kE= .int .i64 kk/\af (∀x∈l.take kk,x.f0≠name)/\af (Below W.heap.size W wr))
 case atStart=>exact⟨0,Nat.zero_le _,tA0,rfl,⟨tA2⟩,⟨Below.refl _ _⟩⟩
 case round=>
  obtain⟨kk,eO,hg,rfl,gm,ak⟩:=hrel
  by_cases hlt:kk<l.length
  ·have cp:(kk:Int)< (l.length:Int):=by omega
   obtain⟨ad,e,bf,c1,bb⟩:=fe bT.o (kk:Int) tA0 tA0
   cases e
   simp only[eQ]at bf c1 bb
   replace bf:=bw ak.o bf
   replace c1:=bw ak.o c1
   replace bb:=bw ak.o bb
   have jM:af (l[kk]?=some (aw l (kk:Int))):=⟨tC1⟩
   have dQ:af (l.take (kk+1)=l.take kk++[aw l (kk:Int)]):=⟨by
    rw[List.take_add_one,jM.o]
    rfl⟩
   have Bo:af ((aw l (kk:Int)).f0=name->eV l name=aw l (kk:Int)):=⟨fun e=>by
    have e1:l=l.take kk++aw l (kk:Int)::l.drop (kk+1):=by
     obtain⟨hl',e'⟩:=iC.1 jM.o
     rw[<- e']
     simp
    have e2:(l.take kk).find? (fun x=>decide (x.f0=name))=none:=List.find?_eq_none.2 fun x hx=>by simpa using gm.o x hx
    unfold eV
    rw[show l.find? (fun x=>decide (x.f0=name))=some (aw l (kk:Int)) by
     conv=>lhs;rw[e1]
     rw[List.find?_append,e2,List.find?_cons_of_pos (by simpa using e)]
     rfl]
    rfl⟩
   have nB:=ae (aqk (av dh.o ak.o) (aw l (kk:Int)))
   generalize aw l (kk:Int)=y at *
   by_cases hq:y.f0=name
   ·rw[bn hq]at nB
    have fV:=ae (Bo.o hq)
    have dK:=ae hq
    clear hq
    obtain⟨aK,aC,bM⟩:=y
    go_wp2_with (go_at_fn 147)
    refine nB.o.mono ?_
    rintro e w2 ⟨rfl,hb⟩
    have aI:=ae (au ak.o hb)
    clear hb
    go_wp2
    go_ret
    exact⟨kk,rfl,by rw[fV.o];exact jM.o,by rw[fV.o];exact dK.o,aI.o⟩
   ·rw[cE hq]at nB
    have dK:=ae hq
    clear hq
    obtain⟨aK,aC,bM⟩:=y
    go_wp2_with (go_at_fn 147)
    refine nB.o.mono ?_
    rintro e w2 ⟨rfl,hb⟩
    have aI:=ae (au ak.o hb)
    clear hb
    go_wp2
    go_roundg (l.length- (kk+1))
    case measure=>omega
    case rel=>exact⟨kk+1,tA0,tA0,tA7,⟨fun t ht=>by
     rw[dQ.o]at ht
     rcases List.mem_append.1 ht with ht|ht
     ·exact gm.o t ht
     ·rw[il.1 ht];exact dK.o⟩,aI⟩
  ·exfalso
   have di:kk=l.length:=tA0
   obtain⟨x,hx,e⟩:=List.mem_map.1 dC.o
   refine gm.o x ?_ e
   rw[di,fJ]
   exact hx
def ik (W:World)(b:Nat)(p q:Bool)(name:ByteArray)(c m:Int):Prop:=∃n D,n<=p.toNat+q.toNat/\iB W b n D/\∀s,s.size<=maxLen->eP D s=if p=true/\s=name then c else if q=true/\s=⟨#[]⟩then m else 0
section
variable {W W':World}{b b':Nat}{p q:Bool}{name:ByteArray}{c m:Int}
theorem ik.new (W:World)(name:ByteArray)(c m:Int):ik (W.alloc (.map #[] 0)) W.heap.size false false name c m:=
 ⟨0,.map [],Nat.zero_le _,World.ownsMap_made (H:=Unit) W Tryz.prog 9 (plainElem Tryz.prog 3),fun s _=>by simp[eP,lW,DataW.atKey,jS]⟩
theorem ik.lt (h:ik W b p q name c m):b<W.heap.size:=by
 obtain⟨n,D,_,hm,_⟩:=h
 exact hm.lt
theorem ik.same (h:ik W b p q name c m)(e:W'.heap[b]?=W.heap[b]?):ik W' b p q name c m:=by
 obtain⟨n,D,h1,hm,h2⟩:=h
 exact⟨n,D,h1,Nx hm e,h2⟩
theorem ik.below (h:ik W b p q name c m)(hb:Below W.heap.size W W'):ik W' b p q name c m:=h.same (hb.block b h.lt)
theorem ik.grown (h:ik W b p q name c m)(hg:W.grownBy W' (some b'))(hn:b≠b'):ik W' b p q name c m:=h.same (hg.block b h.lt (by simpa using hn))
theorem ik.abY (h:ik W b p q name c m):∃es clock,W.heap[b]?=some (.map es clock):=by
 obtain⟨n,D,_,⟨es,clock,he,_⟩,_⟩:=h
 exact⟨es,clock,he⟩
theorem ik.ac4 (h:ik W b false q name c m)(hs:name.size<=maxLen)(hw:(Lit.int .i64 c).wf=true)(hn:name≠⟨#[]⟩):∃W',(Instr.mapUpdate 100 (.map (some b)) (.string name) (.int .i64 c)).run Tryz.prog W= .ok () W'/\ik W' b true q name c m/\W.grownBy W' (some b):=by
 obtain⟨n,D,h1,hm,h2⟩:=h
 obtain⟨W',r1,r2,r3⟩:=World.ownsMap.update hm jH Tryz.underlying100 (by have:q.toNat<=1:=Bool.toNat_le q;have:(false).toNat=0:=rfl;unfold maxLen;omega) (pI hs) (plainElem_int Tryz.underlying3 hw)
 refine⟨W',r1,⟨n+1,_,tEe,r2,fun s hs'=>?_⟩,r3⟩
 rw[Ag (sO hm)]
 have:=h2 s hs'
 by_cases e:s=name
 ·simp[e]
 ·simp only[e,and_false,if_false]at this ⊢
  simpa using this
theorem ik.ac3 (h:ik W b p false name c m)(hw:(Lit.int .i64 m).wf=true)(hn:name≠⟨#[]⟩):∃W',(Instr.mapUpdate 100 (.map (some b)) (.string ⟨#[]⟩) (.int .i64 m)).run Tryz.prog W= .ok () W'/\ik W' b p true name c m/\W.grownBy W' (some b):=by
 obtain⟨n,D,h1,hm,h2⟩:=h
 obtain⟨W',r1,r2,r3⟩:=World.ownsMap.update hm jH Tryz.underlying100 (by have:p.toNat<=1:=Bool.toNat_le p;have:(false).toNat=0:=rfl;unfold maxLen;omega) (pI (s:=⟨#[]⟩) (Nat.zero_le _)) (plainElem_int Tryz.underlying3 hw)
 refine⟨W',r1,⟨n+1,_,tEe,r2,fun s hs'=>?_⟩,r3⟩
 rw[Ag (sO hm)]
 have:=h2 s hs'
 by_cases e:s=⟨#[]⟩
 ·subst e
  simp[Ne.symm hn]
 ·simp only[e,and_false,if_false]at this ⊢
  simpa using this
theorem ik.acY (h:ik W b true true name c m)(hn:name≠⟨#[]⟩):eX W b 2 (pf ⟨m,[⟨name,c⟩]⟩):=by
 obtain⟨n,D,h1,hm,h2⟩:=h
 refine⟨n,D,h1,hm,fun s hs=>?_⟩
 rw[h2 s hs]
 unfold pf
 simp only[bu]
 by_cases e:s=name
 ·subst e
  simp[hn]
 ·by_cases e0:s=⟨#[]⟩
  ·simp[e0,Ne.symm hn]
  ·simp[e,e0,Ne.symm e]
end
theorem YJ {name:ByteArray}{c m:Int}(hn:name≠⟨#[]⟩)(hs:name.size<=100)(hc:c≠0):Canon ⟨m,[⟨name,c⟩]⟩:=
 ⟨tBd,by simpa using hc,by simpa using⟨hn,hs⟩⟩
abbrev rq (k:Nat)(d:Nat->Bool):Nat->Bool:=fun j=>decide (k=j)||d j
structure eu (w0:World)(name:ByteArray)(lo hi:Int)(d:Nat->Bool)(a:Act)(W:World):Prop where
 tm:a.tmps.size=32
 si:a.defers=[]
 pu:∀k∈[1,3,4,5,6,7,8,9,14,16,17,18,19,20,21],d k=true
 gb:Below w0.heap.size w0 W
 e11:a.eval (.tmp 11)= .string name
 sj:a.eval (.tmp 18)= .int .i64 lo
 sk:a.eval (.tmp 22)= .string name
 sq:a.eval (.tmp 28)= .int .i64 hi
 m:∃b1 b2:Nat,w0.heap.size<=b1/\w0.heap.size<=b2/\(d 0=true->d 13=true->b1≠b2)/\(d 0=true->a.eval (.tmp 10)= .map (some b1)/\b1<W.heap.size)/\(d 11=true->a.eval (.tmp 19)= .map (some b1))/\(d 0=true->d 12=false->ik W b1 (d 2) (d 10) name 1 lo)/\
  (d 13=true->a.eval (.tmp 21)= .map (some b2)/\b2<W.heap.size)/\(d 23=true->a.eval (.tmp 29)= .map (some b2))/\(d 13=true->d 24=false->ik W b2 (d 15) (d 22) name (-1) hi)
 f1:d 12=true->∃X c,a.eval (.tmp 20)= .agg #[.int .i64 lo,.slice X 1 c]/\Kd.N cf 79 W w0.heap.size (fun k=>some k=(Value.slice X 1 c).ownBlock) (.slice X 1 c) [⟨name,1⟩]
 f2:d 24=true->∃X c,a.eval (.tmp 30)= .agg #[.int .i64 hi,.slice X 1 c]/\Kd.N cf 79 W w0.heap.size (fun k=>some k=(Value.slice X 1 c).ownBlock) (.slice X 1 c) [⟨name,-1⟩]
 r:d 25=true->∃Y,a.eval (.tmp 31)= .slice (some ⟨Y,0,none⟩) 2 2/\Kd.N bc 33 W w0.heap.size (fun k=>w0.heap.size<=k) (.slice (some ⟨Y,0,none⟩) 2 2) [⟨lo,[⟨name,1⟩]⟩,⟨hi,[⟨name,-1⟩]⟩]
 aqV:d 26=true->a.eval (.tmp 4)=a.eval (.tmp 31)
section
variable {w0 W:World}{name:ByteArray}{lo hi:Int}{d:Nat->Bool}{a:Act}
theorem eF {b:Bool}{p:Prop}(h:b=false)(h':b=true):p:=by rw[h]at h';cases h'
theorem X5 {X:Option Addr}{c b:Nat}{V:World}{l:List ay}(h:Kd.N cf 79 W w0.heap.size (fun k=>some k=(Value.slice X 1 c).ownBlock) (.slice X 1 c) l)(hm:∃es clock,W.heap[b]?=some (.map es clock))(hg:W.grownBy V (some b)):Kd.N cf 79 V w0.heap.size (fun k=>some k=(Value.slice X 1 c).ownBlock) (.slice X 1 c) l:=
 Kd.X6 h hg fun k hk e=>by
  obtain⟨cs,hc⟩:=Kd.tq h k hk.symm
  obtain⟨es,clock,he⟩:=hm
  rw[bo e,he]at hc
  cases hc
theorem eu.s0 (hI:eu w0 name lo hi d a W)(n2:d 2=false)(n10:d 10=false)(n11:d 11=false)(n12:d 12=false)(n24:d 24=false)(n25:d 25=false)(n26:d 26=false):eu w0 name lo hi (rq 0 d) (a.put (some 10) (.map (some W.heap.size))) (W.alloc (.map #[] 0)):=by
 obtain⟨b1,b2,g1,g2,hne,m0,m11,lg,m13,m23,lh⟩:=hI.m
 have hb:=ax (Below.refl W.heap.size W) (.map #[] 0)
 have hsz:(W.alloc (.map #[] 0)).heap.size=W.heap.size+1:=tA2
 refine⟨(Act.size_put _ _ _).trans hI.tm,(Act.defers_put' _ _ _).trans hI.si,fun j hj=>tAn,ax hI.gb _,(Act.eval_put_ne _ 10 11 _ tA3).trans hI.e11,(Act.eval_put_ne _ 10 18 _ tA3).trans hI.sj,(Act.eval_put_ne _ 10 22 _ tA3).trans hI.sk,(Act.eval_put_ne _ 10 28 _ tA3).trans hI.sq,⟨W.heap.size,b2,hI.gb.size,g2,fun _ h=>by have:=(m13 h).2;omega,fun _=>⟨Act.eval_put_same _ _ _ tB2,tA0⟩,fun h=>eF n11 h,fun _ _=>?_,fun h=>⟨(Act.eval_put_ne _ 10 21 _ tA3).trans (m13 h).1,by have:=(m13 h).2;omega⟩,fun h=>(Act.eval_put_ne _ 10 29 _ tA3).trans (m23 h),fun h h'=>(lh h h').below hb⟩,fun h=>eF n12 h,fun h=>eF n24 h,fun h=>eF n25 h,fun h=>eF n26 h⟩
 show ik _ _ (d 2) (d 10) _ _ _
 rw[n2,n10]
 exact ik.new W name 1 lo
theorem eu.s2 (hI:eu w0 name lo hi d a W)(hs:name.size<=maxLen)(hn:name≠⟨#[]⟩)(h0:d 0=true)(n2:d 2=false)(n11:d 11=false)(n12:d 12=false)(n24:d 24=false)(n25:d 25=false)(n26:d 26=false):∃V,(Instr.mapUpdate 100 (a.eval (.tmp 10)) (a.eval (.tmp 11)) (.int .i64 1)).run Tryz.prog W= .ok () V/\eu w0 name lo hi (rq 2 d) a V:=by
 obtain⟨b1,b2,g1,g2,hne,m0,m11,lg,m13,m23,lh⟩:=hI.m
 have sD:=lg h0 n12
 have hL:=sD
 rw[n2]at hL
 obtain⟨V,hrun,hL2,hg⟩:=ik.ac4 hL hs tA3 hn
 have hB:Below w0.heap.size w0 V:=Below.grown hI.gb hg hI.gb.size (fun j hj=>tAr)
 refine⟨V,by rw[(m0 h0).1,hI.e11];exact hrun,hI.tm,hI.si,fun j hj=>tAn,hB,hI.e11,hI.sj,hI.sk,hI.sq,⟨b1,b2,g1,g2,hne,fun h=>⟨(m0 h).1,fy (m0 h).2 hg.size⟩,fun h=>eF n11 h,fun _ _=>hL2,fun h=>⟨(m13 h).1,fy (m13 h).2 hg.size⟩,m23,fun h h'=>(lh h h').grown hg (fun e=>hne h0 h e.symm)⟩,fun h=>eF n12 h,fun h=>eF n24 h,fun h=>eF n25 h,fun h=>eF n26 h⟩
theorem eu.Dx (hI:eu w0 name lo hi d a W)(hn:name≠⟨#[]⟩)(mK:(Lit.int .i64 lo).wf=true)(h0:d 0=true)(n10:d 10=false)(n11:d 11=false)(n12:d 12=false)(n24:d 24=false)(n25:d 25=false)(n26:d 26=false):∃V,(Instr.mapUpdate 100 (a.eval (.tmp 10)) (.string ⟨#[]⟩) (a.eval (.tmp 18))).run Tryz.prog W= .ok () V/\eu w0 name lo hi (rq 10 d) a V:=by
 obtain⟨b1,b2,g1,g2,hne,m0,m11,lg,m13,m23,lh⟩:=hI.m
 have sD:=lg h0 n12
 have hL:=sD
 rw[n10]at hL
 obtain⟨V,hrun,hL2,hg⟩:=ik.ac3 hL mK hn
 have hB:Below w0.heap.size w0 V:=Below.grown hI.gb hg hI.gb.size (fun j hj=>tAr)
 refine⟨V,by rw[(m0 h0).1,hI.sj];exact hrun,hI.tm,hI.si,fun j hj=>tAn,hB,hI.e11,hI.sj,hI.sk,hI.sq,⟨b1,b2,g1,g2,hne,fun h=>⟨(m0 h).1,fy (m0 h).2 hg.size⟩,fun h=>eF n11 h,fun _ _=>hL2,fun h=>⟨(m13 h).1,fy (m13 h).2 hg.size⟩,m23,fun h h'=>(lh h h').grown hg (fun e=>hne h0 h e.symm)⟩,fun h=>eF n12 h,fun h=>eF n24 h,fun h=>eF n25 h,fun h=>eF n26 h⟩
theorem eu.yK (hI:eu w0 name lo hi d a W)(h0:d 0=true)(n12:d 12=false)(n24:d 24=false)(n25:d 25=false)(n26:d 26=false):eu w0 name lo hi (rq 11 d) (a.put (some 19) (a.eval (.tmp 10))) W:=by
 obtain⟨b1,b2,g1,g2,hne,m0,m11,lg,m13,m23,lh⟩:=hI.m
 exact⟨(Act.size_put _ _ _).trans hI.tm,(Act.defers_put' _ _ _).trans hI.si,fun j hj=>tAn,hI.gb,(Act.eval_put_ne _ 19 11 _ tA3).trans hI.e11,(Act.eval_put_ne _ 19 18 _ tA3).trans hI.sj,(Act.eval_put_ne _ 19 22 _ tA3).trans hI.sk,(Act.eval_put_ne _ 19 28 _ tA3).trans hI.sq,⟨b1,b2,g1,g2,hne,fun h=>⟨(Act.eval_put_ne _ 19 10 _ tA3).trans (m0 h).1,(m0 h).2⟩,fun _=>(Act.eval_put_same _ _ _ tB2).trans (m0 h0).1,lg,fun h=>⟨(Act.eval_put_ne _ 19 21 _ tA3).trans (m13 h).1,(m13 h).2⟩,fun h=>(Act.eval_put_ne _ 19 29 _ tA3).trans (m23 h),lh⟩,fun h=>eF n12 h,fun h=>eF n24 h,fun h=>eF n25 h,fun h=>eF n26 h⟩
theorem eu.s12 (hI:eu w0 name lo hi d a W)(hs:name.size<=100)(hn:name≠⟨#[]⟩)(h0:d 0=true)(h2:d 2=true)(h10:d 10=true)(h11:d 11=true)(n12:d 12=false)(n24:d 24=false)(n25:d 25=false)(n26:d 26=false):Calls Tryz.prog 70 #[a.eval (.tmp 19)] W fun e w'=>∃v,e= .returned v/\eu w0 name lo hi (rq 12 d) (a.put (some 20) v) w':=by
 obtain⟨b1,b2,g1,g2,hne,m0,m11,lg,m13,m23,lh⟩:=hI.m
 have hL:=lg h0 n12
 rw[h2,h10]at hL
 rw[m11 h11]
 refine(JL (hL.acY hn) (YJ hn hs tA3) tA3).mono fun e w' ⟨X,cap,he,hN,hb⟩=>⟨_,he,?_⟩
 have hB:=hI.gb.trans (dM hb hI.gb.size)
 exact⟨(Act.size_put _ _ _).trans hI.tm,(Act.defers_put' _ _ _).trans hI.si,fun j hj=>tAn,hB,(Act.eval_put_ne _ 20 11 _ tA3).trans hI.e11,(Act.eval_put_ne _ 20 18 _ tA3).trans hI.sj,(Act.eval_put_ne _ 20 22 _ tA3).trans hI.sk,(Act.eval_put_ne _ 20 28 _ tA3).trans hI.sq,⟨b1,b2,g1,g2,hne,fun h=>⟨(Act.eval_put_ne _ 20 10 _ tA3).trans (m0 h).1,fy (m0 h).2 hb.size⟩,fun h=>(Act.eval_put_ne _ 20 19 _ tA3).trans (m11 h),fun _ h=>absurd (show true=false from h) tA3,fun h=>⟨(Act.eval_put_ne _ 20 21 _ tA3).trans (m13 h).1,fy (m13 h).2 hb.size⟩,fun h=>(Act.eval_put_ne _ 20 29 _ tA3).trans (m23 h),fun h h'=>(lh h h').below hb⟩,fun _=>⟨X,cap,Act.eval_put_same _ _ _ tB2,Kd.gp hN hI.gb.size⟩,fun h=>eF n24 h,fun h=>eF n25 h,fun h=>eF n26 h⟩
theorem eu.yL (hI:eu w0 name lo hi d a W)(n15:d 15=false)(n22:d 22=false)(n23:d 23=false)(n24:d 24=false)(n25:d 25=false)(n26:d 26=false):eu w0 name lo hi (rq 13 d) (a.put (some 21) (.map (some W.heap.size))) (W.alloc (.map #[] 0)):=by
 obtain⟨b1,b2,g1,g2,hne,m0,m11,lg,m13,m23,lh⟩:=hI.m
 have hb:=ax (Below.refl W.heap.size W) (.map #[] 0)
 have hsz:(W.alloc (.map #[] 0)).heap.size=W.heap.size+1:=tA2
 refine⟨(Act.size_put _ _ _).trans hI.tm,(Act.defers_put' _ _ _).trans hI.si,fun j hj=>tAn,ax hI.gb _,(Act.eval_put_ne _ 21 11 _ tA3).trans hI.e11,(Act.eval_put_ne _ 21 18 _ tA3).trans hI.sj,(Act.eval_put_ne _ 21 22 _ tA3).trans hI.sk,(Act.eval_put_ne _ 21 28 _ tA3).trans hI.sq,⟨b1,W.heap.size,g1,hI.gb.size,fun h _=>by have:=(m0 h).2;omega,fun h=>⟨(Act.eval_put_ne _ 21 10 _ tA3).trans (m0 h).1,by have:=(m0 h).2;omega⟩,fun h=>(Act.eval_put_ne _ 21 19 _ tA3).trans (m11 h),fun h h'=>(lg h h').below hb,fun _=>⟨Act.eval_put_same _ _ _ tB2,tA0⟩,fun h=>eF n23 h,fun _ _=>?_⟩,fun h=>(hI.f1 h).imp fun X ⟨c,e,hN⟩=>⟨c,(Act.eval_put_ne _ 21 20 _ tA3).trans e,Kd.BB hN _⟩,fun h=>eF n24 h,fun h=>eF n25 h,fun h=>eF n26 h⟩
 show ik _ _ (d 15) (d 22) _ _ _
 rw[n15,n22]
 exact ik.new W name (-1) hi
theorem eu.U5 (hI:eu w0 name lo hi d a W)(hs:name.size<=maxLen)(hn:name≠⟨#[]⟩)(k8:d 13=true)(n15:d 15=false)(n23:d 23=false)(n24:d 24=false)(n25:d 25=false)(n26:d 26=false):∃V,(Instr.mapUpdate 100 (a.eval (.tmp 21)) (a.eval (.tmp 22)) (.int .i64 (-1))).run Tryz.prog W= .ok () V/\eu w0 name lo hi (rq 15 d) a V:=by
 obtain⟨b1,b2,g1,g2,hne,m0,m11,lg,m13,m23,lh⟩:=hI.m
 have sD:=lh k8 n24
 have hL:=sD
 rw[n15]at hL
 obtain⟨V,hrun,hL2,hg⟩:=ik.ac4 hL hs tA3 hn
 have hB:Below w0.heap.size w0 V:=Below.grown hI.gb hg hI.gb.size (fun j hj=>tAr)
 refine⟨V,by rw[(m13 k8).1,hI.sk];exact hrun,hI.tm,hI.si,fun j hj=>tAn,hB,hI.e11,hI.sj,hI.sk,hI.sq,⟨b1,b2,g1,g2,hne,fun h=>⟨(m0 h).1,fy (m0 h).2 hg.size⟩,m11,fun h h'=>(lg h h').grown hg (hne h k8),fun h=>⟨(m13 h).1,fy (m13 h).2 hg.size⟩,fun h=>eF n23 h,fun _ _=>hL2⟩,fun h=>(hI.f1 h).imp fun X ⟨c,e,hN⟩=>⟨c,e,X5 hN sD.abY hg⟩,fun h=>eF n24 h,fun h=>eF n25 h,fun h=>eF n26 h⟩
theorem eu.JV (hI:eu w0 name lo hi d a W)(hn:name≠⟨#[]⟩)(Fy:(Lit.int .i64 hi).wf=true)(k8:d 13=true)(n22:d 22=false)(n23:d 23=false)(n24:d 24=false)(n25:d 25=false)(n26:d 26=false):∃V,(Instr.mapUpdate 100 (a.eval (.tmp 21)) (.string ⟨#[]⟩) (a.eval (.tmp 28))).run Tryz.prog W= .ok () V/\eu w0 name lo hi (rq 22 d) a V:=by
 obtain⟨b1,b2,g1,g2,hne,m0,m11,lg,m13,m23,lh⟩:=hI.m
 have sD:=lh k8 n24
 have hL:=sD
 rw[n22]at hL
 obtain⟨V,hrun,hL2,hg⟩:=ik.ac3 hL Fy hn
 have hB:Below w0.heap.size w0 V:=Below.grown hI.gb hg hI.gb.size (fun j hj=>tAr)
 refine⟨V,by rw[(m13 k8).1,hI.sq];exact hrun,hI.tm,hI.si,fun j hj=>tAn,hB,hI.e11,hI.sj,hI.sk,hI.sq,⟨b1,b2,g1,g2,hne,fun h=>⟨(m0 h).1,fy (m0 h).2 hg.size⟩,m11,fun h h'=>(lg h h').grown hg (hne h k8),fun h=>⟨(m13 h).1,fy (m13 h).2 hg.size⟩,fun h=>eF n23 h,fun _ _=>hL2⟩,fun h=>(hI.f1 h).imp fun X ⟨c,e,hN⟩=>⟨c,e,X5 hN sD.abY hg⟩,fun h=>eF n24 h,fun h=>eF n25 h,fun h=>eF n26 h⟩
theorem eu.JW (hI:eu w0 name lo hi d a W)(k8:d 13=true)(n24:d 24=false)(n25:d 25=false)(n26:d 26=false):eu w0 name lo hi (rq 23 d) (a.put (some 29) (a.eval (.tmp 21))) W:=by
 obtain⟨b1,b2,g1,g2,hne,m0,m11,lg,m13,m23,lh⟩:=hI.m
 exact⟨(Act.size_put _ _ _).trans hI.tm,(Act.defers_put' _ _ _).trans hI.si,fun j hj=>tAn,hI.gb,(Act.eval_put_ne _ 29 11 _ tA3).trans hI.e11,(Act.eval_put_ne _ 29 18 _ tA3).trans hI.sj,(Act.eval_put_ne _ 29 22 _ tA3).trans hI.sk,(Act.eval_put_ne _ 29 28 _ tA3).trans hI.sq,⟨b1,b2,g1,g2,hne,fun h=>⟨(Act.eval_put_ne _ 29 10 _ tA3).trans (m0 h).1,(m0 h).2⟩,fun h=>(Act.eval_put_ne _ 29 19 _ tA3).trans (m11 h),lg,fun h=>⟨(Act.eval_put_ne _ 29 21 _ tA3).trans (m13 h).1,(m13 h).2⟩,fun _=>(Act.eval_put_same _ _ _ tB2).trans (m13 k8).1,lh⟩,fun h=>(hI.f1 h).imp fun X ⟨c,e,hN⟩=>⟨c,(Act.eval_put_ne _ 29 20 _ tA3).trans e,hN⟩,fun h=>eF n24 h,fun h=>eF n25 h,fun h=>eF n26 h⟩
theorem eu.Dy (hI:eu w0 name lo hi d a W)(hs:name.size<=100)(hn:name≠⟨#[]⟩)(k8:d 13=true)(Ss:d 15=true)(Sv:d 22=true)(Fk:d 23=true)(n24:d 24=false)(n25:d 25=false)(n26:d 26=false):Calls Tryz.prog 70 #[a.eval (.tmp 29)] W fun e w'=>∃v,e= .returned v/\eu w0 name lo hi (rq 24 d) (a.put (some 30) v) w':=by
 obtain⟨b1,b2,g1,g2,hne,m0,m11,lg,m13,m23,lh⟩:=hI.m
 have hL:=lh k8 n24
 rw[Ss,Sv]at hL
 rw[m23 Fk]
 refine(JL (hL.acY hn) (YJ hn hs tA3) tA3).mono fun e w' ⟨X,cap,he,hN,hb⟩=>⟨_,he,?_⟩
 have hB:=hI.gb.trans (dM hb hI.gb.size)
 exact⟨(Act.size_put _ _ _).trans hI.tm,(Act.defers_put' _ _ _).trans hI.si,fun j hj=>tAn,hB,(Act.eval_put_ne _ 30 11 _ tA3).trans hI.e11,(Act.eval_put_ne _ 30 18 _ tA3).trans hI.sj,(Act.eval_put_ne _ 30 22 _ tA3).trans hI.sk,(Act.eval_put_ne _ 30 28 _ tA3).trans hI.sq,⟨b1,b2,g1,g2,hne,fun h=>⟨(Act.eval_put_ne _ 30 10 _ tA3).trans (m0 h).1,fy (m0 h).2 hb.size⟩,fun h=>(Act.eval_put_ne _ 30 19 _ tA3).trans (m11 h),fun h h'=>(lg h h').below hb,fun h=>⟨(Act.eval_put_ne _ 30 21 _ tA3).trans (m13 h).1,fy (m13 h).2 hb.size⟩,fun h=>(Act.eval_put_ne _ 30 29 _ tA3).trans (m23 h),fun _ h=>absurd (show true=false from h) tA3⟩,fun h=>(hI.f1 h).imp fun X ⟨c,e,hN⟩=>⟨c,(Act.eval_put_ne _ 30 20 _ tA3).trans e,Kd.dz hN hb⟩,fun _=>⟨X,cap,Act.eval_put_same _ _ _ tB2,Kd.gp hN hI.gb.size⟩,fun h=>eF n25 h,fun h=>eF n26 h⟩
theorem eu.U8 (hI:eu w0 name lo hi d a W)(Fj:d 12=true)(Sw:d 24=true)(n26:d 26=false):∃v V,(Instr.buildSlice 27 2 #[(0,a.eval (.tmp 20)),(1,a.eval (.tmp 30))]).run Tryz.prog W= .ok v V/\eu w0 name lo hi (rq 25 d) (a.put (some 31) v) V:=by
 obtain⟨b1,b2,g1,g2,hne,m0,m11,lg,m13,m23,lh⟩:=hI.m
 obtain⟨EB,c1,e1,sF⟩:=hI.f1 Fj
 obtain⟨Ie,bb,e2,My⟩:=hI.f2 Sw
 have hb:=ax (Below.refl W.heap.size W) (.cells #[.int .i64 lo,.slice EB 1 c1,.int .i64 hi,.slice Ie 1 bb] 33)
 have hl:=QS bc 33 W w0.heap.size (xs:=[⟨lo,[⟨name,1⟩]⟩,⟨hi,[⟨name,-1⟩]⟩]) (inner:=[.int .i64 lo,.slice EB 1 c1,.int .i64 hi,.slice Ie 1 bb]) (okp:=fun k=>w0.heap.size<=k) (ok:=fun k=>w0.heap.size<=k) ⟨rfl,fun j p hj=>by
  rcases j with _|_|j
  ·simp only[List.getElem?_cons_zero,Option.some.injEq]at hj
   subst hj
   exact tz (l:=[⟨name,1⟩]) sF
  ·simp only[List.getElem?_cons_succ,List.getElem?_cons_zero,Option.some.injEq]at hj
   subst hj
   exact tz (l:=[⟨name,-1⟩]) My
  ·simp at hj⟩ (fun _ h=>h) hI.gb.size hI.gb.size tEd
 refine⟨.slice (some ⟨W.heap.size,0,none⟩) 2 2,W.alloc (.cells #[.int .i64 lo,.slice EB 1 c1,.int .i64 hi,.slice Ie 1 bb] 33),?_,(Act.size_put _ _ _).trans hI.tm,(Act.defers_put' _ _ _).trans hI.si,fun j hj=>tAn,ax hI.gb _,(Act.eval_put_ne _ 31 11 _ tA3).trans hI.e11,(Act.eval_put_ne _ 31 18 _ tA3).trans hI.sj,(Act.eval_put_ne _ 31 22 _ tA3).trans hI.sk,(Act.eval_put_ne _ 31 28 _ tA3).trans hI.sq,⟨b1,b2,g1,g2,hne,fun h=>⟨(Act.eval_put_ne _ 31 10 _ tA3).trans (m0 h).1,fy (m0 h).2 hb.size⟩,fun h=>(Act.eval_put_ne _ 31 19 _ tA3).trans (m11 h),fun h h'=>(lg h h').below hb,fun h=>⟨(Act.eval_put_ne _ 31 21 _ tA3).trans (m13 h).1,fy (m13 h).2 hb.size⟩,fun h=>(Act.eval_put_ne _ 31 29 _ tA3).trans (m23 h),fun h h'=>(lh h h').below hb⟩,fun h=>(hI.f1 h).imp fun X ⟨c,e,hN⟩=>⟨c,(Act.eval_put_ne _ 31 20 _ tA3).trans e,Kd.BB hN _⟩,fun h=>(hI.f2 h).imp fun X ⟨c,e,hN⟩=>⟨c,(Act.eval_put_ne _ 31 30 _ tA3).trans e,Kd.BB hN _⟩,fun _=>⟨W.heap.size,Act.eval_put_same _ _ _ tB2,hl⟩,fun h=>eF n26 h⟩
 rw[e1,e2]
 simp[go_sem]
theorem eu.arQ (hI:eu w0 name lo hi d a W):eu w0 name lo hi (rq 26 d) (a.put (some 4) (a.eval (.tmp 31))) W:=by
 obtain⟨b1,b2,g1,g2,hne,m0,m11,lg,m13,m23,lh⟩:=hI.m
 exact⟨(Act.size_put _ _ _).trans hI.tm,(Act.defers_put' _ _ _).trans hI.si,fun j hj=>tAn,hI.gb,(Act.eval_put_ne _ 4 11 _ tA3).trans hI.e11,(Act.eval_put_ne _ 4 18 _ tA3).trans hI.sj,(Act.eval_put_ne _ 4 22 _ tA3).trans hI.sk,(Act.eval_put_ne _ 4 28 _ tA3).trans hI.sq,⟨b1,b2,g1,g2,hne,fun h=>⟨(Act.eval_put_ne _ 4 10 _ tA3).trans (m0 h).1,(m0 h).2⟩,fun h=>(Act.eval_put_ne _ 4 19 _ tA3).trans (m11 h),lg,fun h=>⟨(Act.eval_put_ne _ 4 21 _ tA3).trans (m13 h).1,(m13 h).2⟩,fun h=>(Act.eval_put_ne _ 4 29 _ tA3).trans (m23 h),lh⟩,fun h=>(hI.f1 h).imp fun X ⟨c,e,hN⟩=>⟨c,(Act.eval_put_ne _ 4 20 _ tA3).trans e,hN⟩,fun h=>(hI.f2 h).imp fun X ⟨c,e,hN⟩=>⟨c,(Act.eval_put_ne _ 4 30 _ tA3).trans e,hN⟩,fun h=>(hI.r h).imp fun Y ⟨e,hN⟩=>⟨(Act.eval_put_ne _ 4 31 _ tA3).trans e,hN⟩,fun _=>(Act.eval_put_same _ _ _ tB2).trans (Act.eval_put_ne _ 4 31 _ tA3).symm⟩
end
def GM (md:Region.Mode)(ops:Array Oper)(l:Array Bool):Prop:=∀j o,ops[j]?=some o->l.getD j false=true->∀e∈o.after,Region.binds md e=true->l.getD e.on false=true
theorem ZT {l:Array Bool}{k:Nat}(hk:k<l.size)(j:Nat):(l.setIfInBounds k true).getD j false=(decide (k=j)||l.getD j false):=by
 by_cases e:k=j
 ·subst e
  simp[Array.getD,hk]
 ·rw[cE e,Bool.false_or,Array.getD_eq_getD_getElem?,Array.getD_eq_getD_getElem?,Array.getElem?_setIfInBounds_ne e]
section
variable {P:Program}{ops:Array Oper}{Q:Exit->Act->World->Prop}{md:Region.Mode}{S:World->Prop}{n:Nat}{l:Array Bool}{k:Nat}
theorem aqi (h:l.getD k true=false):k<l.size:=by
 rcases Nat.lt_or_ge k l.size with hk|hk
 ·exact hk
 ·rw[Array.getD_eq_getD_getElem?,Array.getElem?_eq_none hk]at h
  cases h
theorem nP {vw:Oper}(hd:∀o,ops[k]?=some o->∀e∈o.after,Region.binds md e=true->l.getD e.on false=true)(h0:ops[k]?=some vw)(j:Nat)(hb:(vw.after.toList.any fun e=>decide (e.on=j)&&Region.binds md e)=true):l.getD j false=true:=by
 obtain⟨e,he,hb⟩:=List.any_eq_true.1 hb
 simp only[Bool.and_eq_true,decide_eq_true_eq]at hb
 rw[<- hb.1]
 exact hd vw h0 e (Array.mem_toList_iff.1 he) hb.2
theorem ft {j:Nat}{vw:Oper}(hc:GM md ops l)(h0:ops[j]?=some vw)(k:Nat)(hk:l.getD k false=false)(hb:(vw.after.toList.any fun e=>decide (e.on=k)&&Region.binds md e)=true):l.getD j false=false:=by
 cases h:l.getD j false with
 | false=>rfl
 | true=>rw[nP (fun o ho=>hc j o ho h) h0 k hb]at hk;cases hk
theorem asL {I:Array Bool->Act->World->Prop}
  (hstep:∀l a w k,I l a w->GM md ops l->l.getD k true=false->l.getD k false=false->(∀o,ops[k]?=some o->∀e∈o.after,Region.binds md e=true->l.getD e.on false=true)->k<ops.size->wpOp P ops Q k (fun b v=>(k<n->S v)/\I (l.setIfInBounds k true) b v) a w)
  (hend:∀l a w,I l a w->Region.ready md ops l=[]->Q .normal a w) (m:Nat) (l:Array Bool) (a:Act) (w:World) (amr:uY l.toList<=m) (gN:GM md ops l) (hI:I l a w):pN P md ops Q S n m l a w:=by
 refine ad7 (I:=fun l a w=>I l a w/\GM md ops l) (fun l a w k ⟨hI,hc⟩ hk ⟨o,ho,hd⟩=>?_) (fun l a w h hr=>hend l a w h.1 hr) m l a w amr ⟨hI,gN⟩
 have aaz:∀o,ops[k]?=some o->∀e∈o.after,Region.binds md e=true->l.getD e.on false=true:=fun o' M0=>by
  rw[ho]at M0
  rw[<- bo M0]
  exact hd
 refine wpOp_mono (fun b v hb=>⟨hb.1,hb.2,fun j o hj hl e he MA=>?_⟩) (hstep l a w k hI hc hk (getD_both hk) aaz (Array.getElem?_eq_some_iff.1 ho).1)
 rw[ZT (aqi hk)]at hl ⊢
 by_cases di:k=j
 ·subst di
  rw[aaz o hj e he MA,Bool.or_true]
 ·rw[cE di,Bool.false_or]at hl
  rw[hc j o hj hl e he MA,Bool.or_true]
end
theorem akt {md:Region.Mode}{ops:Array Oper}{l:Array Bool}(h:((List.range ops.size).all fun j=> !l.getD j false||((ops[j]?).map fun o=>o.after.toList.all fun e=> !Region.binds md e||l.getD e.on false).getD true)=true):GM md ops l:=fun j o hj hl e he hb=>by
 have h1:=List.all_eq_true.1 h j (List.mem_range.2 (Array.getElem?_eq_some_iff.1 hj).1)
 rw[hl,hj]at h1
 have h2:(o.after.toList.all fun e=> !Region.binds md e||l.getD e.on false)=true:=by simpa using h1
 have h3:=List.all_eq_true.1 h2 e (Array.mem_toList_iff.2 he)
 rw[hb]at h3
 simpa using h3
theorem eu.set {w0 W:World}{name:ByteArray}{lo hi:Int}{l:Array Bool}{k:Nat}{a:Act}(hk:k<l.size)(h:eu w0 name lo hi (rq k fun j=>l.getD j false) a W):eu w0 name lo hi (fun j=>(l.setIfInBounds k true).getD j false) a W:=by
 have e:(fun j=>(l.setIfInBounds k true).getD j false)=rq k fun j=>l.getD j false:=funext fun j=>ZT hk j
 rw[e]
 exact h
theorem ap8 {l:Array Bool}{k:Nat}(ps:List Nat)(h:∀j∈ps,l.getD j false=true)(hk:l.getD k false=false):k∉ps:=fun hm=>by rw[h k hm]at hk;cases hk
theorem adH {A A':Option Addr}{c c':Nat}{l0:List aq}{l1:List aj}{name:ByteArray}{w:World}(h:cD A c l0 A' c' l1 w)(hs:name.size<=100)(hn:name≠⟨#[]⟩)(hm:name∈l0.map (·.f0))(h1:(eV l0 name).f1.natAbs<=1000000)(h2:(eV l0 name).f2.natAbs<=1000000):
  Calls Tryz.prog 100 #[.agg #[.slice A l0.length c,.slice A' l1.length c'],.string name] w fun e w'=>∃Y,e= .returned (.slice (some ⟨Y,0,none⟩) 2 2)/\Kd.N bc 33 w' w.heap.size (fun k=>w.heap.size<=k) (.slice (some ⟨Y,0,none⟩) 2 2) [⟨-(eV l0 name).f1,[⟨name,1⟩]⟩,⟨(eV l0 name).f2,[⟨name,-1⟩]⟩]/\Below w.heap.size w w':=by
 have HS:=ae hs
 have oy:=ae hn
 have H1:=ae h1
 have GX:=ae h2
 have hC:=h.hs
 have hne:l0.length≠0:=fun e=>by rw[List.length_eq_zero_iff]at e;rw[e]at hm;simp at hm
 have bI:=ae (ax (ax (Below.refl w.heap.size w) (.cells #[.slice A l0.length c,.slice A' l1.length c'] 29)) (.cells #[.string name] 9))
 have cJ:=ae (aH (a8 w (.cells #[.slice A l0.length c,.slice A' l1.length c'] 29)) (.cells #[.string name] 9))
 have cq:af (((w.alloc (.cells #[.slice A l0.length c,.slice A' l1.length c'] 29)).alloc (.cells #[.string name] 9)).heap[w.heap.size+1]?=some (.cells #[.string name] 9 (0,0))):=⟨tDf⟩
 have nE:=ae (ah0 (c:=c) (Kd.bN hC bI.o) cq.o hm)
 have HC:=ae hC
 clear h hs hn hm h1 h2 hC
 go_enter Tryz.func100,Tryz.ntmps100
 go_wp2_with (first|(go_at_call 120;refine nE.o.mono ?_;rintro e w2 ⟨i0,rfl,hi,nT,hb⟩;have KJ:=ae hi;have jV:=ae nT;have aI:=ae (au bI.o hb);have jW:=ae (av cJ.o hb);have l9:=ae (av cq.o hb);clear hi nT hb)|fail)
 have ru:i0<l0.length:=(iC.1 KJ.o).1
 have aaV:(i0:Int)< (l0.length:Int):=tA0
 obtain⟨ad,e,bf,c1,bb⟩:=fe HC.o (i0:Int) tA0 tA0
 cases e
 simp only[eQ]at bf c1 bb
 have wE:aw l0 (i0:Int)=eV l0 name:=by simp[aw,List.getD,KJ.o]
 rw[wE]at bf c1 bb
 clear wE
 obtain⟨jn,TM⟩:∃jn,eV l0 name=jn:=⟨_,rfl⟩
 have p2:=ae TM
 rw[TM]at bf c1 bb H1 GX
 clear TM
 obtain⟨sn,lo,hi⟩:=jn
 have za:af (IntKind.i64.wrap (-lo)= -lo):=⟨by
  have:=H1.o
  rw[IntKind.wrap_i64]
  simp only at this
  omega⟩
 have HN:af ((Lit.int .i64 (-lo)).wf=true):=⟨DI (by have:=H1.o;simp only at this;omega)⟩
 have ahJ:af ((Lit.int .i64 hi).wf=true):=⟨DI (by have:=GX.o;simp only at this;omega)⟩
 have Xr:af (name.size<=maxLen):=⟨by have:=HS.o;unfold maxLen;omega⟩
 replace c1:=bw aI.o c1
 replace bb:=bw aI.o bb
 have kK:af (∀W:World,Below w2.heap.size w2 W->(W.cell? ⟨w.heap.size,0,none⟩=some (.slice (some ad) l0.length c)/\W.cell? ⟨w.heap.size+1,0,none⟩=some (.string name)/\W.cell? ⟨(ad.add (i0 * 3)).block,(ad.add (i0 * 3)).off+1,none⟩=some (.int .i64 lo)/\W.cell? ⟨(ad.add (i0 * 3)).block,(ad.add (i0 * 3)).off+2,none⟩=some (.int .i64 hi))):=⟨fun W hb=>⟨ah (av jW.o hb) 0,ah (av l9.o hb) 0,bw hb c1,bw hb bb⟩⟩
 have hmx:=HC.o.2.1
 clear bf c1 bb
 refine wp_region_noPanic ?_
 refine Du (fun W=>(W.cell? ⟨w.heap.size,0,none⟩=some (.slice (some ad) l0.length c)/\W.cell? ⟨w.heap.size+1,0,none⟩=some (.string name)/\W.cell? ⟨(ad.add (i0 * 3)).block,(ad.add (i0 * 3)).off+1,none⟩=some (.int .i64 lo)/\W.cell? ⟨(ad.add (i0 * 3)).block,(ad.add (i0 * 3)).off+2,none⟩=some (.int .i64 hi))) 26 tA1 ?_
 have dy:=kK.o _ (cB (Below.refl _ _))
 refine cZ 1 _ (v:=?v1) (aW rfl) tA1 (fun _ _ _ h=>h) tA5 dy ?hy1 ?adg
 case hy1=>(intro W hSw;go_simp<;>with_reducible rfl)
 simp only[bV]
 refine cZ 3 _ (v:=?v3) (aW rfl) tA1 (fun _ _ _ h=>h) tA5 dy ?hy3 ?ars
 case hy3=>(intro W hSw;go_simp<;>with_reducible rfl)
 simp only[bV]
 refine cZ 4 _ (v:=?v4) (aW rfl) tA1 (fun _ _ _ h=>h) tA5 dy ?hy4 ?adh
 case hy4=>(intro W hSw;go_simp<;>with_reducible rfl)
 simp only[bV]
 refine cZ 5 _ (v:=?v5) (aW rfl) tA1 (fun _ _ _ h=>h) tA5 dy ?hy5 ?adi
 case hy5=>(intro W hSw;go_simp<;>with_reducible rfl)
 simp only[bV]
 refine cZ 6 _ (v:=?v6) (aW rfl) tA1 (fun _ _ _ h=>h) tA5 dy ?hy6 ?art
 case hy6=>(intro W hSw;go_simp<;>with_reducible rfl)
 simp only[bV]
 refine cZ 7 _ (v:=?v7) (aW rfl) tA1 (fun _ _ _ h=>h) tA5 dy ?hy7 ?aru
 case hy7=>(intro W hSw;go_simp<;>with_reducible rfl)
 simp only[bV]
 refine cZ 8 _ (v:=?v8) (aW rfl) tA1 (fun _ _ _ h=>h) tA5 dy ?hy8 ?arv
 case hy8=>(intro W hSw;go_simp<;>with_reducible rfl)
 simp only[bV]
 refine cZ 9 _ (v:=?v9) (aW rfl) tA1 (fun _ _ _ h=>h) tA5 dy ?hy9 ?arw
 case hy9=>(intro W hSw;go_simp<;>with_reducible rfl)
 simp only[bV]
 refine cZ 14 _ (v:=?v14) (aW rfl) tA1 (fun _ _ _ h=>h) tA5 dy ?hy14 ?ari
 case hy14=>(intro W hSw;go_simp<;>with_reducible rfl)
 simp only[bV]
 refine cZ 16 _ (v:=?v16) (aW rfl) tA1 (fun _ _ _ h=>h) tA5 dy ?hy16 ?arj
 case hy16=>(intro W hSw;go_simp<;>with_reducible rfl)
 simp only[bV]
 refine cZ 17 _ (v:=?v17) (aW rfl) tA1 (fun _ _ _ h=>h) tA5 dy ?hy17 ?ark
 case hy17=>(intro W hSw;go_simp<;>with_reducible rfl)
 simp only[bV]
 refine cZ 18 _ (v:=?v18) (aW rfl) tA1 (fun _ _ _ h=>h) tA5 dy ?hy18 ?arl
 case hy18=>(intro W hSw;go_simp<;>with_reducible rfl)
 simp only[bV]
 refine cZ 19 _ (v:=?v19) (aW rfl) tA1 (fun _ _ _ h=>h) tA5 dy ?hy19 ?arn
 case hy19=>(intro W hSw;go_simp<;>with_reducible rfl)
 simp only[bV]
 refine cZ 20 _ (v:=?v20) (aW rfl) tA1 (fun _ _ _ h=>h) tA5 dy ?hy20 ?arp
 case hy20=>(intro W hSw;go_simp<;>with_reducible rfl)
 simp only[bV]
 refine cZ 21 _ (v:=?v21) (aW rfl) tA1 (fun _ _ _ h=>h) tA5 dy ?hy21 ?arq
 case hy21=>(intro W hSw;go_simp<;>with_reducible rfl)
 simp only[bV]
 rename_i hK
 have aug:=enters_of Tryz.func70 tA1 rfl
 refine asL (I:=fun l a W=>l.size=27/\eu w2 name (-lo) hi (fun j=>l.getD j false) a W) ?step ?ended _ _ _ _ tA3 ?clo ?start
 case step=>
  intro l a W k ⟨hsz,hI⟩ hc hk qA hd zU
  have anz:k<27:=zU
  have pF:k<l.size:=tA0
  have hsz':(l.setIfInBounds k true).size=27:=by rw[Array.size_setIfInBounds];exact hsz
  have abq:=ap8 [1,3,4,5,6,7,8,9,14,16,17,18,19,20,21] hI.pu qA
  simp only[List.mem_cons,List.not_mem_nil,or_false,not_or]at abq
  have amo:k=0\/k=2\/k=10\/k=11\/k=12\/k=13\/k=15\/k=22\/k=23\/k=24\/k=25\/k=26:=tA0
  clear abq anz zU
  rcases amo with rfl|rfl|rfl|rfl|rfl|rfl|rfl|rfl|rfl|rfl|rfl|rfl
  ·have n0:l.getD 0 false=false:=qA
   have n2:=ft (j:=2) hc (aW rfl) 0 n0 tA1
   have n10:=ft (j:=10) hc (aW rfl) 0 n0 tA1
   have n11:=ft (j:=11) hc (aW rfl) 0 n0 tA1
   have n12:=ft (j:=12) hc (aW rfl) 11 n11 tA1
   have n24:=ft (j:=24) hc (aW rfl) 12 n12 tA1
   have n25:=ft (j:=25) hc (aW rfl) 24 n24 tA1
   have n26:=ft (j:=26) hc (aW rfl) 25 n25 tA1
   have hs:=hI.s0 n2 n10 n11 n12 n24 n25 n26
   exact F3 (aW rfl) rfl rfl ⟨fun _=>kK.o _ hs.gb,hsz',eu.set pF hs⟩
  ·have n2:l.getD 2 false=false:=qA
   have n11:=ft (j:=11) hc (aW rfl) 2 n2 tA1
   have n12:=ft (j:=12) hc (aW rfl) 11 n11 tA1
   have n24:=ft (j:=24) hc (aW rfl) 12 n12 tA1
   have n25:=ft (j:=25) hc (aW rfl) 24 n24 tA1
   have n26:=ft (j:=26) hc (aW rfl) 25 n25 tA1
   have h0:l.getD 0 false=true:=(nP hd (aW rfl) 0 tA1)
   obtain⟨V,hrun,hs⟩:=hI.s2 Xr.o oy.o h0 n2 n11 n12 n24 n25 n26
   exact NC (aW rfl) rfl tBu ⟨fun _=>kK.o _ hs.gb,hsz',eu.set pF hs⟩
  ·have n10:l.getD 10 false=false:=qA
   have n11:=ft (j:=11) hc (aW rfl) 10 n10 tA1
   have n12:=ft (j:=12) hc (aW rfl) 11 n11 tA1
   have n24:=ft (j:=24) hc (aW rfl) 12 n12 tA1
   have n25:=ft (j:=25) hc (aW rfl) 24 n24 tA1
   have n26:=ft (j:=26) hc (aW rfl) 25 n25 tA1
   have h0:l.getD 0 false=true:=(nP hd (aW rfl) 0 tA1)
   obtain⟨V,hrun,hs⟩:=hI.Dx oy.o HN.o h0 n10 n11 n12 n24 n25 n26
   exact NC (aW rfl) rfl tBu ⟨fun _=>kK.o _ hs.gb,hsz',eu.set pF hs⟩
  ·have n11:l.getD 11 false=false:=qA
   have n12:=ft (j:=12) hc (aW rfl) 11 n11 tA1
   have n24:=ft (j:=24) hc (aW rfl) 12 n12 tA1
   have n25:=ft (j:=25) hc (aW rfl) 24 n24 tA1
   have n26:=ft (j:=26) hc (aW rfl) 25 n25 tA1
   have h0:l.getD 0 false=true:=(nP hd (aW rfl) 0 tA1)
   have hs:=hI.yK h0 n12 n24 n25 n26
   exact F3 (aW rfl) rfl rfl ⟨fun _=>kK.o _ hs.gb,hsz',eu.set pF hs⟩
  ·have n12:l.getD 12 false=false:=qA
   have n24:=ft (j:=24) hc (aW rfl) 12 n12 tA1
   have n25:=ft (j:=25) hc (aW rfl) 24 n24 tA1
   have n26:=ft (j:=26) hc (aW rfl) 25 n25 tA1
   have h11:l.getD 11 false=true:=(nP hd (aW rfl) 11 tA1)
   have h0:l.getD 0 false=true:=nP (fun o ho=>hc 11 o ho h11) (aW rfl) 0 tA1
   have h2:l.getD 2 false=true:=nP (fun o ho=>hc 11 o ho h11) (aW rfl) 2 tA1
   have h10:l.getD 10 false=true:=nP (fun o ho=>hc 11 o ho h11) (aW rfl) 10 tA1
   refine acM (f:=70) (args:=#[a.eval (.tmp 19)]) (aW rfl) rfl (by simp[execOp_call_go]) ((hI.s12 HS.o oy.o h0 h2 h10 h11 n12 n24 n25 n26).mono fun e V ⟨v,he,hs⟩=>⟨v,he,fun _=>kK.o _ hs.gb,hsz',eu.set pF hs⟩)
  ·have n13:l.getD 13 false=false:=qA
   have n15:=ft (j:=15) hc (aW rfl) 13 n13 tA1
   have n22:=ft (j:=22) hc (aW rfl) 13 n13 tA1
   have n23:=ft (j:=23) hc (aW rfl) 13 n13 tA1
   have n24:=ft (j:=24) hc (aW rfl) 23 n23 tA1
   have n25:=ft (j:=25) hc (aW rfl) 24 n24 tA1
   have n26:=ft (j:=26) hc (aW rfl) 25 n25 tA1
   have hs:=hI.yL n15 n22 n23 n24 n25 n26
   exact F3 (aW rfl) rfl rfl ⟨fun _=>kK.o _ hs.gb,hsz',eu.set pF hs⟩
  ·have n15:l.getD 15 false=false:=qA
   have n23:=ft (j:=23) hc (aW rfl) 15 n15 tA1
   have n24:=ft (j:=24) hc (aW rfl) 23 n23 tA1
   have n25:=ft (j:=25) hc (aW rfl) 24 n24 tA1
   have n26:=ft (j:=26) hc (aW rfl) 25 n25 tA1
   have k8:l.getD 13 false=true:=(nP hd (aW rfl) 13 tA1)
   obtain⟨V,hrun,hs⟩:=hI.U5 Xr.o oy.o k8 n15 n23 n24 n25 n26
   exact NC (aW rfl) rfl tBu ⟨fun _=>kK.o _ hs.gb,hsz',eu.set pF hs⟩
  ·have n22:l.getD 22 false=false:=qA
   have n23:=ft (j:=23) hc (aW rfl) 22 n22 tA1
   have n24:=ft (j:=24) hc (aW rfl) 23 n23 tA1
   have n25:=ft (j:=25) hc (aW rfl) 24 n24 tA1
   have n26:=ft (j:=26) hc (aW rfl) 25 n25 tA1
   have k8:l.getD 13 false=true:=(nP hd (aW rfl) 13 tA1)
   obtain⟨V,hrun,hs⟩:=hI.JV oy.o ahJ.o k8 n22 n23 n24 n25 n26
   exact NC (aW rfl) rfl tBu ⟨fun _=>kK.o _ hs.gb,hsz',eu.set pF hs⟩
  ·have n23:l.getD 23 false=false:=qA
   have n24:=ft (j:=24) hc (aW rfl) 23 n23 tA1
   have n25:=ft (j:=25) hc (aW rfl) 24 n24 tA1
   have n26:=ft (j:=26) hc (aW rfl) 25 n25 tA1
   have k8:l.getD 13 false=true:=(nP hd (aW rfl) 13 tA1)
   have hs:=hI.JW k8 n24 n25 n26
   exact F3 (aW rfl) rfl rfl ⟨fun _=>kK.o _ hs.gb,hsz',eu.set pF hs⟩
  ·have n24:l.getD 24 false=false:=qA
   have n25:=ft (j:=25) hc (aW rfl) 24 n24 tA1
   have n26:=ft (j:=26) hc (aW rfl) 25 n25 tA1
   have Fj:l.getD 12 false=true:=(nP hd (aW rfl) 12 tA1)
   have Fk:l.getD 23 false=true:=(nP hd (aW rfl) 23 tA1)
   have k8:l.getD 13 false=true:=nP (fun o ho=>hc 23 o ho Fk) (aW rfl) 13 tA1
   have Ss:l.getD 15 false=true:=nP (fun o ho=>hc 23 o ho Fk) (aW rfl) 15 tA1
   have Sv:l.getD 22 false=true:=nP (fun o ho=>hc 23 o ho Fk) (aW rfl) 22 tA1
   refine acM (f:=70) (args:=#[a.eval (.tmp 29)]) (aW rfl) rfl (by simp[execOp_call_go]) ((hI.Dy HS.o oy.o k8 Ss Sv Fk n24 n25 n26).mono fun e V ⟨v,he,hs⟩=>⟨v,he,fun _=>kK.o _ hs.gb,hsz',eu.set pF hs⟩)
  ·have n25:l.getD 25 false=false:=qA
   have n26:=ft (j:=26) hc (aW rfl) 25 n25 tA1
   have Fj:l.getD 12 false=true:=(nP hd (aW rfl) 12 tA1)
   have Sw:l.getD 24 false=true:=(nP hd (aW rfl) 24 tA1)
   obtain⟨v,V,hrun,hs⟩:=hI.U8 Fj Sw n26
   exact F3 (v:=v) (w':=V) (aW rfl) rfl (by simp[execOp,hrun]) ⟨fun _=>kK.o _ hs.gb,hsz',eu.set pF hs⟩
  ·have n26:l.getD 26 false=false:=qA
   have hs:=hI.arQ
   exact F3 (aW rfl) rfl rfl ⟨fun _=>kK.o _ hs.gb,hsz',eu.set pF hs⟩
 case ended=>
  intro l a W ⟨hsz,hI⟩ hr
  have hall:=ajJ tA1 hr hsz
  obtain⟨Y,ak0,hN⟩:=hI.r (hall 25 tA3)
  refine NoPanic.normal (hK _ _ (wp_ret ?_))
  refine bodyPost_ret (results_tmp rfl _ _ _) hI.si ?_
  have e4:a.tmps.getD 4 undef= .slice (some ⟨Y,0,none⟩) 2 2:=(hI.aqV (hall 26 tA3)).trans ak0
  rw[e4]
  refine⟨Y,rfl,?_,au aI.o hI.gb⟩
  rw[p2.o]
  exact Kd.gp (Kd.et hN (fun k hk=>bj aI.o.size hk)) aI.o.size
 case clo=>exact akt tA1
 case start=>
  refine⟨tA1,⟨tA1,rfl,List.all_eq_true.1 tA1,cB (Below.refl _ _),rfl,?_,rfl,rfl,⟨w2.heap.size,w2.heap.size,bl _,bl _,fun h _=>eF tA1 h,fun h=>eF tA1 h,fun h=>eF tA1 h,fun h _=>eF tA1 h,fun h=>eF tA1 h,fun h=>eF tA1 h,fun h _=>eF tA1 h⟩,fun h=>eF tA1 h,fun h=>eF tA1 h,fun h=>eF tA1 h,fun h=>eF tA1 h⟩⟩
  exact congrArg (Value.int .i64) za.o
structure ou (f:aj):Prop where
 bf:f.f0.natAbs<=100000000
 b:fR 100000000 f.f1
 len:f.f1.length<=40
 up:fI f.f1
 qD:∀t∈f.f1,t.f1≠0
 ok:∀t∈f.f1,eE t.f0=true
theorem ou.canon {f:aj}(h:ou f):Canon f:=⟨h.up,h.qD,fun t ht=>vv (h.ok t ht)⟩
theorem ou.at_ {f:aj}(h:ou f){A:Option Addr}{c:Nat}{W:World}(hC:Kd.C cf W A f.f1.length f.f1)(hc:f.f1.length<=c):gl A c f W:=⟨hC,hc,by have:=h.len;omega,fun t ht=>(vv (h.ok t ht)).2⟩
theorem ou.of {ns:List ByteArray}{f:aj}(h:Good ns f)(hn:ns.length<=40):ou f:=
 ⟨tCc,fun t ht=>bj (h.b t ht) tA3,bj h.len hn,h.up,h.qD,fun t ht=>(h.ok t ht).1⟩
theorem acX {f g:aj}(a b:Int)(hf:fI f.f1)(hg:fI g.f1)(s:ByteArray):pf (dY f a g b) s=a * pf f s+b * pf g s:=by
 unfold pf
 by_cases e:s=⟨#[]⟩
 ·rw[if_pos e,if_pos e,if_pos e]
  rfl
 ·rw[if_neg e,if_neg e,if_neg e]
  exact adP f a g b hf hg s
theorem YK {f g:aj}(a b:Int)(hf:Canon f)(hg:Canon g):Canon (dY f a g b):=by
 refine⟨CS _,Uu _,fun t ht=>?_⟩
 obtain⟨v,hv,e⟩:=NA _ _ ht
 rcases List.mem_append.1 hv with hv|hv
 ·obtain⟨u,hu,rfl⟩:=List.mem_map.1 hv
  rw[<- e]
  exact hf.nm u hu
 ·obtain⟨u,hu,rfl⟩:=List.mem_map.1 hv
  rw[<- e]
  exact hg.nm u hu
theorem arx {l:List ay}(hu:fI l)(s t:ByteArray):bu (dm l s) t=if t=s then 0 else bu l t:=by
 rw[<- wS _ (U0 hu s)]
 by_cases e:t=s
 ·rw[if_pos e]
  refine N4 _ _ fun u Jh h=>?_
  have:=(List.mem_filter.1 Jh).2
  simp at this
  exact this (h.trans e)
 ·rw[if_neg e,<- wS _ hu]
  clear hu
  induction l with
  | nil=>rfl
  | cons u l ih=>
   by_cases h:u.f0=s
   ·rw[show dm (u::l) s=dm l s by unfold dm;rw[List.filter_cons_of_neg tAl],ih,gu,if_neg (fun e'=>e (e'.symm.trans h))]
    omega
   ·rw[show dm (u::l) s=u::dm l s by unfold dm;rw[List.filter_cons_of_pos tAl],gu,gu,ih]
theorem aqD {f g:aj}{s:ByteArray}(hf:fI f.f1)(hg:fI g.f1)(hs:s≠⟨#[]⟩)(t:ByteArray):pf (fp f s g) t=(if t=s then 0 else pf f t)+pf f s * pf g t:=by
 unfold fp
 rw[acX 1 _ (U0 hf s) hg]
 have h1:pf f s=bu f.f1 s:=by unfold pf;rw[if_neg hs]
 rw[h1,Int.one_mul]
 congr 1
 unfold pf
 show(if t=⟨#[]⟩then f.f0 else bu (dm f.f1 s) t)=_
 rw[arx hf]
 by_cases e:t=s
 ·rw[if_pos e,if_pos e,if_neg (fun e'=>hs (e.symm.trans e'))]
 ·rw[if_neg e,if_neg e]
theorem akb {f g:aj}{s:ByteArray}(hf:Canon f)(hg:Canon g):Canon (fp f s g):=
 YK 1 _ (f:=⟨f.f0,dm f.f1 s⟩) ⟨U0 hf.up s,fun t ht=>hf.qD t (wO _ _ t ht),fun t ht=>hf.nm t (wO _ _ t ht)⟩ hg
theorem Ai {a b:Int}{A B:Nat}(ha:a.natAbs<=A)(hb:b.natAbs<=B):(a * b).natAbs<=A * B:=by
 rw[Int.natAbs_mul]
 exact Nat.mul_le_mul ha hb
theorem F5 {f:aj}(h:ou f)(s:ByteArray):(pf f s).natAbs<=100000000:=acW h.bf h.b s
def fS (s:ByteArray)(x:aq):List aj:=[⟨-x.f1,[⟨s,1⟩]⟩,⟨x.f2,[⟨s,-1⟩]⟩]
theorem adF {s:ByteArray}{x:aq}(hs:eE s=true)(h1:x.f1.natAbs<=1000000)(h2:x.f2.natAbs<=1000000):∀f∈fS s x,ou f:=by
 intro f hf
 unfold fS at hf
 simp only[List.mem_cons,List.not_mem_nil,or_false]at hf
 rcases hf with rfl|rfl
 ·exact⟨by show(-x.f1).natAbs<=_;omega,fun t ht=>by simp at ht;subst ht;show(1:Int).natAbs<=100000000;decide,by show 1<=40;decide,tBd,fun t ht=>by simp at ht;subst ht;show(1:Int)≠0;decide,fun t ht=>by simp at ht;subst ht;exact hs⟩
 ·exact⟨by show x.f2.natAbs<=_;omega,fun t ht=>by simp at ht;subst ht;show(-1:Int).natAbs<=100000000;decide,by show 1<=40;decide,tBd,fun t ht=>by simp at ht;subst ht;show(-1:Int)≠0;decide,fun t ht=>by simp at ht;subst ht;exact hs⟩
end Go.Proofs.YtjgakaembhmhpaaGreatDoor.PA
