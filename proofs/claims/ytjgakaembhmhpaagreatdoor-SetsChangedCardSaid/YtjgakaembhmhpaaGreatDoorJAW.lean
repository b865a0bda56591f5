/- Part of the proof of SetsChanged: the walk and the plain laws. It holds without further conditions. -/
import Derived.Test.YtjgakaembhmhpaaGreatDoorJAP
set_option linter.unusedVariables false
set_option linter.unusedSimpArgs false
set_option maxHeartbeats 16000000
set_option maxRecDepth 100000
namespace Go.Proofs.YtjgakaembhmhpaaGreatDoor.PA.Two
open Go.RowKit Go.Proofs.YtjgakaembhmhpaaGreatDoorW.PrintWords Go.Proofs.YtjgakaembhmhpaaGreatDoorW.PrintLast Go.Proofs.YtjgakaembhmhpaaGreatDoorW.PrintMore Go.Proofs.YtjgakaembhmhpaaGreatDoorM
theorem aeS (w0 w:World)(g b:Nat)(d:List Int)(hst:dV w0 w g d b)(hB:Below w0.heap.size w0 w):
  eb w w0 g w.heap.size (w.heap.size+1) d b (fun _=>False) (fun _=>False) (.slice none 0 0) (.slice none 0 0) [] [] ((w.alloc (.cells #[.slice none 0 0,.slice none 0 0] 29)).alloc (.cells #[.slice none 0 0,.slice none 0 0] 29)):=by
 have h1:=hst.lt
 have h2:=hB.size
 have hb:=ax (ax (Below.refl w.heap.size w) (.cells #[.slice none 0 0,.slice none 0 0] 29)) (.cells #[.slice none 0 0,.slice none 0 0] 29)
 refine⟨hst.below hb,aH (a8 w _) _,?_,Kd.i1 _ _ _ _ _,Kd.i1 _ _ _ _ _,fun k hf=>hf.elim,fun k hf=>hf.elim,au hB hb,⟨tA0,tA0,tA0⟩,⟨tA0,tA0⟩,⟨tA0,bl _,fun k hf=>(hf.elim id id).elim⟩,bF.gF hb g none⟩
 have:=a8 (w.alloc (.cells #[.slice none 0 0,.slice none 0 0] 29)) (.cells #[.slice none 0 0,.slice none 0 0] 29)
 rwa[show(w.alloc (.cells #[.slice none 0 0,.slice none 0 0] 29)).heap.size=w.heap.size+1 by simp]at this
theorem DU {ws w0:World}{g aT Bs:Nat}{d:List Int}{b:Nat}{cj ct:Nat->Prop}{dF cH:Value}{vars:List aq}{conds:List aj}{W:World}(h:eb ws w0 g aT Bs d b cj ct dF cH vars conds W)(hb:b<=1000000)(l:List Int)(hl:1<=l.length)(hl2:l.length<=1000)(n:Nat)(hn:n=l.length):
  Calls Tryz.prog 40 #[.pointer (some ⟨g,0,none⟩),.slice (some ⟨W.heap.size,0,none⟩) n n] (W.alloc (.cells (nums .i64 l).toArray 3)) fun e w'=>∃r,e= .returned (.int .i64 r)/\r∈l/\eb ws w0 g aT Bs d (b+1) cj ct dF cH vars conds w'/\bF W w' g none:=by
 subst hn
 have h1:=h.below (ax (Below.refl _ _) (.cells (nums .i64 l).toArray 3))
 have hk:bF W (W.alloc (.cells (nums .i64 l).toArray 3)) g none:=bF.gF (ax (Below.refl _ _) _) g none
 exact(Ez h1.st hb h1.c4 W.heap.size l.length l (a8 W _) (bl _) hl hl2).mono fun e w' ⟨r,he,hr,hst,hB,hK⟩=>⟨r,he,hr,h1.stream hK hst hB,hk.trans hK (.inl rfl)⟩
theorem eb.more {ws w0:World}{g aT Bs:Nat}{d:List Int}{b b':Nat}{cj ct:Nat->Prop}{dF cH:Value}{vars:List aq}{conds:List aj}{W:World}(h:eb ws w0 g aT Bs d b cj ct dF cH vars conds W)(hb:b<=b'):eb ws w0 g aT Bs d b' cj ct dF cH vars conds W:=by
 obtain⟨p,h1,h2,h3⟩:=h.st
 exact { h with st:=⟨p,h1,tA0,h3⟩}
theorem kq.more {ws w0:World}{g aT Bs:Nat}{d:List Int}{b b':Nat}{cj ct FT:Nat->Prop}{dF cH lQ:Value}{vars:List aq}{conds:List aj}{fw:Nat}{a:Int}{terms:List ay}{W:World}(h:kq ws w0 g aT Bs d b cj ct dF cH vars conds fw FT a lQ terms W)(hb:b<=b'):kq ws w0 g aT Bs d b' cj ct dF cH vars conds fw FT a lQ terms W:=
 { h with gM:=h.gM.more hb}
theorem ajm {ws w0:World}{g aT Bs:Nat}{d:List Int}{b:Nat}{cj ct:Nat->Prop}{dF cH:Value}{vars:List aq}{conds:List aj}{W:World}(h:eb ws w0 g aT Bs d b cj ct dF cH vars conds W)(a:Int):
  kq ws w0 g aT Bs d b cj ct dF cH vars conds W.heap.size (fun _=>False) a (.slice none 0 0) [] (W.alloc (.cells #[.int .i64 a,.slice none 0 0] 33)):=
 ⟨h.below (ax (Below.refl _ _) _),a8 W _,Kd.i1 _ _ _ _ _,fun k hf=>hf.elim,⟨h.c4.size,Nat.ne_of_gt h.st.lt,Nat.ne_of_gt (az h.blk),Nat.ne_of_gt (az h.b2),fun hf=>by have:=(h.fK _ hf).1.2;omega,fun hf=>by have:=(h.ac _ hf).1.2;omega⟩,⟨h.kb.1,fun k hf=>hf.elim⟩⟩
theorem ajl {ws w0:World}{g aT Bs:Nat}{d:List Int}{b:Nat}{cj ct FT:Nat->Prop}{dF cH lQ:Value}{vars:List aq}{conds:List aj}{fw:Nat}{a:Int}{terms:List ay}{W:World}(h:kq ws w0 g aT Bs d b cj ct dF cH vars conds fw FT a lQ terms W)(hb:b<=1000000)(l:List Int)(hl:1<=l.length)(hl2:l.length<=1000)(n:Nat)(hn:n=l.length):
  Calls Tryz.prog 40 #[.pointer (some ⟨g,0,none⟩),.slice (some ⟨W.heap.size,0,none⟩) n n] (W.alloc (.cells (nums .i64 l).toArray 3)) fun e w'=>∃r,e= .returned (.int .i64 r)/\r∈l/\kq ws w0 g aT Bs d (b+1) cj ct dF cH vars conds fw FT a lQ terms w'/\bF W w' g none:=by
 subst hn
 have h1:=h.below (ax (Below.refl _ _) (.cells (nums .i64 l).toArray 3))
 have hk:bF W (W.alloc (.cells (nums .i64 l).toArray 3)) g none:=bF.gF (ax (Below.refl _ _) _) g none
 exact(Ez h1.gM.st hb h1.gM.c4 W.heap.size l.length l (a8 W _) (bl _) hl hl2).mono fun e w' ⟨r,he,hr,hst,hB,hK⟩=>⟨r,he,hr,h1.stream hK hst hB,hk.trans hK (.inl rfl)⟩
section
variable {ws w0:World}{g aT Bs:Nat}{d:List Int}{b:Nat}{cj ct:Nat->Prop}{dF cH:Value}{vars:List aq}{conds:List aj}{W:World}
theorem VX (h:eb ws w0 g aT Bs d b cj ct dF cH vars conds W)(hb:b<=1000000)(X:Nat)(l:List ByteArray)(hr:kY W X l)(hl:1<=l.length)(hl2:l.length<=1000)(n:Nat)(hn:n=l.length):
  Calls Tryz.prog 8 #[.pointer (some ⟨g,0,none⟩),.slice (some ⟨X,0,none⟩) n n] W fun e w'=>∃y,e= .returned (.string y)/\y∈l/\af (eb ws w0 g aT Bs d (b+1) cj ct dF cH vars conds w')/\af (bF W w' g none)/\BL aT Bs dF cH w':=by
 subst hn
 exact(QY h.st hb h.c4 X l.length l hr (bl _) hl hl2).mono fun e w' ⟨y,he,hy,hst,hB,hK⟩=>by
  have fj:=h.stream hK hst hB
  exact⟨y,he,hy,⟨fj⟩,⟨hK⟩,yO fj.blk fj.b2⟩
theorem aeR (h:eb ws w0 g aT Bs d b cj ct dF cH vars conds W)(hb:b<1000000)(a c:Int)(ha: -1000<=a)(SL:a<=c)(hc:c<=1000):
  Calls Tryz.prog 41 #[.pointer (some ⟨g,0,none⟩),.int .i64 a,.int .i64 c] W fun e w'=>∃r,e= .returned (.int .i64 r)/\af (eb ws w0 g aT Bs d (b+2) cj ct dF cH vars conds w')/\af (bF W w' g none)/\BL aT Bs dF cH w':=
 (ajg h.st hb h.c4 a c ha SL hc).mono fun e w' ⟨r,he,hst,hB,hK⟩=>by
  have fj:=h.stream hK hst hB
  exact⟨r,he,⟨fj⟩,⟨hK⟩,yO fj.blk fj.b2⟩
theorem VW (h:eb ws w0 g aT Bs d b cj ct dF cH vars conds W)(hb:b<=1000000)(X:Nat)(l:List Int)(hr:gL W X l)(hl:1<=l.length)(hl2:l.length<=1000)(n:Nat)(hn:n=l.length):
  Calls Tryz.prog 40 #[.pointer (some ⟨g,0,none⟩),.slice (some ⟨X,0,none⟩) n n] W fun e w'=>∃r,e= .returned (.int .i64 r)/\af (eb ws w0 g aT Bs d (b+1) cj ct dF cH vars conds w')/\BL aT Bs dF cH w':=by
 subst hn
 exact(Ez h.st hb h.c4 X l.length l hr (bl _) hl hl2).mono fun e w' ⟨r,he,hy,hst,hB,hK⟩=>by
  have fj:=h.stream hK hst hB
  exact⟨r,he,⟨fj⟩,yO fj.blk fj.b2⟩
end
theorem VV (w0 w:World)(g b:Nat)(d:List Int)(hst:dV w0 w g d b)(hb:b<=1000)(hB:Below w0.heap.size w0 w):
  Calls Tryz.prog 5 #[.pointer (some ⟨g,0,none⟩)] w fun e w'=>∃(A:Option Addr) (c:Nat) (l0:List aq) (A':Option Addr) (c':Nat) (l1:List aj),e= .returned (.agg #[.slice A l0.length c,.slice A' l1.length c'])/\(l0.length<=c/\l1.length<=c')/\Modest l0 l1/\AS w w0 w' g A A' c' l0 l1/\dV w0 w' g d (b+1000)/\Below w0.heap.size w0 w':=by
 have hx0:=aeS w0 w g b d hst hB
 have yv:=DU (hx0.below (ax (Below.refl _ _) (.cells #[.string ⟨#[105]⟩,.string ⟨#[106]⟩,.string ⟨#[107]⟩] 9))) tA0 [0,1,2,2,3] tA2 tA2 5 rfl
 have hs3:(((w.alloc (.cells #[.slice none 0 0,.slice none 0 0] 29)).alloc (.cells #[.slice none 0 0,.slice none 0 0] 29)).alloc (.cells #[.string ⟨#[105]⟩,.string ⟨#[106]⟩,.string ⟨#[107]⟩] 9)).heap.size=w.heap.size+1+1+1:=tA2
 have M9:=a8 ((w.alloc (.cells #[.slice none 0 0,.slice none 0 0] 29)).alloc (.cells #[.slice none 0 0,.slice none 0 0] 29)) (.cells #[.string ⟨#[105]⟩,.string ⟨#[106]⟩,.string ⟨#[107]⟩] 9)
 rw[show((w.alloc (.cells #[.slice none 0 0,.slice none 0 0] 29)).alloc (.cells #[.slice none 0 0,.slice none 0 0] 29)).heap.size=w.heap.size+1+1 by simp]at M9
 rw[hs3]at yv
 have fU:af (Calls Tryz.prog 40 #[.pointer (some ⟨g,0,none⟩),.slice (some ⟨w.heap.size+1+1+1,0,none⟩) 5 5] ((((w.alloc (.cells #[.slice none 0 0,.slice none 0 0] 29)).alloc (.cells #[.slice none 0 0,.slice none 0 0] 29)).alloc (.cells #[.string ⟨#[105]⟩,.string ⟨#[106]⟩,.string ⟨#[107]⟩] 9)).alloc (.cells #[.int .i64 0,.int .i64 1,.int .i64 2,.int .i64 2,.int .i64 3] 3)) fun e w'=>∃n:Nat,e= .returned (.int .i64 (n:Int))/\n<=3/\af (eb w w0 g w.heap.size (w.heap.size+1) d (b+1) (fun _=>False) (fun _=>False) (.slice none 0 0) (.slice none 0 0) [] [] w')/\af (kY w' (w.heap.size+1+1) CL)):=⟨yv.mono fun e w' ⟨r,he,hr,fj,wC⟩=>by
  have hn:∃n:Nat,r=(n:Int)/\n<=3:=by
   simp only[List.mem_cons,List.not_mem_nil,or_false]at hr
   rcases hr with rfl|rfl|rfl|rfl|rfl
   ·exact⟨0,rfl,tA0⟩
   ·exact⟨1,rfl,tA0⟩
   ·exact⟨2,rfl,tA0⟩
   ·exact⟨2,rfl,tA0⟩
   ·exact⟨3,rfl,tA0⟩
  obtain⟨n,rfl,hn⟩:=hn
  exact⟨n,he,hn,⟨fj⟩,⟨(wC.2 _ (az M9) (by have:=hst.lt;omega) tA2).trans M9⟩⟩⟩
 have qz:=hst.lt
 clear yv M9 hs3 hx0 hst hB
 go_enter Tryz.func5,Tryz.ntmps5
 go_wp2_with (go_at_call 40;refine fU.o.mono ?_;rintro e w1 ⟨n,rfl,hn,Wh,Bp⟩)
 have DW:af (w.heap.size+1+1≠g/\w.heap.size+1+1≠w.heap.size+1/\w.heap.size+1+1≠w.heap.size):=⟨tA0,tA0,tA0⟩
 clear fU qz
 generalize w.heap.size+1+1=AQ at *
 generalize w.heap.size+1=Bs at *
 generalize w.heap.size=aT at *
 go_loopg [5,6,17] n (fun bL _ _ sR wr=>∃(kk:Nat) (cj:Nat->Prop) (dF:Value) (vars:List aq),kk<=n/\n-kk<=bL/\sR= .int .i64 kk/\af (eb w w0 g aT Bs d (b+1+2 * kk) cj (fun _=>False) dF (.slice none 0 0) vars [] wr)/\af (¬ cj AQ/\vars.length=kk/\∀v∈vars,nZ v.f0)/\af (kY wr AQ CL))
 case atStart=>exact⟨0,_,_,[],Nat.zero_le _,tA0,rfl,Wh,⟨fun h=>h,rfl,fun v hv=>absurd hv tA2⟩,Bp⟩
 case round=>
  clear Wh Bp
  obtain⟨kk,cj,dF,vars,eO,hg,rfl,a7,dC,Bp⟩:=hrel
  by_cases hlt:kk<n
  ·have cp:(kk:Int)< (n:Int):=by omega
   have hc:=Bp.o.cell kk (by show kk<3;omega)
   have dQ:=ae (ao4 kk)
   generalize CL.getD kk ByteArray.empty=y at *
   obtain⟨A,c,rfl⟩:=Kd.c3 a7.o.jm
   have agb:=ae (az Bp.o)
   have l8:af (Calls Tryz.prog 40 #[.pointer (some ⟨g,0,none⟩),.slice (some ⟨wr.heap.size,0,none⟩) 4 4] (wr.alloc (.cells #[.int .i64 0,.int .i64 0,.int .i64 (-2),.int .i64 1] 3)) fun e w'=>∃r:Int,e= .returned (.int .i64 r)/\(-2000000<=r/\r<=2000000)/\af (eb w w0 g aT Bs d (b+1+2 * kk+1) cj (fun _=>False) (.slice A vars.length c) (.slice none 0 0) vars [] w')/\af (kY w' AQ CL)):=⟨(DU a7.o tA0 [0,0,-2,1] tA2 tA2 4 rfl).mono fun e w' ⟨r,he,hr,fj,wC⟩=>⟨r,he,aco hr tA3,⟨fj⟩,⟨(wC.2 _ agb.o DW.o.1 tA2).trans Bp.o⟩⟩⟩
   go_wp2_with (go_at_call 40;refine l8.o.mono ?_;rintro e w2 ⟨r1,rfl,hr1,vG,fV⟩)
   clear hc
   have bf:w2.cell? ⟨Bs,0,none⟩=some (.slice A vars.length c):=ah vG.o.blk 0
   have l0:=az vG.o.blk
   have HC:af (∀W,eb w w0 g aT Bs d (b+1+2 * kk+1) cj (fun _=>False) (.slice A vars.length c) (.slice none 0 0) vars [] W->kY W AQ CL->Calls Tryz.prog 40 #[.pointer (some ⟨g,0,none⟩),.slice (some ⟨W.heap.size,0,none⟩) 5 5] (W.alloc (.cells #[.int .i64 0,.int .i64 2,.int .i64 3,.int .i64 4,.int .i64 (-1)] 3)) fun e w'=>∃r:Int,e= .returned (.int .i64 r)/\(-2000000<=r/\r<=2000000)/\(af (eb w w0 g aT Bs d (b+1+2 * kk+2) cj (fun _=>False) (.slice A vars.length c) (.slice none 0 0) vars [] w')/\af (kY w' AQ CL))/\w'.cell? ⟨Bs,0,none⟩=some (.slice A vars.length c)/\w'.frozen? ⟨Bs,0,none⟩=false/\Bs<w'.heap.size):=⟨fun W hA hS=>
    (DU hA tA0 [0,2,3,4,-1] tA2 tA2 5 rfl).mono fun e w' ⟨r,he,hr,fj,wC⟩=>⟨r,he,aco hr tA3,⟨⟨fj⟩,⟨(wC.2 _ (az hS) DW.o.1 tA2).trans hS⟩⟩,ah fj.blk 0,ar fj.blk 0,az fj.blk⟩⟩
   have Bj:af ((vars.length+1) * 32<=140737488355328):=⟨by have:=dC.o.2.1;omega⟩
   go_region_law (first|(refine Kd.th cu w0.heap.size tA5 (.tmp 25) (.tmp 34) 26 77 (.agg #[.string ⟨#[]⟩,.int .i64 0,.int .i64 0]) 32 tA5 Tryz.underlying26 FU rfl tA3 tA3 (.slice A vars.length c) vars _ _ (fun k=>cj k\/w3.heap.size<=k) (fun _=>False) tA5 tA5 (Sk _ _ _ _) (fun _ h=>h.elim) (fun _ h=> .inr h) (Kd.et sZ.o.jm (fun _ h=> .inl h)) sZ.o.c4 sZ.o.c4.size Bj.o ?_;intro v4 w4 SF Mw hg4 amm;obtain⟨uh,aV,rfl⟩:=Kd.c3 SF;have Hq:=ae SF;have cO:=ae Mw;have Hd:=ae hg4;have b4:=gf sZ.o.blk Hd.o (fun e=>(sZ.o.fK _ (sZ.o.jm.1 _ e.symm)).2.2.1 rfl);have d4:w4.cell? ⟨Bs,0,none⟩=some (.slice A vars.length c):=(mj b4 0).trans rfl;have f4:=ar b4 0;have JA:=az b4;clear SF Mw hg4 amm b4)|(go_simp;go_at_call 40;refine(HC.o _ (by first|exact vG.o.below (cB (Below.refl _ _))|exact vG.o) (by first|exact fV.o)).mono ?_;rintro e w3 ⟨r2,rfl,hr2,⟨sZ,HB⟩,e0,f0,l3⟩))
   all_goals
    obtain⟨DV,iv,i2,i3⟩:=sZ.o.adA cO.o Hd.o Hq.o
    have fk:(vars++[(⟨y,r1,IntKind.i64.wrap (r1+r2)⟩:aq)]).length=vars.length+1:=tA2
    rw[fk]at iv i3
    have cv:=ae iv
    have PO:=ae ((i3.2 AQ (az HB.o) (fun e=>e.elim dC.o.1 DW.o.2.1)).trans HB.o)
    have Pt:af (¬ DV AQ/\(vars++[(⟨y,r1,IntKind.i64.wrap (r1+r2)⟩:aq)]).length=kk+1/\∀v∈vars++[(⟨y,r1,IntKind.i64.wrap (r1+r2)⟩:aq)],nZ v.f0):=⟨fun hf=>(i2 _ hf).elim dC.o.1 (fun h=>by have:=az HB.o;omega),by rw[fk,dC.o.2.1],fun v hv=>by
     rcases List.mem_append.1 hv with hv|hv
     ·exact dC.o.2.2 v hv
     ·rw[il.1 hv]
      exact dQ.o⟩
    clear iv i2 i3 fk
    go_wp2
    go_roundg (n- (kk+1))
    case measure=>omega
    case rel=>exact⟨kk+1,DV,_,_,tA0,tA0,tA7,cv,Pt,PO⟩
  ·have cp:¬ (kk:Int)< (n:Int):=by omega
   have:kk=n:=tA0
   subst this
   have anD:vars.length<=3:=by rw[dC.o.2.1];exact hn
   have Xx:af (∀v∈vars,nZ v.f0):=⟨dC.o.2.2⟩
   have Hw:af (Calls Tryz.prog 40 #[.pointer (some ⟨g,0,none⟩),.slice (some ⟨wr.heap.size,0,none⟩) 5 5] (wr.alloc (.cells #[.int .i64 0,.int .i64 1,.int .i64 1,.int .i64 2,.int .i64 3] 3)) fun e w'=>∃m:Nat,e= .returned (.int .i64 (m:Int))/\m<=3/\af (eb w w0 g aT Bs d (b+11) cj (fun _=>False) dF (.slice none 0 0) vars [] w')):=⟨(DU a7.o tA0 [0,1,1,2,3] tA2 tA2 5 rfl).mono fun e w' ⟨r,he,hr,fj,wC⟩=>by
    have hn:∃n:Nat,r=(n:Int)/\n<=3:=by
     simp only[List.mem_cons,List.not_mem_nil,or_false]at hr
     rcases hr with rfl|rfl|rfl|rfl|rfl
     ·exact⟨0,rfl,tA0⟩
     ·exact⟨1,rfl,tA0⟩
     ·exact⟨1,rfl,tA0⟩
     ·exact⟨2,rfl,tA0⟩
     ·exact⟨3,rfl,tA0⟩
    obtain⟨n,rfl,hn⟩:=hn
    exact⟨n,he,hn,⟨fj.more tA0⟩⟩⟩
   obtain⟨A,c,rfl⟩:=Kd.c3 a7.o.jm
   clear a7 dC Bp DW hn eO
   go_wp2_with (go_at_call 40;refine Hw.o.mono ?_;rintro e w2 ⟨m,rfl,FE,vG⟩)
   clear Hw
   go_loopg [7,9,10,41,50] m (fun bL _ _ _ Va _ wr=>∃(jj:Nat) (ct:Nat->Prop) (cH:Value) (conds:List aj),jj<=m/\m-jj<=bL/\Va= .int .i64 jj/\af (eb w w0 g aT Bs d (b+11+20 * jj) cj ct (.slice A vars.length c) cH vars conds wr)/\af (conds.length=jj/\Uy conds))
   case atStart=>exact⟨0,_,_,[],Nat.zero_le _,tA0,rfl,vG,⟨rfl,fun f hf=>absurd hf tA2⟩⟩
   case round=>
    clear vG
    obtain⟨jj,ct,cH,conds,yt,aaX,rfl,a7,dC⟩:=hrel
    by_cases nR:jj<m
    ·have vg:(jj:Int)< (m:Int):=by omega
     obtain⟨AC,hZ,rfl⟩:=Kd.c3 a7.o.nY
     have Xa:af (Calls Tryz.prog 40 #[.pointer (some ⟨g,0,none⟩),.slice (some ⟨wr.heap.size,0,none⟩) 5 5] (wr.alloc (.cells #[.int .i64 0,.int .i64 1,.int .i64 (-1),.int .i64 3,.int .i64 4] 3)) fun e w'=>∃r:Int,e= .returned (.int .i64 r)/\(∀a9:Int,af (kq w w0 g aT Bs d (b+12+20 * jj) cj ct (.slice A vars.length c) (.slice AC conds.length hZ) vars conds w'.heap.size (fun _=>False) a9 (.slice none 0 0) [] (w'.alloc (.cells #[.int .i64 a9,.slice none 0 0] 33))))/\w'.cell? ⟨Bs,0,none⟩=some (.slice A vars.length c)/\Bs<w'.heap.size):=⟨(DU a7.o tA0 [0,1,-1,3,4] tA2 tA2 5 rfl).mono fun e w' ⟨r,he,hr,fj,wC⟩=>⟨r,he,fun a9=>⟨(ajm fj a9).more tA0⟩,ah fj.blk 0,az fj.blk⟩⟩
     go_wp2_with (go_at_call 40;refine Xa.o.mono ?_;rintro e w3 ⟨a9,rfl,La,e0,l3⟩)
     have zm:=La a9
     clear La Xa a7
     generalize w3.alloc (.cells #[.int .i64 a9,.slice none 0 0] 33)=W3 at *
     generalize w3.heap.size=fw at *
     go_loopg [9,10,50] vars.length (fun bL _ _ arW wr=>∃(ii:Nat) (FT:Nat->Prop) (lQ:Value) (terms:List ay),ii<=vars.length/\vars.length-ii<=bL/\arW= .int .i64 ii/\af (kq w w0 g aT Bs d (b+12+20 * jj+ii) cj ct (.slice A vars.length c) (.slice AC conds.length hZ) vars conds fw FT a9 lQ terms wr)/\af (terms.length<=ii/\∀t∈terms,nZ t.f0))
     case atStart=>exact⟨0,_,_,[],Nat.zero_le _,tA0,rfl,zm,⟨bl _,fun f hf=>absurd hf tA2⟩⟩
     case round=>
      clear zm
      obtain⟨ii,FT,lQ,terms,aw8,aw7,rfl,b9,xG⟩:=hrel
      by_cases abb:ii<vars.length
      ·have anF:(ii:Int)< (vars.length:Int):=by omega
       obtain⟨ad,e,hx0,hx1,hx2⟩:=fe (Kd.ej b9.o.gM.jm).2.2 (ii:Int) tA0 tA0
       cases e
       simp only[eQ]at hx0 hx1 hx2
       have dQ:=ae (Xx.o (aw vars (ii:Int)) (by
        have:aw vars (ii:Int)=vars[ii]:=by simp[aw,List.getD,b8 abb]
        rw[this];exact List.getElem_mem abb))
       generalize aw vars (ii:Int)=y at *
       obtain⟨aK,aC,bM⟩:=y
       obtain⟨AT,yb,rfl⟩:=Kd.c3 b9.o.Ak
       have xA:af (∀W,kq w w0 g aT Bs d (b+12+20 * jj+ii) cj ct (.slice (some ad) vars.length c) (.slice AC conds.length hZ) vars conds fw FT a9 (.slice AT terms.length yb) terms W->W.heap[wr.heap.size]?=some (.cells #[.string aK,.int .i64 aC,.int .i64 bM] 77 (0,0))->Calls Tryz.prog 40 #[.pointer (some ⟨g,0,none⟩),.slice (some ⟨W.heap.size,0,none⟩) 6 6] (W.alloc (.cells #[.int .i64 0,.int .i64 1,.int .i64 (-1),.int .i64 2,.int .i64 (-2),.int .i64 3] 3)) fun e w'=>∃r:Int,e= .returned (.int .i64 r)/\af (kq w w0 g aT Bs d (b+12+20 * jj+ii+1) cj ct (.slice (some ad) vars.length c) (.slice AC conds.length hZ) vars conds fw FT a9 (.slice AT terms.length yb) terms w')/\w'.cell? ⟨wr.heap.size,0,none⟩=some (.string aK)/\w'.cell? ⟨fw,1,none⟩=some (.slice AT terms.length yb)/\w'.frozen? ⟨fw,1,none⟩=false/\fw<w'.heap.size):=⟨fun W hT hX=>
        (ajl hT tA0 [0,1,-1,2,-2,3] tA2 tA2 6 rfl).mono fun e w' ⟨r,he,hr,fj,wC⟩=>⟨r,he,⟨fj⟩,(mj ((wC.2 _ (az hX) (by
         obtain⟨p,_,_,DR,c9,anm,_⟩:=hT.gM.st
         exact EP hX anm tA3) tA2).trans hX) 0).trans rfl,ah fj.bG 1,ar fj.bG 1,az fj.bG⟩⟩
       have XB:=ae (b9.o.below (ax (Below.refl _ _) (.cells #[.string aK,.int .i64 aC,.int .i64 bM] 77)))
       have iU:=ae (a8 wr (.cells #[.string aK,.int .i64 aC,.int .i64 bM] 77))
       have Jd:=xA.o _ XB.o iU.o
       rw[show(wr.alloc (.cells #[.string aK,.int .i64 aC,.int .i64 bM] 77)).heap.size=wr.heap.size+1 by simp]at Jd
       have KY:=ae Jd
       have Bi:af ((terms.length+1) * 24<=140737488355328):=⟨by have:=xG.o.1;omega⟩
       have e1:wr.cell? ⟨Bs,0,none⟩=some (.slice (some ad) vars.length c):=ah b9.o.gM.blk 0
       clear Jd xA XB iU
       go_wp2_with (first|(go_at_call 40;refine KY.o.mono ?_;rintro e aZ ⟨r,rfl,oA,rM,wY,f5,eD⟩)|(at_builtin;refine Kd.oF cf w0.heap.size rfl (.tmp 60) (.tmp 65) 31 79 (.agg #[.string ⟨#[]⟩,.int .i64 0]) 24 rfl Tryz.underlying31 Ac rfl tA3 tA3 (.slice AT terms.length yb) terms ⟨aK,r⟩ [.string aK,.int .i64 r] (fun k=>FT k\/aZ.heap.size<=k) (fun _=>False) rfl rfl (yh _ _ _) (fun _ h=>h.elim) (fun _ h=> .inr h) (Kd.et oA.o.Ak (fun _ h=> .inl h)) oA.o.gM.c4 oA.o.gM.c4.size Bi.o ?_;intro v6 aY cd cG dI fh;obtain⟨dn,c6,rfl⟩:=Kd.c3 cd;have dr:=ae cd;have cP:=ae cG;have xn:=ae dI;have eR:=gf oA.o.bG dI (fun e=>(oA.o.kZ _ (oA.o.Ak.1 _ e.symm)).2.2.2.2.1 rfl);have d6:aY.cell? ⟨fw,1,none⟩=some (.slice AT terms.length yb):=(mj eR 1).trans rfl;have f6:=ar eR 1;have vu:=az eR;clear cd cG dI fh eR))
       ·obtain⟨OO,iv⟩:=oA.o.ar7 cP.o xn.o dr.o
        have fk:(terms++[(⟨aK,r⟩:ay)]).length=terms.length+1:=tA2
        rw[fk]at iv
        have cv:=ae iv
        have Lb:af ((terms++[(⟨aK,r⟩:ay)]).length<=ii+1/\∀t∈terms++[(⟨aK,r⟩:ay)],nZ t.f0):=⟨by have:=xG.o.1;rw[fk];omega,fun t ht=>by
         rcases List.mem_append.1 ht with ht|ht
         ·exact xG.o.2 t ht
         ·rw[il.1 ht]
          exact dQ.o⟩
        clear iv fk
        go_roundg (vars.length- (ii+1))
        case measure=>omega
        case rel=>exact⟨ii+1,OO,_,_,tA0,tA0,tA7,cv,Lb⟩
       ·go_roundg (vars.length- (ii+1))
        case measure=>omega
        case rel=>exact⟨ii+1,FT,_,terms,tA0,tA0,tA7,oA,⟨by have:=xG.o.1;omega,xG.o.2⟩⟩
      ·have anF:¬ (ii:Int)< (vars.length:Int):=by omega
       have:ii=vars.length:=tA0
       subst this
       obtain⟨AT,yb,rfl⟩:=Kd.c3 b9.o.Ak
       have z0:wr.cell? ⟨fw,0,none⟩=some (.int .i64 a9):=ah b9.o.bG 0
       have c2:wr.cell? ⟨fw,1,none⟩=some (.slice AT terms.length yb):=ah b9.o.bG 1
       have z2:wr.cell? ⟨Bs,1,none⟩=some (.slice AC conds.length hZ):=ah b9.o.gM.blk 1
       have Bj:af ((conds.length+1) * 32<=140737488355328):=⟨tCe⟩
       go_wp2_with (at_builtin;refine Kd.oF bc w0.heap.size rfl (.tmp 70) (.tmp 72) 27 33 (.agg #[.int .i64 0,.slice none 0 0]) 32 rfl Tryz.underlying27 jR rfl tA3 tA3 (.slice AC conds.length hZ) conds ⟨a9,terms⟩ [.int .i64 a9,.slice AT terms.length yb] (fun k=>ct k\/FT k\/wr.heap.size<=k) FT rfl rfl b9.o.elem (fun k hk=>⟨.inr (.inl hk),fun e=>(b9.o.kZ k hk).2.2.2.2.2.2 (b9.o.gM.nY.1 k e.symm)⟩) (fun _ h=> .inr (.inr h)) (Kd.et b9.o.gM.nY (fun _ h=> .inl h)) b9.o.gM.c4 b9.o.gM.c4.size Bj.o ?_;intro v6 aY cd cG dI fh;obtain⟨dn,c6,rfl⟩:=Kd.c3 cd;have dr:=ae cd;have cP:=ae cG;have xn:=ae dI;have eR:=gf b9.o.gM.blk dI (fun e=>(b9.o.gM.ac _ (b9.o.gM.nY.1 _ e.symm)).2.2.1 rfl);have d6:aY.cell? ⟨Bs,1,none⟩=some (.slice AC conds.length hZ):=(mj eR 1).trans rfl;have f6:=ar eR 1;have vu:=az eR;clear cd cG dI fh eR)
       obtain⟨Km,iv⟩:=b9.o.gM.adw (FT:=FT) (fun k hk=>⟨(b9.o.kZ k hk).1,(b9.o.kZ k hk).2.1,(b9.o.kZ k hk).2.2.1,(b9.o.kZ k hk).2.2.2.1,(b9.o.kZ k hk).2.2.2.2.2.1⟩) b9.o.CT.2 cP.o xn.o dr.o
       have fk:(conds++[(⟨a9,terms⟩:aj)]).length=conds.length+1:=tA2
       rw[fk]at iv
       have cv:=ae (iv.more (show b+12+20 * jj+vars.length<=b+11+20 * (jj+1) by omega))
       have Pt:af ((conds++[(⟨a9,terms⟩:aj)]).length=jj+1/\Uy (conds++[(⟨a9,terms⟩:aj)])):=⟨by rw[fk,dC.o.1],fun f hf=>by
        rcases List.mem_append.1 hf with hf|hf
        ·exact dC.o.2 f hf
        ·rw[il.1 hf]
         exact⟨by have:=xG.o.1;show terms.length<=10;omega,xG.o.2⟩⟩
       clear iv fk
       go_roundg (m- (jj+1))
       case measure=>omega
       case rel=>exact⟨jj+1,Km,_,_,tA0,tA0,tA7,cv,Pt⟩
    ·have vg:¬ (jj:Int)< (m:Int):=by omega
     have:jj=m:=tA0
     subst this
     obtain⟨AC,hZ,rfl⟩:=Kd.c3 a7.o.nY
     have Xb:af (Calls Tryz.prog 9 #[.pointer (some ⟨g,0,none⟩),.int .i64 12] wr fun e w'=>∃f:Bool,e= .returned (.bool f)/\af (eb w w0 g aT Bs d (b+101) cj ct (.slice A vars.length c) (.slice AC conds.length hZ) vars conds w')/\BL aT Bs (.slice A vars.length c) (.slice AC conds.length hZ) w'):=⟨(LI a7.o.st tA0 a7.o.c4 12 tA0 tA0).mono fun e w' ⟨f,he,hst,hB,hK⟩=>by
      have fj:=a7.o.stream hK hst hB
      exact⟨f,he,⟨fj.more tA0⟩,yO fj.blk fj.b2⟩⟩
     have uD:af (conds.length<=3/\Uy conds):=⟨tCe,dC.o.2⟩
     clear a7 dC yt FE
     have pX:af (∀W,eb w w0 g aT Bs d (b+101) cj ct (.slice A vars.length c) (.slice AC conds.length hZ) vars conds W->Calls Tryz.prog 10 #[.pointer (some ⟨g,0,none⟩),.int .i64 4] W fun e w'=>∃r:Int,e= .returned (.int .i64 r)/\(r=0\/r=1\/r=2\/r=3)/\af (eb w w0 g aT Bs d (b+102) cj ct (.slice A vars.length c) (.slice AC conds.length hZ) vars conds w')/\BL aT Bs (.slice A vars.length c) (.slice AC conds.length hZ) w'):=⟨fun W hA=>(Yf hA.st tA0 hA.c4 4 tA0 tA0).mono fun e w' ⟨r,he,hr,hst,hB,hK⟩=>by
      have fj:=hA.stream hK hst hB
      exact⟨r,he,tA0,⟨fj⟩,yO fj.blk fj.b2⟩⟩
     have qV:af (Modest vars conds):=⟨tA0,Xx.o,by have:=uD.o.1;omega,uD.o.2⟩
     go_wp2_with (first|(go_at_call 9;refine Xb.o.mono ?_;rintro e w3 ⟨f,rfl,sZ,⟨⟨s0,s1,s2,kD,sS⟩,t0,t1,t2,t3,t4⟩⟩;cases f))
     ·have ox:=ae (sZ.o.fin.done)
      obtain⟨q1,q2,q3,q4⟩:=ox.o
      refine bodyPost_ret (results_cell_row rfl _ _ aT 29 #[.slice A vars.length c,.slice AC conds.length hZ] (0,0) _ rfl q1 Tryz.underlying29 rfl tA1) rfl ?_
      obtain⟨p,p1,oa,lN⟩:=q3
      exact⟨A,c,vars,AC,hZ,conds,rfl,sZ.o.fin.le,qV.o,q2,⟨p,p1,tA0,lN⟩,q4⟩
     ·clear s0 s1 s2 kD sS t0 t1 t2 t3 t4
      refine(pX.o _ sZ.o).mono ?_
      rintro e w4 ⟨r,rfl,hr,kI,⟨⟨s0,s1,s2,kD,sS⟩,t0,t1,t2,t3,t4⟩⟩
      have abo:¬ Bs=aT:=kI.o.ml.2.2
      have rv:¬ aT=Bs:=fun e=>abo e.symm
      clear sZ Xb pX
      rcases hr with rfl|rfl|rfl|rfl
      ·have SN:af (eb w w0 g aT Bs d (b+102) cj ct (.slice A vars.length c) (.slice AC conds.length hZ) vars conds ((w4.alloc (.cells #[.string ⟨#[105]⟩,.string ⟨#[]⟩,.string ⟨#[113]⟩] 9)).drew)):=⟨kI.o.below (cB (ax (Below.refl _ _) _))⟩
       have SP:af (eb w w0 g aT Bs d (b+102) cj ct (.slice A vars.length c) (.slice AC conds.length hZ) vars conds (((w4.alloc (.cells #[.string ⟨#[105]⟩,.string ⟨#[]⟩,.string ⟨#[113]⟩] 9)).alloc (.cells #[.int .i64 0,.int .i64 300000,.int .i64 1] 3)).drew)):=⟨kI.o.below (cB (ax (ax (Below.refl _ _) _) _))⟩
       have SQ:af (eb w w0 g aT Bs d (b+102) cj ct (.slice A vars.length c) (.slice AC conds.length hZ) vars conds (((w4.alloc (.cells #[.int .i64 0,.int .i64 300000,.int .i64 1] 3)).alloc (.cells #[.string ⟨#[105]⟩,.string ⟨#[]⟩,.string ⟨#[113]⟩] 9)).drew)):=⟨kI.o.below (cB (ax (ax (Below.refl _ _) _) _))⟩
       have yy:af (kY ((w4.alloc (.cells #[.string ⟨#[105]⟩,.string ⟨#[]⟩,.string ⟨#[113]⟩] 9)).drew) w4.heap.size [⟨#[105]⟩,⟨#[]⟩,⟨#[113]⟩]):=⟨a8 w4 _⟩
       have FL:af (kY (((w4.alloc (.cells #[.string ⟨#[105]⟩,.string ⟨#[]⟩,.string ⟨#[113]⟩] 9)).alloc (.cells #[.int .i64 0,.int .i64 300000,.int .i64 1] 3)).drew) w4.heap.size [⟨#[105]⟩,⟨#[]⟩,⟨#[113]⟩]):=⟨aH yy.o _⟩
       have FM:af (kY (((w4.alloc (.cells #[.int .i64 0,.int .i64 300000,.int .i64 1] 3)).alloc (.cells #[.string ⟨#[105]⟩,.string ⟨#[]⟩,.string ⟨#[113]⟩] 9)).drew) (w4.heap.size+1) [⟨#[105]⟩,⟨#[]⟩,⟨#[113]⟩]):=⟨by
        have:=a8 (w4.alloc (.cells #[.int .i64 0,.int .i64 300000,.int .i64 1] 3)) (.cells #[.string ⟨#[105]⟩,.string ⟨#[]⟩,.string ⟨#[113]⟩] 9)
        rw[show(w4.alloc (.cells #[.int .i64 0,.int .i64 300000,.int .i64 1] 3)).heap.size=w4.heap.size+1 by simp]at this
        exact this⟩
       have wA:af (gL (((w4.alloc (.cells #[.string ⟨#[105]⟩,.string ⟨#[]⟩,.string ⟨#[113]⟩] 9)).alloc (.cells #[.int .i64 0,.int .i64 300000,.int .i64 1] 3)).drew) (w4.heap.size+1) [0,300000,1]):=⟨by
        have:=a8 (w4.alloc (.cells #[.string ⟨#[105]⟩,.string ⟨#[]⟩,.string ⟨#[113]⟩] 9)) (.cells #[.int .i64 0,.int .i64 300000,.int .i64 1] 3)
        rw[show(w4.alloc (.cells #[.string ⟨#[105]⟩,.string ⟨#[]⟩,.string ⟨#[113]⟩] 9)).heap.size=w4.heap.size+1 by simp]at this
        exact this⟩
       have wB:af (gL (((w4.alloc (.cells #[.int .i64 0,.int .i64 300000,.int .i64 1] 3)).alloc (.cells #[.string ⟨#[105]⟩,.string ⟨#[]⟩,.string ⟨#[113]⟩] 9)).drew) w4.heap.size [0,300000,1]):=⟨aH (a8 w4 _) _⟩
       have qz:=ae kI.o.st.lt
       have Bj:af ((vars.length+1) * 32<=140737488355328):=⟨tA0⟩
       go_wp2
       go_region_law (first|(refine Kd.th cu w0.heap.size tA5 (.tmp 94) (.tmp 104) 26 77 (.agg #[.string ⟨#[]⟩,.int .i64 0,.int .i64 0]) 32 tA5 Tryz.underlying26 FU rfl tA3 tA3 (.slice A vars.length c) vars _ _ (fun k=>cj k\/bt.heap.size<=k) (fun _=>False) tA5 tA5 (Sk _ _ _ _) (fun _ h=>h.elim) (fun _ h=> .inr h) (Kd.et l5.o.jm (fun _ h=> .inl h)) l5.o.c4 l5.o.c4.size Bj.o ?_;intro v8 fq fO gD eY iq;obtain⟨jJ,c8,rfl⟩:=Kd.c3 fO;have je:=ae fO;have eh:=ae gD;have kJ:=ae eY;have qd:=gf l5.o.blk kJ.o (fun e=>(l5.o.fK _ (l5.o.jm.1 _ e.symm)).2.2.1 rfl);have d8:fq.cell? ⟨Bs,0,none⟩=some (.slice A vars.length c):=(mj qd 0).trans rfl;have f8:=ar qd 0;have yD:=az qd;clear fO gD eY iq qd)|(go_simp;go_at_call 8;refine(VX tEl tA0 _ [⟨#[105]⟩,⟨#[]⟩,⟨#[113]⟩] tCr tA2 tA2 3 rfl).mono ?_;rintro e aZ ⟨gi,rfl,hy5,AX,qT,⟨⟨v0,v1,v2,v3,v4⟩,_⟩⟩;have Qv:=ae hy5;clear hy5)|(go_simp;go_at_call 41;refine(aeR tEt tA0 (-5) 5 tA0 tA0 tA0).mono ?_;rintro e aY ⟨UY,rfl,Wb,Bg,⟨⟨x0,x1,x2,x3,uf⟩,_⟩⟩)|(go_simp;go_at_call 40;refine(VW (by first|exact Wb.o|exact Wb.o.below (ax (Below.refl _ _) _)) tA0 _ [0,300000,1] (by first|exact a8 aY _|exact(Bg.o.2 _ (az (a8 aZ _)) (by have h1:=qT.o.1;have h2:=qz.o;simp at h1;omega) tA2).trans (a8 aZ _)|exact(Bg.o.2 _ (fy (az wA.o) qT.o.1) tB3 tA2).trans ((qT.o.2 _ (az wA.o) tB3 tA2).trans wA.o)|exact(Bg.o.2 _ (fy (az wB.o) qT.o.1) tB3 tA2).trans ((qT.o.2 _ (az wB.o) tB3 tA2).trans wB.o)) tA2 tA2 3 rfl).mono ?_;rintro e bt ⟨yI,rfl,l5,⟨⟨aK,aC,bM,eH,jr⟩,_⟩⟩))
       all_goals
        obtain⟨DV,iv,i2,i3⟩:=l5.o.adA eh.o kJ.o je.o
        have fk:(vars++[(⟨gi,UY,yI⟩:aq)]).length=vars.length+1:=tA2
        generalize B7:fq.setCell ⟨Bs,0,none⟩ (.slice jJ (vars++[(⟨gi,UY,yI⟩:aq)]).length c8)=ajr at iv i2 i3
        rw[fk]at B7
        rw[B7]
        have ox:=ae iv.fin
        obtain⟨⟨z0,c2,z2,z3,z4⟩,z5,OA,atj,atk,z9⟩:=yO iv.blk iv.b2
        rw[fk]at z0
        have jU:=ae fk
        clear iv i2 i3 fk B7
        go_wp2
        obtain⟨q1,q2,q3,q4⟩:=ox.o.done
        have fk:=jU.o
        rw[fk]at q1
        refine bodyPost_ret (results_cell_row rfl _ _ aT 29 #[.slice jJ (vars.length+1) c8,.slice AC conds.length hZ] (0,0) _ rfl q1 Tryz.underlying29 rfl tA1) rfl ?_
        obtain⟨p,p1,oa,lN⟩:=q3
        rw[fk]at q2 q4 lN
        exact⟨jJ,c8,vars++[(⟨gi,UY,yI⟩:aq)],AC,hZ,conds,by rw[fk],ox.o.le,⟨by rw[fk];omega,fun v hv=>by
         rcases List.mem_append.1 hv with hv|hv
         ·exact qV.o.2.1 v hv
         ·rw[il.1 hv]
          exact asl Qv.o,qV.o.2.2⟩,q2,⟨p,p1,tA0,lN⟩,q4⟩
      ·have SN:af (eb w w0 g aT Bs d (b+102) cj ct (.slice A vars.length c) (.slice AC conds.length hZ) vars conds ((w4.alloc (.cells #[.string ⟨#[113]⟩,.string ⟨#[105]⟩,.string ⟨#[]⟩] 9)).drew)):=⟨kI.o.below (cB (ax (Below.refl _ _) _))⟩
       have SP:af (eb w w0 g aT Bs d (b+102) cj ct (.slice A vars.length c) (.slice AC conds.length hZ) vars conds (((w4.alloc (.cells #[.string ⟨#[113]⟩,.string ⟨#[105]⟩,.string ⟨#[]⟩] 9)).alloc (.cells #[.int .i64 1,.int .i64 0,.int .i64 1001] 3)).drew)):=⟨kI.o.below (cB (ax (ax (Below.refl _ _) _) _))⟩
       have SQ:af (eb w w0 g aT Bs d (b+102) cj ct (.slice A vars.length c) (.slice AC conds.length hZ) vars conds (((w4.alloc (.cells #[.int .i64 1,.int .i64 0,.int .i64 1001] 3)).alloc (.cells #[.string ⟨#[113]⟩,.string ⟨#[105]⟩,.string ⟨#[]⟩] 9)).drew)):=⟨kI.o.below (cB (ax (ax (Below.refl _ _) _) _))⟩
       have yy:af (kY ((w4.alloc (.cells #[.string ⟨#[113]⟩,.string ⟨#[105]⟩,.string ⟨#[]⟩] 9)).drew) w4.heap.size [⟨#[113]⟩,⟨#[105]⟩,⟨#[]⟩]):=⟨a8 w4 _⟩
       have FL:af (kY (((w4.alloc (.cells #[.string ⟨#[113]⟩,.string ⟨#[105]⟩,.string ⟨#[]⟩] 9)).alloc (.cells #[.int .i64 1,.int .i64 0,.int .i64 1001] 3)).drew) w4.heap.size [⟨#[113]⟩,⟨#[105]⟩,⟨#[]⟩]):=⟨aH yy.o _⟩
       have FM:af (kY (((w4.alloc (.cells #[.int .i64 1,.int .i64 0,.int .i64 1001] 3)).alloc (.cells #[.string ⟨#[113]⟩,.string ⟨#[105]⟩,.string ⟨#[]⟩] 9)).drew) (w4.heap.size+1) [⟨#[113]⟩,⟨#[105]⟩,⟨#[]⟩]):=⟨by
        have:=a8 (w4.alloc (.cells #[.int .i64 1,.int .i64 0,.int .i64 1001] 3)) (.cells #[.string ⟨#[113]⟩,.string ⟨#[105]⟩,.string ⟨#[]⟩] 9)
        rw[show(w4.alloc (.cells #[.int .i64 1,.int .i64 0,.int .i64 1001] 3)).heap.size=w4.heap.size+1 by simp]at this
        exact this⟩
       have wA:af (gL (((w4.alloc (.cells #[.string ⟨#[113]⟩,.string ⟨#[105]⟩,.string ⟨#[]⟩] 9)).alloc (.cells #[.int .i64 1,.int .i64 0,.int .i64 1001] 3)).drew) (w4.heap.size+1) [1,0,1001]):=⟨by
        have:=a8 (w4.alloc (.cells #[.string ⟨#[113]⟩,.string ⟨#[105]⟩,.string ⟨#[]⟩] 9)) (.cells #[.int .i64 1,.int .i64 0,.int .i64 1001] 3)
        rw[show(w4.alloc (.cells #[.string ⟨#[113]⟩,.string ⟨#[105]⟩,.string ⟨#[]⟩] 9)).heap.size=w4.heap.size+1 by simp]at this
        exact this⟩
       have wB:af (gL (((w4.alloc (.cells #[.int .i64 1,.int .i64 0,.int .i64 1001] 3)).alloc (.cells #[.string ⟨#[113]⟩,.string ⟨#[105]⟩,.string ⟨#[]⟩] 9)).drew) w4.heap.size [1,0,1001]):=⟨aH (a8 w4 _) _⟩
       have qz:=ae kI.o.st.lt
       have Bj:af ((conds.length+1) * 32<=140737488355328):=⟨by have:=uD.o.1;omega⟩
       go_wp2
       go_region_law (first|(refine Kd.th bc w0.heap.size tA5 (.tmp 110) (.tmp 120) 27 33 (.agg #[.int .i64 0,.slice none 0 0]) 32 tA5 Tryz.underlying27 jR rfl tA3 tA3 (.slice AC conds.length hZ) conds ⟨0,[⟨gi,yI⟩]⟩ [.int .i64 0,.slice (some ⟨bt.heap.size,0,none⟩) 1 1] (fun k=>ct k\/k=bt.heap.size\/bt.heap.size+1<=k) (fun k=>k=bt.heap.size) tA5 ?hx (alE (a8 bt _)) (fun k hk=>⟨.inr (.inl hk),fun e=>by have h1:=(l5.o.ac _ (l5.o.nY.1 k e.symm)).1.2;omega⟩) (fun k hk=> .inr (.inr (by simpa using hk))) (Kd.et (l5.o.below (ax (Below.refl _ _) _)).nY (fun _ h=> .inl h)) (l5.o.below (ax (Below.refl _ _) _)).c4 (l5.o.below (ax (Below.refl _ _) _)).c4.size Bj.o ?_;(case hx=>go_simp);intro v8 fq fO gD eY iq;obtain⟨jJ,c8,rfl⟩:=Kd.c3 fO;have je:=ae fO;have eh:=ae gD;have kJ:=ae eY;have xb:=ae (l5.o.below (ax (Below.refl _ _) (.cells #[.string gi,.int .i64 yI] 79)));have qd:=gf xb.o.blk kJ.o (fun e=>(xb.o.ac _ (xb.o.nY.1 _ e.symm)).2.2.1 rfl);have d8:fq.cell? ⟨Bs,1,none⟩=some (.slice AC conds.length hZ):=(mj qd 1).trans rfl;have f8:=ar qd 1;have yD:=az qd;clear fO gD eY iq qd)|(go_simp;go_at_call 8;refine(VX tEl tA0 _ [⟨#[113]⟩,⟨#[105]⟩,⟨#[]⟩] tCr tA2 tA2 3 rfl).mono ?_;rintro e aZ ⟨gi,rfl,hy5,AX,qT,⟨⟨v0,v1,v2,v3,v4⟩,_⟩⟩;have Qv:=ae hy5;clear hy5)|(go_simp;go_at_call 40;refine(VW tEt tA0 _ [1,0,1001] (by first|exact a8 aZ _|exact(qT.o.2 _ (az wA.o) tB3 tA2).trans wA.o|exact(qT.o.2 _ (az wB.o) tB3 tA2).trans wB.o) tA2 tA2 3 rfl).mono ?_;rintro e bt ⟨yI,rfl,l5,⟨⟨aK,aC,bM,eH,jr⟩,_⟩⟩))
       all_goals
        obtain⟨Km,iv⟩:=xb.o.adw (FT:=fun k=>k=bt.heap.size) (fun k hk=>by
         subst hk
         have h1:=l5.o.c4.size
         have h2:=l5.o.st.lt
         have h3:=az l5.o.blk
         have h4:=az l5.o.b2
         exact⟨⟨h1,tA2⟩,tA0,tA0,tA0,fun hf=>by have h5:=(l5.o.fK _ hf).1.2;omega⟩) (fun k hk=>by subst hk;exact l5.o.kb.1) eh.o kJ.o (Kd.et je.o (fun k hk=>by simpa using hk))
        have fk:(conds++[(⟨0,[⟨gi,yI⟩]⟩:aj)]).length=conds.length+1:=tA2
        generalize B7:fq.setCell ⟨Bs,1,none⟩ (.slice jJ (conds++[(⟨0,[⟨gi,yI⟩]⟩:aj)]).length c8)=ajr at iv
        rw[fk]at B7
        rw[B7]
        have ox:=ae iv.fin
        obtain⟨⟨z0,c2,z2,z3,z4⟩,z5,OA,atj,atk,z9⟩:=yO iv.blk iv.b2
        rw[fk]at c2
        have jU:=ae fk
        clear iv fk B7
        go_wp2
        obtain⟨q1,q2,q3,q4⟩:=ox.o.done
        have fk:=jU.o
        rw[fk]at q1
        refine bodyPost_ret (results_cell_row rfl _ _ aT 29 #[.slice A vars.length c,.slice jJ (conds.length+1) c8] (0,0) _ rfl q1 Tryz.underlying29 rfl tA1) rfl ?_
        obtain⟨p,p1,oa,lN⟩:=q3
        rw[fk]at q2 q4 lN
        exact⟨A,c,vars,jJ,c8,conds++[(⟨0,[⟨gi,yI⟩]⟩:aj)],by rw[fk],ox.o.le,⟨qV.o.1,qV.o.2.1,by rw[fk];have:=uD.o.1;omega,fun f hf=>by
         rcases List.mem_append.1 hf with hf|hf
         ·exact uD.o.2 f hf
         ·rw[il.1 hf]
          exact⟨tA2,fun t ht=>by rw[il.1 ht];exact asm Qv.o⟩⟩,q2,⟨p,p1,tA0,lN⟩,q4⟩
      ·have jd:=ae (Kd.mb kI.o.nY)
       go_wp2_with (go_at_call 42;refine(ai5 ct AC hZ conds w4 jd.o (Kd.ej kI.o.nY).2.1 uD.o.1).mono ?_;rintro e aZ ⟨yV,bW,eD,rfl,aa8,Z3,I6,aa4,ky⟩;have KF:=ae Z3;have Ho:=ae I6;have xt:=ae aa4;have O9:=ae aa8;have bq:=ae ky;obtain⟨⟨v0,v1,v2,v3,v4⟩,u0,u1,u2,u3,u4⟩:=yO (av kI.o.blk ky) (av kI.o.b2 ky);clear Z3 I6 aa4 aa8 ky)
       have ox:=ae (kI.o.again bq.o KF.o O9.o)
       obtain⟨q1,q2,q3,q4⟩:=ox.o.done
       refine bodyPost_ret (results_cell_row rfl _ _ aT 29 #[.slice A vars.length c,.slice yV eD.length bW] (0,0) _ rfl q1 Tryz.underlying29 rfl tA1) rfl ?_
       obtain⟨p,p1,oa,lN⟩:=q3
       exact⟨A,c,vars,yV,bW,eD,rfl,ox.o.le,⟨qV.o.1,qV.o.2.1,by have:=xt.o;omega,fun f hf=>uD.o.2 f (Ho.o f hf)⟩,q2,⟨p,p1,tA0,lN⟩,q4⟩
      ·by_cases hp:0<vars.length
       ·have TF:(0:Int)< (vars.length:Int):=by omega
        obtain⟨fg,cap,aox,_,_,cells,qx⟩:=Kd.QR kI.o.jm hp
        injection aox with hA hn hc
        subst hA
        subst hc
        have HC:af (∀W,eb w w0 g aT Bs d (b+102) cj ct (.slice (some ⟨fg,0,none⟩) vars.length c) (.slice AC conds.length hZ) vars conds W->Calls Tryz.prog 40 #[.pointer (some ⟨g,0,none⟩),.slice (some ⟨W.heap.size,0,none⟩) 3 3] (W.alloc (.cells #[.int .i64 (-1000001),.int .i64 (-1000000),.int .i64 0] 3)) fun e w'=>∃r:Int,e= .returned (.int .i64 r)/\af (eb w w0 g aT Bs d (b+103) cj ct (.slice (some ⟨fg,0,none⟩) vars.length c) (.slice AC conds.length hZ) vars conds w')/\(∃y:Int,w'.cell? ⟨fg,1,none⟩=some (.int .i64 y))/\w'.frozen? ⟨fg,1,none⟩=false/\fg<w'.heap.size/\BL aT Bs (.slice (some ⟨fg,0,none⟩) vars.length c) (.slice AC conds.length hZ) w'):=⟨fun W hA=>(DU hA tA0 [-1000001,-1000000,0] tA2 tA2 3 rfl).mono fun e w' ⟨r,he,hr,fj,wC⟩=>by
         obtain⟨ad,e1,x0,x1,x2⟩:=fe (Kd.ej fj.jm).2.2 0 tA0 tA0
         injection e1 with e1
         subst e1
         obtain⟨cl,gN⟩:=Kd.tq fj.jm fg rfl
         exact⟨r,he,⟨fj⟩,⟨_,x1⟩,ar gN 1,az gN,yO fj.blk fj.b2⟩⟩
        have aw4:¬ fg=aT:=(kI.o.fK _ (kI.o.jm.1 fg rfl)).2.2.2.1
        have u9:¬ fg=Bs:=(kI.o.fK _ (kI.o.jm.1 fg rfl)).2.2.1
        clear qx
        go_wp2
        go_region_law (go_simp;go_at_call 40;refine(HC.o _ (by first|exact kI.o.below (cB (Below.refl _ _))|exact kI.o)).mono ?_;rintro e aZ ⟨aqW,rfl,AX,⟨gi,wY⟩,f5,eD,⟨⟨v0,v1,v2,v3,v4⟩,u0,u1,u2,u3,u4⟩⟩)
        all_goals
         obtain⟨tY,e1,e2,aaF⟩:=AX.o.first hp aqW
         have ox:=ae aaF
         have A6:=ae e1
         have A7:=ae e2
         clear aaF e1 e2
         go_wp2
         obtain⟨q1,q2,q3,q4⟩:=ox.o.done
         rw[A6.o]at q1
         refine bodyPost_ret (results_cell_row rfl _ _ aT 29 #[.slice (some ⟨fg,0,none⟩) vars.length c,.slice AC conds.length hZ] (0,0) _ rfl q1 Tryz.underlying29 rfl tA1) rfl ?_
         obtain⟨p,p1,oa,lN⟩:=q3
         have e1:=A6.o
         rw[e1]at q2 q4 lN
         exact⟨some ⟨fg,0,none⟩,c,tY,AC,hZ,conds,by rw[e1],ox.o.le,⟨by rw[e1];exact qV.o.1,fun v hv=>by
          obtain⟨u,hu,e⟩:=A7.o v hv
          rw[e]
          exact qV.o.2.1 u hu,qV.o.2.2⟩,q2,⟨p,p1,tA0,lN⟩,q4⟩
       ·have TF:¬ (0:Int)< (vars.length:Int):=by omega
        go_wp2
        have ox:=ae (kI.o.fin.done)
        obtain⟨q1,q2,q3,q4⟩:=ox.o
        refine bodyPost_ret (results_cell_row rfl _ _ aT 29 #[.slice A vars.length c,.slice AC conds.length hZ] (0,0) _ rfl q1 Tryz.underlying29 rfl tA1) rfl ?_
        obtain⟨p,p1,oa,lN⟩:=q3
        exact⟨A,c,vars,AC,hZ,conds,rfl,kI.o.fin.le,qV.o,q2,⟨p,p1,tA0,lN⟩,q4⟩
end Go.Proofs.YtjgakaembhmhpaaGreatDoor.PA.Two
