/- A PHASE: how what holds is kept: a worker's step, a leaver's, goroutin .. -/
import Derived.Test.YtffladgmkiimjaaGreatDoorW10
import Derived.Test.YtffladgmkiimjaaGreatDoorProg
import Derived.KernelRfl
import Derived.Test.YtffladgmkiimjaaGreatDoorW08
import Derived.DyingErrors
import Derived.Conc.Events
import Derived.Test.YtffladgmkiimjaaGreatDoorW00
set_option linter.all false
set_option maxHeartbeats 100000000
set_option maxRecDepth 1000000
open Array renaming getElem?_setIfInBounds_ne → aA,replicate → aT,getElem?_setIfInBounds_self_of_lt → aZ,getElem?_eq_some_iff → ak,append_empty → dS,mem_of_getElem? → eH,all_eq_true' → jY,getElem?_push → kN
open Bool renaming and_eq_true → aC,false_eq_true → bu
open Go renaming Goroutine → aB,Program → aI,TypeId → aX,undef → af,Value → aj,World → ar,Addr → cU,FuncId → dR,stepG → eM,Event → fP,callFunc → fh,Code → gG,unwind → lD,partners → wA
open Go.Conc renaming mem_ofEvents → A5,runT_crowd_go → Cr,served → eN,parked → ia,offersAt_of_not_blocked → mf,scase → nj,crowd → qD
open Go.Extern renaming findNext → dg,find → fo
open Go.MemAct renaming ofEvent → fK
open Go.MemOp renaming ofEvents → ic
open Go.Proofs.Tryz renaming prog → aq
open Go.Region renaming wanted → cF
open Go.Sem renaming runT_bind' → FZ
open Go.Value renaming tuple → cD
open Go.stepG renaming apply → dX,oper → eI
open List renaming all_eq_true → aW,mem_append → bH,mem_cons → bR,map_cons → cK,mem_map → dc,mem_toArray → eF,map_append → fD,not_mem_nil → gh,mem_singleton → lX
open Nat renaming le_refl → ax,lt_of_lt_of_le → bz,eq_zero_or_pos → iJ
open Ne renaming symm → A1
open Option renaming map_some → dH,bind_some → gg,isNone_iff_eq_none → kE
open Option.some renaming inj → bf,injEq → gq
open Pure renaming pure → eE
namespace Go.Lag
open Go.Conc
open Go.ConcN (upd upd_ne upd_same sumTo sumTo_upd)
section
variable{P:aI}{c0 c1:Nat}{S0 O0:Nat→Prop}{gm:aB}{L l1 l2:List X}{x:X}{gs:Array aB}{w:ar}{t u:Trace}{q:Nat→Nat}
theorem Dz{k:Nat}{fn:dR}{pos:String}{es:Array fP}{R W:Nat→Prop}{B:Nat}(h:∀e∈es,NM R W e)(hR:∀c,R c→c<B):∀op∈ic k fn pos es,op.g=k∧Jg R W op∧nP op∧op.act.low B:=by
 intro op hop;obtain⟨e,he,rfl⟩:=A5 hop;refine⟨rfl,?_⟩;obtain⟨loc,wr,sy⟩:=e;rcases h _ he with⟨a,h1,h2,h3,h4⟩|⟨r,h1,h2,h3,h4⟩|h1
 ·dsimp only at h1 h2 h4;subst h1;subst h2;refine⟨?_,⟨by simp[fK],by simp[fK]⟩,hR _ h3⟩;intro y hy;simp only[fK,MemAct.touch?,gq] at hy;subst hy;exact⟨rfl,a.block,rfl,h3,h4⟩
 ·dsimp only at h1 h2 h4;subst h1;subst h2;have e:fK ⟨.obj r,wr,false⟩=.access ⟨.obj r,wr,false⟩:=by cases wr<;>rfl
  dsimp only;refine⟨?_,?_,?_⟩
  ·intro y hy;dsimp only at hy;rw[e] at hy;simp only[MemAct.touch?,gq] at hy;subst hy;exact⟨rfl,r,rfl,h3,h4⟩
  ·unfold nP;dsimp only;rw[e];exact⟨by simp,by simp⟩
  ·rw[e];exact hR _ h3
 ·dsimp only at h1;subst h1;refine⟨?_,⟨by simp[fK],by simp[fK]⟩,trivial⟩;intro y hy;simp[fK,MemAct.touch?] at hy
theorem fZ{w':ar}{x2 y:X}:y∈l1.map (X.at w')++x2::l2.map (X.at w')↔y=x2∨∃z∈l1++l2,y=z.at w':=by
 simp only[bH,bR,dc];constructor
 ·rintro(⟨z,hz,rfl⟩|rfl|⟨z,hz,rfl⟩)
  ·exact .inr ⟨z,.inl hz,rfl⟩
  ·exact .inl rfl
  ·exact .inr ⟨z,.inr hz,rfl⟩
 ·rintro(rfl|⟨z,hz|hz,rfl⟩)
  ·exact .inr (.inl rfl)
  ·exact .inl ⟨z,hz,rfl⟩
  ·exact .inr (.inr ⟨z,hz,rfl⟩)
theorem po{w':ar}{y:X}:y∈l1.map (X.at w')++l2.map (X.at w')↔∃z∈l1++l2,y=z.at w':=by
 simp only[bH,dc];constructor
 ·rintro(⟨z,hz,rfl⟩|⟨z,hz,rfl⟩)
  ·exact⟨z,.inl hz,rfl⟩
  ·exact⟨z,.inr hz,rfl⟩
 ·rintro⟨z,hz|hz,rfl⟩
  ·exact .inl ⟨z,hz,rfl⟩
  ·exact .inr ⟨z,hz,rfl⟩
theorem bJ{z:X}(h:z∈l1++l2):z∈l1++x::l2:=by
 rcases bH.1 h with h|h
 ·exact bH.2 (.inl h)
 ·exact bH.2 (.inr (List.mem_cons_of_mem _ h))
theorem mW:x∈l1++x::l2:=bH.2 (.inr (List.mem_cons_self ..))
theorem mF{z:X}(h:z∈l1++x::l2):z=x∨z∈l1++l2:=by
 rcases bH.1 h with h|h
 ·exact .inr (bH.2 (.inl h))
 ·rcases bR.1 h with rfl|h
  ·exact .inl rfl
  ·exact .inr (bH.2 (.inr h))
theorem CV{w':ar}{x2:X}(hid:x2.id=x.id){g:Nat}:act (l1.map (X.at w')++x2::l2.map (X.at w')) g↔act (l1++x::l2) g:=by
 constructor
 ·rintro⟨y,hy,rfl⟩;rcases fZ.1 hy with rfl|⟨z,hz,rfl⟩
  ·exact⟨x,mW,hid.symm⟩
  ·exact⟨z,bJ hz,rfl⟩
 ·rintro⟨y,hy,rfl⟩;rcases mF hy with rfl|hz
  ·exact⟨x2,fZ.2 (.inl rfl),hid⟩
  ·exact⟨y.at w',fZ.2 (.inr ⟨y,hz,rfl⟩),rfl⟩
theorem Ou{w':ar}{x2:X}(hid:x2.id=x.id):(l1.map (X.at w')++x2::l2.map (X.at w')).map X.id=(l1++x::l2).map X.id:=by
 simp only[fD,cK,List.map_map,hid];rfl
theorem Inv.Rq(h:Inv P c0 c1 S0 O0 gm (l1++x::l2) gs w t q){g2:aB}{w2:ar}{es:Array fP}(wK:Jk x.S x.O w w2 es)(hp:gD P c0 c1 x.S x.p x.b (own x.O w w2) g2 w2)(fn:dR)(pos:String) :
  Inv P c0 c1 S0 O0 gm (l1.map (X.at w2)++{ x with O:=own x.O w w2,g:=g2,w:=w2 }::l2.map (X.at w2)) (gs.setIfInBounds x.id g2) w2 (t++ic x.id fn pos es) q∧gW (fun c=>S0 c∨O0 c) w w2:=by
 have hx:=mW (x:=x) (l1:=l1) (l2:=l2);have hid:({ x with O:=own x.O w w2,g:=g2,w:=w2 }:X).id=x.id:=rfl;have Gt:=h.slot x hx;have hlt:x.id<gs.size:=(ak.1 Gt.1).1;have hne:=nJ h.nodup;have hgrow:=wK.grow;have ZY:c0<w.heap.size:=by obtain⟨s,tm,e⟩:=h.BR;exact ey e
 have ZX:c1<w.heap.size:=by obtain⟨s,tm,e⟩:=h.BQ;exact ey e
 have xO:∀c,x.O c→c<w.heap.size∧c≠c0∧c≠c1:=fun c hc=>h.geo.lt x hx c (.inr hc);have hrel:∀K:Nat→Prop,(∀c,K c→c<w.heap.size∧¬x.O c)→gW K w w2:=fun K hK=>⟨hgrow,fun c hc=>wK.keep c (hK c hc).1 (hK c hc).2⟩
 have RZ:∀c,own x.O w w2 c→c<w2.heap.size:=fun c hc=>by
  rcases hc with hc|hc
  ·have:=(xO c hc).1;omega
  ·exact hc.2
 have X6:∀z∈l1++l2,gW (fun c=>z.S c∨z.O c) w w2:=fun z hz=>hrel _ fun c hc=>by
  refine⟨(h.geo.lt z (bJ hz) c hc).1,fun ho=>?_⟩;have:=h.geo.ww x hx z (bJ hz) (fun e=>hne z hz e.symm) c ho;exact hc.elim this.1 this.2
 have ch:∀c,c<w.heap.size→(∀c',x.O c'→c'≠c)→Chan c w→Chan c w2:=fun c hcl hno ⟨s,tm,e⟩=>⟨s,tm,by rw[wK.keep c hcl (fun ho=>hno c ho rfl)];exact e⟩
 have hS:∀c,SL (l1++x::l2) x.id c→x.S c:=fun c ⟨y,hy,SN,hs⟩=>by
  have:=J5 h.nodup y hy x hx SN;subst this;exact hs
 have hO:∀c,OL (l1++x::l2) x.id c→x.O c:=fun c ⟨y,hy,SN,hs⟩=>by
  have:=J5 h.nodup y hy x hx SN;subst this;exact hs
 refine⟨⟨?_,?_,?_,?_,?_,?_,?_,?_,?_,?_,h.ne,h.wk0,h.st0⟩,hrel _ fun c hc=>⟨(h.geo.Ij c hc).1,fun ho=>hc.elim (h.geo.wm x hx c ho) fun h0=>(h.geo.mw x hx c h0).2 ho⟩⟩
 ·have:x.id≠0:=by have:=Gt.2;omega
  rw[aA this];exact h.zero
 ·intro y hy;rcases fZ.1 hy with rfl|⟨z,hz,rfl⟩
  ·exact⟨aZ hlt,Gt.2⟩
  ·have hs:=h.slot z (bJ hz);refine⟨?_,hs.2⟩;show(gs.setIfInBounds x.id g2)[z.id]?=_;rw[aA (fun e=>hne z hz e.symm)];exact hs.1
 ·intro y hy;rcases fZ.1 hy with rfl|⟨z,hz,rfl⟩
  ·exact⟨.run hp,rfl⟩
  ·have hs:=h.ws z (bJ hz);exact⟨hs.1.rely (by rw[hs.2];exact X6 z hz),rfl⟩
 ·rw[Ou hid];exact h.nodup
 ·intro i g hi hg ha;have ha':¬act (l1++x::l2) i:=fun a=>ha ((CV hid).2 a);have hix:x.id≠i:=fun e=>ha' ⟨x,hx,e⟩;rw[aA hix] at hg;rw[Deaf_other t hix _ (fun op hop=>by obtain⟨e,_,rfl⟩:=A5 hop;rfl)];exact h.old i g hi hg ha'
 ·intro j hj;have hj':gs.size≤j:=by simpa using hj
  rw[Deaf_other t (g':=x.id) (by omega) _ (fun op hop=>by obtain⟨e,_,rfl⟩:=A5 hop;rfl)];exact h.above j hj'
 ·have VE:=h.pt.appW (k:=x.id) ⟨x,hx,rfl⟩ (W:=own x.O w w2) hgrow (u:=ic x.id fn pos es)
   (Dz (fun e he=>(wK.evs e he).mono (fun c hc=>hc.imp (fun hs=>⟨x,hx,rfl,hs⟩) id) fun c hc=>hc) fun c hc=>by
    rcases hc with hc|hc
    ·have:=(h.geo.lt x hx c (.inl (hS c hc))).1;omega
    ·exact RZ c hc)
   (fun c hc=>hc.imp (fun ho=>⟨x,hx,rfl,ho⟩) fun hn=>hn.1) (fun c hc=>.inl (hO c hc))
   (fun c hc hs=>by
    rcases hc with hc|hc
    ·exact h.geo.dj x hx c (hS c hs) hc
    ·have:=(h.geo.lt x hx c (.inl (hS c hs))).1;omega)
   (fun g hg CL c hc=>by
    have lt':∀y∈l1++x::l2,y.id=g→¬(y.S c∨y.O c):=fun y hy Vw hyc=>by
     rcases hc with hc|hc
     ·have:=h.geo.ww x hx y hy (fun e=>CL (Vw.symm.trans e.symm)) c hc;exact hyc.elim this.1 this.2
     ·have:=(h.geo.lt y hy c hyc).1;omega
    exact⟨fun⟨y,hy,Vw,hs⟩=>lt' y hy Vw (.inl hs),fun⟨y,hy,Vw,hs⟩=>lt' y hy Vw (.inr hs)⟩)
   (fun g hg CL c hc ⟨y,hy,Vw,ho⟩=>(h.geo.ww y hy x hx (fun e=>CL (Vw.symm.trans e)) c ho).1 (hS c hc))
  refine VE.congr (fun g=>CV hid) (fun g hg c=>?_) fun g hg c=>?_
  ·constructor
   ·rintro⟨y,hy,rfl,hs⟩;rcases fZ.1 hy with rfl|⟨z,hz,rfl⟩
    ·exact⟨x,hx,rfl,hs⟩
    ·exact⟨z,bJ hz,rfl,hs⟩
   ·rintro⟨y,hy,rfl,hs⟩;rcases mF hy with rfl|hz
    ·exact⟨_,fZ.2 (.inl rfl),rfl,hs⟩
    ·exact⟨y.at w2,fZ.2 (.inr ⟨y,hz,rfl⟩),rfl,hs⟩
  ·by_cases e:g=x.id
   ·subst e;simp only[if_true];constructor
    ·rintro⟨y,hy,SN,hs⟩;rcases fZ.1 hy with rfl|⟨z,hz,rfl⟩
     ·exact hs
     ·exact absurd SN (hne z hz)
    ·intro hs;exact⟨_,fZ.2 (.inl rfl),rfl,hs⟩
   ·simp only[e,if_false];constructor
    ·rintro⟨y,hy,rfl,hs⟩;rcases fZ.1 hy with rfl|⟨z,hz,rfl⟩
     ·exact absurd rfl e
     ·exact⟨z,bJ hz,rfl,hs⟩
    ·rintro⟨y,hy,rfl,hs⟩;rcases mF hy with rfl|hz
     ·exact absurd rfl e
     ·exact⟨y.at w2,fZ.2 (.inr ⟨y,hz,rfl⟩),rfl,hs⟩
 ·have lift:∀ {Q:X→Prop},Q { x with O:=own x.O w w2,g:=g2,w:=w2 }→(∀z∈l1++l2,Q (z.at w2))→∀y∈l1.map (X.at w2)++{ x with O:=own x.O w w2,g:=g2,w:=w2 }::l2.map (X.at w2),Q y:=fun h1 h2 y hy=>by
   rcases fZ.1 hy with rfl|⟨z,hz,rfl⟩
   ·exact h1
   ·exact h2 z hz
  refine⟨fun c hc=>⟨by have:=(h.geo.Ij c hc).1;omega,(h.geo.Ij c hc).2⟩,h.geo.dj0,lift (fun c hc=>?_) fun z hz c hc=>⟨by have:=(h.geo.lt z (bJ hz) c hc).1;omega,(h.geo.lt z (bJ hz) c hc).2⟩,
   lift (fun c hs ho=>?_) fun z hz=>h.geo.dj z (bJ hz),lift (fun c h0=>⟨(h.geo.mw x hx c h0).1,fun ho=>?_⟩) fun z hz=>h.geo.mw z (bJ hz),lift (fun c ho hs=>?_) fun z hz=>h.geo.wm z (bJ hz),
   lift (lift (fun e=>absurd rfl e) fun z hz he c ho=>?_) fun z hz=>lift (fun he c ho=>?_) fun z' hz' he c ho=>h.geo.ww z (bJ hz) z' (bJ hz') he c ho⟩
  ·rcases hc with hc|hc|hc
   ·have:=h.geo.lt x hx c (.inl hc);exact⟨by omega,this.2⟩
   ·have:=xO c hc;exact⟨by omega,this.2⟩
   ·exact⟨hc.2,by omega,by omega⟩
  ·rcases ho with ho|ho
   ·exact h.geo.dj x hx c hs ho
   ·have:=(h.geo.lt x hx c (.inl hs)).1;omega
  ·rcases ho with ho|ho
   ·exact(h.geo.mw x hx c h0).2 ho
   ·have:=(h.geo.Ij c (.inr h0)).1;omega
  ·rcases ho with ho|ho
   ·exact h.geo.wm x hx c ho hs
   ·have:=(h.geo.Ij c (.inl hs)).1;omega
  ·rcases ho with ho|ho
   ·exact h.geo.ww x hx z (bJ hz) he c ho
   ·have hz':=h.geo.lt z (bJ hz) c;exact⟨fun hs=>by have:=(hz' (.inl hs)).1;omega,fun hs=>by have:=(hz' (.inr hs)).1;omega⟩
  ·have:=h.geo.ww z (bJ hz) x hx he c ho;refine⟨this.1,fun hw=>hw.elim this.2 fun hn=>?_⟩;have:=(h.geo.lt z (bJ hz) c (.inr ho)).1;omega
 ·exact ch c0 ZY (fun c' hc'=>(xO c' hc').2.1) h.BR
 ·exact ch c1 ZX (fun c' hc'=>(xO c' hc').2.2) h.BQ
theorem Inv.replace(h:Inv P c0 c1 S0 O0 gm (l1++x::l2) gs w t q){x2:X}(hid:x2.id=x.id)(Qs:x2.S=x.S)(UH:x2.O=x.O)(Jn:WS P c0 c1 x2){w':ar}(hw2:x2.w=w'){gm':aB}{gs':Array aB}
  (g0:gs'[0]?=some gm') (gx:gs'[x.id]?=some x2.g) (gr:∀i,i≠0→i≠x.id→gs'[i]?=gs[i]?) (gz:gs'.size=gs.size)
  (hsz:w'.heap.size=w.heap.size) (S8:∀c,c≠c0→c≠c1→w'.heap[c]?=w.heap[c]?) (BR:Chan c0 w') (BQ:Chan c1 w') {t':Trace} (VE:PT (act (l1++x::l2)) (SL (l1++x::l2)) (OL (l1++x::l2)) w.heap.size t')
  (MU:∀i,Deaf t' i=Deaf t i) (Vy:∀g g' w',Chan c0 w'→Chan c1 w'→Conc.woken P g g' w' gm'=gm') (hst:gm'.status=.running∨gm'.status=.blocked) :
  Inv P c0 c1 S0 O0 gm' (l1.map (X.at w')++x2::l2.map (X.at w')) gs' w' t' q∧gW (fun c=>S0 c∨O0 c) w w':=by
 have hx:=mW (x:=x) (l1:=l1) (l2:=l2);have hne:=nJ h.nodup;have Gt:=h.slot x hx;have hrel:∀K:Nat→Prop,(∀c,K c→c≠c0∧c≠c1)→gW K w w':=fun K hK=>⟨by omega,fun c hc=>S8 c (hK c hc).1 (hK c hc).2⟩
 refine⟨⟨g0,?_,?_,?_,?_,?_,?_,?_,BR,BQ,h.ne,Vy,hst⟩,hrel _ fun c hc=>(h.geo.Ij c hc).2⟩
 ·intro y hy;rcases fZ.1 hy with rfl|⟨z,hz,rfl⟩
  ·exact⟨by rw[hid];exact gx,by rw[hid];exact Gt.2⟩
  ·have hs:=h.slot z (bJ hz);refine⟨?_,hs.2⟩;show gs'[z.id]?=_;rw[gr z.id (by have:=hs.2;omega) (hne z hz)];exact hs.1
 ·intro y hy;rcases fZ.1 hy with rfl|⟨z,hz,rfl⟩
  ·exact⟨Jn,hw2⟩
  ·have hs:=h.ws z (bJ hz);exact⟨hs.1.rely (by rw[hs.2];exact hrel _ fun c hc=>(h.geo.lt z (bJ hz) c hc).2),rfl⟩
 ·rw[Ou hid];exact h.nodup
 ·intro i g hi hg ha;have ha':¬act (l1++x::l2) i:=fun a=>ha ((CV hid).2 a);have hix:i≠x.id:=fun e=>ha' ⟨x,hx,e.symm⟩;rw[gr i (by omega) hix] at hg;rw[MU];exact h.old i g hi hg ha'
 ·intro j hj;rw[MU];exact h.above j (by omega)
 ·rw[hsz];refine VE.congr (fun g=>CV hid) (fun g hg c=>?_) fun g hg c=>?_
  ·constructor
   ·rintro⟨y,hy,rfl,hs⟩;rcases fZ.1 hy with rfl|⟨z,hz,rfl⟩
    ·exact⟨x,hx,hid.symm,by rw[←Qs];exact hs⟩
    ·exact⟨z,bJ hz,rfl,hs⟩
   ·rintro⟨y,hy,rfl,hs⟩;rcases mF hy with rfl|hz
    ·exact⟨_,fZ.2 (.inl rfl),hid,by rw[Qs];exact hs⟩
    ·exact⟨y.at w',fZ.2 (.inr ⟨y,hz,rfl⟩),rfl,hs⟩
  ·constructor
   ·rintro⟨y,hy,rfl,hs⟩;rcases fZ.1 hy with rfl|⟨z,hz,rfl⟩
    ·exact⟨x,hx,hid.symm,by rw[←UH];exact hs⟩
    ·exact⟨z,bJ hz,rfl,hs⟩
   ·rintro⟨y,hy,rfl,hs⟩;rcases mF hy with rfl|hz
    ·exact⟨_,fZ.2 (.inl rfl),hid,by rw[UH];exact hs⟩
    ·exact⟨y.at w',fZ.2 (.inr ⟨y,hz,rfl⟩),rfl,hs⟩
 ·rw[hsz]
  have lift:∀ {Q:X→Prop},Q x2→(∀z∈l1++l2,Q (z.at w'))→∀y∈l1.map (X.at w')++x2::l2.map (X.at w'),Q y:=fun h1 h2 y hy=>by
   rcases fZ.1 hy with rfl|⟨z,hz,rfl⟩
   ·exact h1
   ·exact h2 z hz
  refine⟨h.geo.Ij,h.geo.dj0,lift (by rw[Qs,UH];exact h.geo.lt x hx) fun z hz=>h.geo.lt z (bJ hz),lift (by rw[Qs,UH];exact h.geo.dj x hx) fun z hz=>h.geo.dj z (bJ hz),
   lift (by rw[Qs,UH];exact h.geo.mw x hx) fun z hz=>h.geo.mw z (bJ hz),lift (by rw[UH];exact h.geo.wm x hx) fun z hz=>h.geo.wm z (bJ hz),
   lift (lift (fun e=>absurd rfl e) fun z hz he=>?_) fun z hz=>lift (fun he=>?_) fun z' hz' he=>h.geo.ww z (bJ hz) z' (bJ hz') he⟩
  ·rw[UH];rw[hid] at he;exact h.geo.ww x hx z (bJ hz) he
  ·rw[UH,Qs];rw[hid] at he;exact h.geo.ww z (bJ hz) x hx he
theorem Inv.cut(h:Inv P c0 c1 S0 O0 gm (l1++x::l2) gs w t q){g2:aB}{n:Nat}(hq:QuitsD P n 0 g2){w':ar}{gm':aB}{gs':Array aB}
  (g0:gs'[0]?=some gm') (gx:gs'[x.id]?=some g2) (gr:∀i,i≠0→i≠x.id→gs'[i]?=gs[i]?) (gz:gs'.size=gs.size)
  (hsz:w'.heap.size=w.heap.size) (S8:∀c,c≠c0→c≠c1→w'.heap[c]?=w.heap[c]?) (BR:Chan c0 w') (BQ:Chan c1 w') {t':Trace} (VE:PT (fun g=>act (l1++x::l2) g∧g≠x.id) (SL (l1++x::l2)) (OL (l1++x::l2)) w.heap.size t')
  (MU:∀i,Deaf t' i=Deaf t i) (Vy:∀g g' w',Chan c0 w'→Chan c1 w'→Conc.woken P g g' w' gm'=gm') (hst:gm'.status=.running∨gm'.status=.blocked) :
  Inv P c0 c1 S0 O0 gm' (l1.map (X.at w')++l2.map (X.at w')) gs' w' t' (upd q x.id n)∧gW (fun c=>S0 c∨O0 c) w w':=by
 have hx:=mW (x:=x) (l1:=l1) (l2:=l2);have hne:=nJ h.nodup;have Gt:=h.slot x hx;have hrel:∀K:Nat→Prop,(∀c,K c→c≠c0∧c≠c1)→gW K w w':=fun K hK=>⟨by omega,fun c hc=>S8 c (hK c hc).1 (hK c hc).2⟩
 have Qq:∀g,act (l1.map (X.at w')++l2.map (X.at w')) g↔act (l1++x::l2) g∧g≠x.id:=by
  intro g;constructor
  ·rintro⟨y,hy,rfl⟩;obtain⟨z,hz,rfl⟩:=po.1 hy;exact⟨⟨z,bJ hz,rfl⟩,hne z hz⟩
  ·rintro⟨⟨y,hy,rfl⟩,hn⟩;rcases mF hy with rfl|hz
   ·exact absurd rfl hn
   ·exact⟨y.at w',po.2 ⟨y,hz,rfl⟩,rfl⟩
 refine⟨⟨g0,?_,?_,?_,?_,?_,?_,?_,BR,BQ,h.ne,Vy,hst⟩,hrel _ fun c hc=>(h.geo.Ij c hc).2⟩
 ·intro y hy;obtain⟨z,hz,rfl⟩:=po.1 hy;have hs:=h.slot z (bJ hz);refine⟨?_,hs.2⟩;show gs'[z.id]?=_;rw[gr z.id (by have:=hs.2;omega) (hne z hz)];exact hs.1
 ·intro y hy;obtain⟨z,hz,rfl⟩:=po.1 hy;have hs:=h.ws z (bJ hz);exact⟨hs.1.rely (by rw[hs.2];exact hrel _ fun c hc=>(h.geo.lt z (bJ hz) c hc).2),rfl⟩
 ·have e:(l1.map (X.at w')++l2.map (X.at w')).map X.id=l1.map X.id++l2.map X.id:=by simp only[fD,List.map_map];rfl
  rw[e];have:=h.nodup;simp only[fD,cK] at this;exact this.sublist (List.Sublist.append_left (List.sublist_cons_self _ _) _)
 ·intro i g hi hg ha
  by_cases hix:i=x.id
  ·subst hix;rw[gx] at hg;cases hg;rw[upd_same,MU,h.pt.sZ x.id ⟨x,hx,rfl⟩];exact hq
  ·have ha':¬act (l1++x::l2) i:=fun a=>ha ((Qq i).2 ⟨a,hix⟩);rw[gr i (by omega) hix] at hg;rw[MU,upd_ne q n hix];exact h.old i g hi hg ha'
 ·intro j hj;rw[MU];exact h.above j (by omega)
 ·rw[hsz];refine VE.congr Qq (fun g hg c=>?_) fun g hg c=>?_
  ·constructor
   ·rintro⟨y,hy,rfl,hs⟩;obtain⟨z,hz,rfl⟩:=po.1 hy;exact⟨z,bJ hz,rfl,hs⟩
   ·rintro⟨y,hy,rfl,hs⟩;rcases mF hy with rfl|hz
    ·exact absurd rfl hg.2
    ·exact⟨y.at w',po.2 ⟨y,hz,rfl⟩,rfl,hs⟩
  ·constructor
   ·rintro⟨y,hy,rfl,hs⟩;obtain⟨z,hz,rfl⟩:=po.1 hy;exact⟨z,bJ hz,rfl,hs⟩
   ·rintro⟨y,hy,rfl,hs⟩;rcases mF hy with rfl|hz
    ·exact absurd rfl hg.2
    ·exact⟨y.at w',po.2 ⟨y,hz,rfl⟩,rfl,hs⟩
 ·rw[hsz]
  have lift:∀ {Q:X→Prop},(∀z∈l1++l2,Q (z.at w'))→∀y∈l1.map (X.at w')++l2.map (X.at w'),Q y:=fun h2 y hy=>by
   obtain⟨z,hz,rfl⟩:=po.1 hy;exact h2 z hz
  exact⟨h.geo.Ij,h.geo.dj0,lift fun z hz=>h.geo.lt z (bJ hz),lift fun z hz=>h.geo.dj z (bJ hz),lift fun z hz=>h.geo.mw z (bJ hz),lift fun z hz=>h.geo.wm z (bJ hz),
   lift fun z hz=>lift fun z' hz' he=>h.geo.ww z (bJ hz) z' (bJ hz') he⟩
theorem PT.Q5{A:Nat→Prop}{S O:Nat→Nat→Prop}{B k:Nat}(h:PT A S O B t)(hk:¬A k)(hk0:k≠0)(hu:∀op∈u,op.g=k∧op.act.touch?=none∧op.act.low B):PT A S O B (t++u):=by
 have hn:=fun op hop=>(hu op hop).2.1;refine⟨Bz h.clean hn,fun i a c ha hc=>?_,fun g hg i a c ha hc hs hw=>?_,fun g hg i a c ha hc ho=>?_,fun i g h1 h2 h3=>?_,?_,fun g hg=>?_,seen_app h.seen fun op hop=>(hu op hop).2.2,h.pos⟩
 ·obtain⟨hi,ha'⟩:=eP hn ha;rcases h.known i a c ha' hc with hk|⟨g,hg,MO,Kq⟩
  ·exact .inl (hk.app u)
  ·exact .inr ⟨g,hg,g?_app MO,Kq⟩
 ·obtain⟨hi,ha'⟩:=eP hn ha;exact(h.wk g hg i a c ha' hc hs hw).app u
 ·obtain⟨hi,ha'⟩:=eP hn ha;exact g?_app (h.ow g hg i a c ha' hc ho)
 ·obtain⟨x,c,hx,_⟩:=zn h3;obtain⟨hi,_⟩:=eP hn hx;have MO:t.g? i=some g:=by rw[←g?_old (u:=u) hi];exact h1
  rcases h.over i g MO h2 (qV hi h3) with⟨j,hj,hb⟩|MP
  ·exact .inl ⟨j,g?_app hj,hb_app u hb⟩
  ·exact .inr MP
 ·rw[Deaf_other t hk0 u fun op hop=>(hu op hop).1];exact h.hears
 ·rw[Deaf_other t (g:=g) (g':=k) (fun e=>hk (by subst e;exact hg)) u fun op hop=>(hu op hop).1];exact h.sZ g hg
theorem Inv.slip(h:Inv P c0 c1 S0 O0 gm L gs w t q){i:Nat}{y:aB}(hi:gs[i]?=some y)(kg:0<i)(hrun:y.status=.running)(ha:¬act L i)(sl:Option (Nat × Nat)) :
  ∃gs' ops q',runT P (qD gs w sl) i=(.next (qD gs' w sl),ops)∧Inv P c0 c1 S0 O0 gm L gs' w (t++ops) q'∧gs'.size=gs.size∧sumTo gs.size q'<sumTo gs.size q:=by
 have hq:=h.old i y kg hi ha;have hi0:(i==0)=false:=by simp;omega
 have hlt:i<gs.size:=(ak.1 hi).1;cases YI:q i with
 |zero=>rw[YI] at hq;rw[hq.1] at hrun;cases hrun
 |succ k=>
  rw[YI] at hq;rcases hq with⟨hf,_⟩|⟨_,g',es,hm,YE,hq'⟩
  ·rw[hf] at hrun;cases hrun
  have jK:=Cr (P:=P) (sl:=sl) (i:=i) hi (by rw[hi0];exact YE w);rw[h.woken h.BR h.BQ] at jK
  have aeX:sumTo gs.size (upd q i k)+(k+1)=sumTo gs.size q+k:=by
   have:=sumTo_upd q k id hlt;simpa [YI] using this
  have Fx:∀op∈ic i y.frame.fn y.frame.place es,op.g=i∧op.act.touch?=none∧op.act.low w.heap.size:=fun op hop=>by
   obtain⟨e,he,rfl⟩:=A5 hop;exact⟨rfl,touch_mute (hm e he),low_mute (hm e he) _⟩
  refine⟨_,_,upd q i k,jK,⟨?_,fun x hx=>?_,h.ws,h.nodup,fun j z hj hz hna=>?_,fun j hj=>?_,h.pt.Q5 ha (by omega) Fx,h.geo,h.BR,h.BQ,h.ne,h.wk0,h.st0⟩,by simp,by omega⟩
  ·rw[aA (by omega)];exact h.zero
  ·have hne:i≠x.id:=fun e=>ha ⟨x,hx,e.symm⟩;rw[aA hne];exact h.slot x hx
  ·by_cases VM:i=j
   ·subst VM;rw[aZ hlt] at hz;obtain rfl:=bf hz;rw[upd_same,Deaf_own];exact hq'
   ·rw[aA VM] at hz;rw[upd_ne q k (A1 VM),Deaf_other t VM _ (fun op hop=>(Fx op hop).1)];exact h.old j z hj hz hna
  ·have hj':gs.size≤j:=by simpa using hj
   rw[Deaf_other t (g':=i) (by omega) _ (fun op hop=>(Fx op hop).1)];exact h.above j hj'
theorem Inv.Yq(h:Inv P c0 c1 S0 O0 gm L gs w t q){g2:aB}{w2:ar}{es:Array fP}(wK:Jk S0 O0 w w2 es)(hrun:g2.status=.running)(fn:dR)(pos:String) :
  Inv P c0 c1 S0 (own O0 w w2) g2 (L.map (X.at w2)) (gs.setIfInBounds 0 g2) w2 (t++ic 0 fn pos es) q:=by
 have hgrow:=wK.grow;have MN:0<gs.size:=h.size;have ZY:c0<w.heap.size:=by obtain⟨s,tm,e⟩:=h.BR;exact ey e
 have ZX:c1<w.heap.size:=by obtain⟨s,tm,e⟩:=h.BQ;exact ey e
 have RZ:∀c,own O0 w w2 c→c<w2.heap.size:=fun c hc=>by
  rcases hc with hc|hc
  ·have:=(h.geo.Ij c (.inr hc)).1;omega
  ·exact hc.2
 have X6:∀z∈L,gW (fun c=>z.S c∨z.O c) w w2:=fun z hz=>⟨hgrow,fun c hc=>wK.keep c (h.geo.lt z hz c hc).1 fun ho=>by
  have:=h.geo.mw z hz c ho;exact hc.elim this.1 this.2⟩
 have ch:∀c,c<w.heap.size→(∀c',O0 c'→c'≠c)→Chan c w→Chan c w2:=fun c hcl hno ⟨s,tm,e⟩=>⟨s,tm,by rw[wK.keep c hcl (fun ho=>hno c ho rfl)];exact e⟩
 have Fx:=Dz (k:=0) (fn:=fn) (pos:=pos) wK.evs (B:=w2.heap.size) fun c hc=>by
  rcases hc with hc|hc
  ·have:=(h.geo.Ij c (.inl hc)).1;omega
  ·exact RZ c hc
 have VE:=h.pt.app0 hgrow Fx
  (fun g ⟨y0,Ov,aeM⟩ c hc ⟨y,hy,Vw,ho⟩=>by
   rcases hc with hc|hc|hc
   ·exact h.geo.wm y hy c ho hc
   ·exact(h.geo.mw y hy c hc).2 ho
   ·have:=(h.geo.lt y hy c (.inr ho)).1;omega)
  (fun g ⟨y0,Ov,aeM⟩ c hc ⟨y,hy,Vw,hs⟩=>by
   rcases hc with hc|hc
   ·exact(h.geo.mw y hy c hc).1 hs
   ·have:=(h.geo.lt y hy c (.inl hs)).1;omega)
 have MU:∀i,Deaf (t++ic 0 fn pos es) i=Deaf t i:=fun i=>gX _ _ _ fun op hop=>(Fx op hop).2.2.1;refine⟨?_,fun y hy=>?_,fun y hy=>?_,by rw[SM];exact h.nodup,fun i g hi hg ha=>?_,fun j hj=>?_,?_,?_,ch c0 ZY (fun c' hc'=>(h.geo.Ij c' (.inr hc')).2.1) h.BR,ch c1 ZX (fun c' hc'=>(h.geo.Ij c' (.inr hc')).2.2) h.BQ,h.ne,fun g g' w' _ _=>woken_run hrun,.inl hrun⟩
 ·rw[aZ MN]
 ·obtain⟨x,hx,rfl⟩:=nK.1 hy;have hs:=h.slot x hx;refine⟨?_,hs.2⟩;show(gs.setIfInBounds 0 g2)[x.id]?=_;rw[aA (by have:=hs.2;omega)];exact hs.1
 ·obtain⟨x,hx,rfl⟩:=nK.1 hy;refine⟨(h.ws x hx).1.rely ?_,rfl⟩;rw[(h.ws x hx).2];exact X6 x hx
 ·rw[aA (by omega)] at hg;rw[MU];exact h.old i g hi hg fun a=>ha (Je.2 a)
 ·rw[MU];exact h.above j (by simpa using hj)
 ·exact VE.congr (fun g=>Je) (fun g _ c=>XP) fun g _ c=>XR
 ·have g1:=h.geo.at (w':=w2) hgrow;refine⟨fun c hc=>?_,fun c hs ho=>?_,g1.lt,g1.dj,fun x hx c ho=>?_,g1.wm,g1.ww⟩
  ·rcases hc with hc|hc|hc
   ·exact g1.Ij c (.inl hc)
   ·exact g1.Ij c (.inr hc)
   ·exact⟨hc.2,by omega,by omega⟩
  ·rcases ho with ho|ho
   ·exact h.geo.dj0 c hs ho
   ·have:=(h.geo.Ij c (.inl hs)).1;omega
  ·rcases ho with ho|ho
   ·exact g1.mw x hx c ho
   ·obtain⟨z,hz,rfl⟩:=nK.1 hx;exact⟨fun hs=>by have:=(h.geo.lt z hz c (.inl hs)).1;omega,fun hs=>by have:=(h.geo.lt z hz c (.inr hs)).1;omega⟩
theorem Inv.spawn(h:Inv P c0 c1 S0 O0 gm L gs w t q){g' child:aB}(hrun:g'.status=.running){Sk S' O':Nat→Prop}{b:Bool}{p:aj}(hSk:∀c,Sk c→S0 c∨O0 c)(LN:∀c,S' c→S0 c∨O0 c)(Zo:∀c,O' c→O0 c∧¬Sk c∧¬S' c)(hp:gD P c0 c1 Sk p b (fun _=>False) child w){y z:MemOp}
  (hy:y.g=0∧y.act=.go gs.size) (hz:z.g=gs.size∧z.act=.start) :
  Inv P c0 c1 S' O' g' (L++[⟨gs.size,Sk,p,b,fun _=>False,child,w⟩]) ((gs.setIfInBounds 0 g').push child) w (t++#[y,z]) q:=by
 have MN:0<gs.size:=h.size;have Kv:∀x∈L,x.id<gs.size:=fun x hx=>(ak.1 (h.slot x hx).1).1;have hna:¬act L gs.size:=fun⟨x,hx,e⟩=>by have:=Kv x hx;omega
 have hw:∀op∈#[y,z],nP op:=fun op hop=>by
  simp only[eF,bR,gh,or_false] at hop;rcases hop with rfl|rfl
  ·exact⟨by rw[hy.2];simp,by rw[hy.2];simp⟩
  ·exact⟨by rw[hz.2];simp,by rw[hz.2];simp⟩
 have MU:∀i,Deaf (t++#[y,z]) i=Deaf t i:=fun i=>gX _ _ _ hw;have hmem:∀ {x:X},x∈L++[⟨gs.size,Sk,p,b,fun _=>False,child,w⟩]↔x∈L∨x=⟨gs.size,Sk,p,b,fun _=>False,child,w⟩:=by intro x;simp
 have VE:=h.pt.spawn (ax _) hna (by omega) (h.above _ (ax _)) hy hz (Sk:=Sk) fun g ⟨x0,hx0,hg0⟩ c hc ⟨x,hx,Ir,ho⟩=>by
  rcases hSk c hc with hs|hs
  ·exact h.geo.wm x hx c ho hs
  ·exact(h.geo.mw x hx c hs).2 ho
 have acF:∀c,Sk c→c<w.heap.size∧c≠c0∧c≠c1:=fun c hc=>h.geo.Ij c (hSk c hc);refine⟨?_,fun x hx=>?_,fun x hx=>?_,?_,fun i g hi hg ha=>?_,fun j hj=>?_,?_,?_,h.BR,h.BQ,h.ne,fun g g' w' _ _=>woken_run hrun,.inl hrun⟩
 ·rw[Array.getElem?_push_lt (by simpa using MN)];simp
 ·rcases hmem.1 hx with hx|rfl
  ·have hs:=h.slot x hx;have:=Kv x hx;refine⟨?_,hs.2⟩;rw[kN];rw[if_neg (by simp;omega),aA (by have:=hs.2;omega)];exact hs.1
  ·refine⟨?_,MN⟩;rw[kN];simp
 ·rcases hmem.1 hx with hx|rfl
  ·exact h.ws x hx
  ·exact⟨.run hp,rfl⟩
 ·simp only[fD,cK,List.map_nil];rw[List.nodup_append];refine⟨h.nodup,by simp,fun a ha b hb e=>?_⟩;obtain⟨x,hx,rfl⟩:=dc.1 ha;simp only[lX] at hb;have:=Kv x hx;omega
 ·have hns:i≠gs.size:=fun e=>ha ⟨_,hmem.2 (.inr rfl),e.symm⟩;rw[kN,if_neg (by simp;omega),aA (by omega)] at hg;rw[MU];exact h.old i g hi hg fun⟨x,hx,e⟩=>ha ⟨x,hmem.2 (.inl hx),e⟩
 ·rw[MU];exact h.above j (by simp at hj;omega)
 ·refine VE.congr (fun g=>?_) (fun g hg c=>?_) fun g hg c=>?_
  ·constructor
   ·rintro⟨x,hx,rfl⟩;rcases hmem.1 hx with hx|rfl
    ·exact .inl ⟨x,hx,rfl⟩
    ·exact .inr rfl
   ·rintro(⟨x,hx,rfl⟩|rfl)
    ·exact⟨x,hmem.2 (.inl hx),rfl⟩
    ·exact⟨_,hmem.2 (.inr rfl),rfl⟩
  ·by_cases e:g=gs.size
   ·subst e;simp only[if_true];constructor
    ·rintro⟨x,hx,hxe,hs⟩;rcases hmem.1 hx with hx|rfl
     ·have:=Kv x hx;omega
     ·exact hs
    ·intro hs;exact⟨_,hmem.2 (.inr rfl),rfl,hs⟩
   ·simp only[e,if_false];constructor
    ·rintro⟨x,hx,rfl,hs⟩;rcases hmem.1 hx with hx|rfl
     ·exact⟨x,hx,rfl,hs⟩
     ·exact absurd rfl e
    ·rintro⟨x,hx,rfl,hs⟩;exact⟨x,hmem.2 (.inl hx),rfl,hs⟩
  ·by_cases e:g=gs.size
   ·subst e;simp only[if_true];constructor
    ·rintro⟨x,hx,hxe,hs⟩;rcases hmem.1 hx with hx|rfl
     ·have:=Kv x hx;omega
     ·exact hs
    ·intro hs;exact hs.elim
   ·simp only[e,if_false];constructor
    ·rintro⟨x,hx,rfl,hs⟩;rcases hmem.1 hx with hx|rfl
     ·exact⟨x,hx,rfl,hs⟩
     ·exact absurd rfl e
    ·rintro⟨x,hx,rfl,hs⟩;exact⟨x,hmem.2 (.inl hx),rfl,hs⟩
 ·have lift:∀ {Q:X→Prop},(∀x∈L,Q x)→Q ⟨gs.size,Sk,p,b,fun _=>False,child,w⟩→∀x∈L++[⟨gs.size,Sk,p,b,fun _=>False,child,w⟩],Q x:=fun h1 h2 x hx=>by
   rcases hmem.1 hx with hx|rfl
   ·exact h1 x hx
   ·exact h2
  refine⟨fun c hc=>h.geo.Ij c (hc.elim (LN c) fun h=>.inr (Zo c h).1),fun c hs ho=>(Zo c ho).2.2 hs,lift h.geo.lt fun c hc=>acF c (by simpa using hc),lift h.geo.dj fun c _ ho=>ho,lift (fun x hx c ho=>h.geo.mw x hx c (Zo c ho).1) fun c ho=>⟨(Zo c ho).2.1,fun hf=>hf⟩,
   lift (fun x hx c ho hs=>?_) fun c ho=>ho.elim,lift (fun x hx=>lift (fun x' hx' he c ho=>h.geo.ww x hx x' hx' he c ho) fun he c ho=>⟨fun hs=>?_,fun hf=>hf⟩) (lift (fun x hx he c ho=>ho.elim) fun he c ho=>ho.elim)⟩
  ·rcases LN c hs with hs|hs
   ·exact h.geo.wm x hx c ho hs
   ·exact(h.geo.mw x hx c hs).2 ho
  ·rcases hSk c hs with hs|hs
   ·exact h.geo.wm x hx c ho hs
   ·exact(h.geo.mw x hx c hs).2 ho
end
section
variable{α:Type}{D E:α→α→Prop}
theorem oI.CG{f:α→α}:∀l:List α,(∀x∈l,E (f x) x)→oI E (l.map f) l
 |[],_=>.nil
 |x::l,h=>.cons (h x (by simp)) (oI.CG l fun y hy=>h y (by simp[hy]))
theorem LT.Sv{f:α→α}{x x':α}(hd:D x' x){l2:List α}(h2:∀z∈l2,E (f z) z):∀ {l1:List α},(∀z∈l1,E (f z) z)→LT D E (l1.map f++x'::l2.map f) (l1++x::l2)
 |[],_=>.head hd (.CG l2 h2)
 |y::l,h=>.tail (h y (by simp)) (LT.Sv hd h2 fun z hz=>h z (by simp[hz]))
end
def zX(w:ar):(Nat→Question→Nat) × Os × Array (Nat × ByteArray):=(w.tape,w.os,w.output)
theorem Jk.zX{S O:Nat→Prop}{w w':ar}{es:Array fP}(h:Jk S O w w' es):Lag.zX w'=Lag.zX w:=by
 simp only[Lag.zX,h.tape,h.os,h.out]
def Goal(P:aI)(Fin:List aj→List aj→(Nat→Prop)→(Nat→Prop)→aB→ar→Prop)(gs:Array aB)(w:ar)(sl:Option (Nat × Nat))(t:Trace):Prop:=
 ∃N gs' g' w' sl' t' q' acc out S O,runNT P N (qD gs w sl) t=(.next (qD gs' w' sl'),t')∧Beside P gs' g' w' t' q'∧Fin acc out S O g' w'∧out.Perm acc∧zX w'=zX w∧w.heap.size≤w'.heap.size
def pend(L:List X):List Value:=(L.filter (·.b)).map (·.p)
structure AW(L:List X)(f m:Nat)(acc out:List aj):Prop where
 m:L.length=m
 f:(pend L).length=f
 perm:(out++pend L).Perm acc
section
variable{P:aI}{c0 c1:Nat}{z0 z1:aj}{Fin:List aj→List aj→(Nat→Prop)→(Nat→Prop)→aB→ar→Prop}{S0 O0:Nat→Prop}{gm:aB}{L l1 l2:List X}{x x2:X}{gs gs':Array aB}{w w':ar}{t:Trace}{q:Nat→Nat}
 {sl sl':Option (Nat × Nat)} {f m:Nat} {acc out:List aj} {ops:Array MemOp}
theorem Goal.step(h:stepT P (qD gs w sl)=(.next (qD gs' w' sl'),ops))(ht:zX w'=zX w)(hs:w.heap.size≤w'.heap.size)(hg:Goal P Fin gs' w' sl' (t++ops)):Goal P Fin gs w sl t:=by
 obtain⟨N,Zu,g2,w2,X4,t2,q2,acc,out,S,O,h1,h2,h3,h4,h5,h6⟩:=hg;exact⟨N+1,Zu,g2,w2,X4,t2,q2,acc,out,S,O,by simp only[runNT,h];exact h1,h2,h3,h4,h5.trans ht,Nat.le_trans hs h6⟩
theorem qb(a b:List X):pend (a++b)=pend a++pend b:=by simp[pend]
theorem qL(a:List X):pend (a.map (X.at w))=pend a:=by
 induction a with
 |nil=>rfl
 |cons y a ih=>
  unfold pend at ih ⊢;simp only[cK,List.filter_cons];have e:(X.at w y).b=y.b:=rfl;rw[e];cases y.b
  ·simpa using ih
  ·simp only[if_true,cK,ih];rfl
theorem pG(a:List X):pend (x::a)=(if x.b then[x.p] else[])++pend a:=by
 unfold pend;cases h:x.b<;>simp[List.filter_cons,h]
theorem Va:∀L:List X,(pend L).length≤L.length:=by
 intro L;unfold pend;rw[List.length_map];exact List.length_filter_le _ _
theorem AW.mem(h:AW (l1++x::l2) f m acc out)(hb:x.b=true):x.p∈acc:=by
 refine h.perm.mem_iff.1 ?_;simp[pend,hb]
theorem AW.le(h:AW L f m acc out):f≤m:=by rw[←h.m,←h.f];exact Va L
theorem AW.at(h:AW L f m acc out)(w:ar):AW (L.map (X.at w)) f m acc out:=⟨by simpa using h.m,by rw[qL];exact h.f,by rw[qL];exact h.perm⟩
theorem AW.mid(h:AW (l1++x::l2) f m acc out)(hb:x2.b=x.b)(hp:x2.p=x.p)(w:ar):AW (l1.map (X.at w)++x2::l2.map (X.at w)) f m acc out:=by
 have e:pend (l1.map (X.at w)++x2::l2.map (X.at w))=pend (l1++x::l2):=by
  rw[qb,qb,pG,pG,qL,qL,hb,hp]
 exact⟨by have:=h.m;simp at this ⊢;exact this,by rw[e];exact h.f,by rw[e];exact h.perm⟩
theorem AW.found(h:AW (l1++x::l2) f m acc out)(hb:x.b=true)(hb2:x2.b=false)(w:ar):∃f',f=f'+1∧AW (l1.map (X.at w)++x2::l2.map (X.at w)) f' m acc (out++[x.p]):=by
 have e:pend (l1.map (X.at w)++x2::l2.map (X.at w))=pend l1++pend l2:=by
  rw[qb,pG,qL,qL,hb2];simp
 have e2:pend (l1++x::l2)=pend l1++x.p::pend l2:=by rw[qb,pG,hb];simp
 have hf:=h.f;rw[e2] at hf;simp only[List.length_append,List.length_cons] at hf;refine⟨(pend l1).length+(pend l2).length,by omega,by have:=h.m;simp at this ⊢;exact this,by rw[e];simp,?_⟩;rw[e];refine List.Perm.trans ?_ h.perm;rw[e2];simp only[List.append_assoc];refine List.Perm.append_left out ?_;show(x.p::(pend l1++pend l2)).Perm _;exact List.perm_middle.symm
theorem AW.last(h:AW (l1++x::l2) f (m+1) acc out)(hb:x.b=false)(w:ar):AW (l1.map (X.at w)++l2.map (X.at w)) f m acc out:=by
 have e:pend (l1.map (X.at w)++l2.map (X.at w))=pend (l1++x::l2):=by
  rw[qb,qb,pG,qL,qL,hb];simp
 exact⟨by have:=h.m;simp at this ⊢;omega,by rw[e];exact h.f,by rw[e];exact h.perm⟩
theorem AW.more(h:AW L f m acc out):AW (L++[x]) (f+x.b.toNat) (m+1) (acc++if x.b then[x.p] else[]) out:=by
 have e:pend (L++[x])=pend L++(if x.b then[x.p] else[]):=by rw[qb,pG];simp[pend]
 refine⟨by have:=h.m;simp;exact this,?_,?_⟩
 ·rw[e];have:=h.f;cases x.b<;>simp[this]
 ·rw[e,←List.append_assoc];exact h.perm.append_right _
theorem T7(h:WS P c0 c1 x):Acc (Dn P c0) x:=by
 cases h with
 |run h=>exact AQ P c0 c1 h x.id
 |@tQ g hb ha hp he=>
  have h2:gD P c0 c1 x.S x.p true x.O g x.w:=.Be ha hp;have xA:=AQ P c0 c1 h2 x.id;refine xA.inv (.yF ha ?_);refine⟨x.w,.refl _ _,?_⟩;rw[←he,←hb];rfl
 |@tP g n hb ha hq he=>
  have h2:gD P c0 c1 x.S x.p false x.O g x.w:=.Bd ha hq;have xA:=AQ P c0 c1 h2 x.id;refine xA.inv (.yF ha ?_);refine⟨x.w,.refl _ _,?_⟩;rw[←he,←hb];rfl
theorem Inv.Ym(h:Inv P c0 c1 S0 O0 gm L gs w t q)(hrun:gm.status≠.blocked)(i c:Nat):wA (gs.setIfInBounds i ph) c false=[]:=by
 refine partners_nil fun j y hy=>?_;rcases getElem?_stand gs i j y hy with⟨_,rfl⟩|⟨_,hy⟩
 ·exact offersAt_ph _ _
 ·rcases iJ j with rfl|kg
  ·rw[h.zero] at hy;cases hy;exact mf hrun _ _
  ·by_cases ha:act L j
   ·obtain⟨x,hx,rfl⟩:=ha;rw[(h.slot x hx).1] at hy;cases hy;cases(h.ws x hx).1 with
    |run hp=>exact mf (by rw[hp.running];simp) _ _
    |tQ _ _ _ e=>rw[e];exact offersAt_parked_send' _ _ _ _ _ _
    |tP _ _ _ e=>rw[e];exact offersAt_parked_send' _ _ _ _ _ _
   ·exact mf (by rcases(h.old j y kg hy ha).status with e|e<;>rw[e]<;>simp) _ _
theorem wE(hw:x.w=w){w2:ar}(hr:gW (fun c=>x.S c∨x.O c) w w2):Sh (x.at w2) x:=⟨w2,by rw[hw];exact hr,rfl⟩
theorem Inv.yF(h:Inv P c0 c1 S0 O0 gm (l1++x::l2) gs w t q)(hrun:gm.status=.running){c:Nat}{v:aj}(ha:AtSend P c v x.g)(hc:c=c0∨c=c1)(Jn:WS P c0 c1 { x with g:=ia x.g #[nj c v zS] .send })(sl:Option (Nat × Nat)) :
  ∃gs',runT P (qD gs w sl) x.id=(.next (qD gs' w sl),#[])∧Inv P c0 c1 S0 O0 gm (l1.map (X.at w)++{ x with g:=ia x.g #[nj c v zS] .send }::l2.map (X.at w)) gs' w t q:=by
 have hx:=mW (x:=x) (l1:=l1) (l2:=l2);have hs:=h.slot x hx;have hlt:x.id<gs.size:=(ak.1 hs.1).1;have hch:Chan c w:=hc.elim (fun e=>e▸h.BR) fun e=>e▸h.BQ;obtain⟨s,tm,hch⟩:=hch;have hid:(x.id==0)=false:=by have:=hs.2;simp;omega
 have jK:=crowd_waits (P:=P) (sl:=sl) hs.1 (show eM P (x.id==0) x.g w=_ by rw[hid];exact ha.2.2.2 w) (fun cc hcc=>by
  simp only[eF,lX] at hcc;subst hcc
  exact ways_send_none hch (Nat.zero_le _) (h.Ym (by rw[hrun];simp) _ _))
 refine⟨_,jK,?_⟩
 have:=(h.replace (x2:={ x with g:=ia x.g #[nj c v zS] .send }) rfl rfl rfl Jn (h.ws x hx).2 (w':=w) (gm':=gm) (gs':=gs.setIfInBounds x.id (ia x.g #[nj c v zS] .send)) (t':=t)
  (by rw[aA (by have:=hs.2;omega)];exact h.zero) (aZ hlt) (fun i _ hi=>aA (A1 hi)) (by simp) rfl (fun _ _ _=>rfl) h.BR h.BQ h.pt (fun _=>rfl) h.wk0 h.st0).1
 exact this
theorem xl{wn:ar}(hrun:gm.status=.running)
  (ab9:∀L gs w sl t q,Inv P c0 c1 S0 O0 gm L gs w t q→AW L f m acc out→gW (fun c=>S0 c∨O0 c) wn w→∃gs' w' ops,runT P (qD gs w sl) 0=(.next (qD gs' w' sl),ops)∧zX w'=zX w∧w.heap.size≤w'.heap.size∧Goal P Fin gs' w' sl (t++ops)) :
  ∀L gs w sl t q,Inv P c0 c1 S0 O0 gm L gs w t q→AW L f m acc out→gW (fun c=>S0 c∨O0 c) wn w→Goal P Fin gs w sl t:=by
 have key:∀L,Acc (LT (Dn P c0) Sh) L→∀M L0 gs w sl t q,oI Sh L0 L→sumTo gs.size q=M→Inv P c0 c1 S0 O0 gm L0 gs w t q→AW L0 f m acc out→gW (fun c=>S0 c∨O0 c) wn w→Goal P Fin gs w sl t:=by
  intro L hL
  induction hL with
  |intro L _ ihL=>
   intro M
   induction M using Nat.strongRecOn with
   |ind M ihM=>
    intro L0 gs w sl t q Xh hM hinv oy hrel;obtain⟨i,y,d1,C5,hi,hy,hst⟩:=crowd_pick (P:=P) (w:=w) (sl:=sl) hinv.awake ⟨0,gm,hinv.zero,hrun⟩;have eG:=hinv.draw (w':=w.at d1) rfl;have r9:=oy.at (w.at d1);have wJ:gW (fun c=>S0 c∨O0 c) wn (w.at d1):=hrel.trans (rT rfl);have Iy:oI Sh (L0.map (X.at (w.at d1))) L:=(oI.CG (f:=X.at (w.at d1)) L0 fun z hz=>wE (w2:=w.at d1) (hinv.ws z hz).2 (rT rfl)).trans oh Xh;rcases iJ i with rfl|kg
    ·obtain⟨gs',w',ops,h1,h2,h3,h4⟩:=ab9 _ gs (w.at d1) C5 t q eG r9 wJ;exact Goal.step (hst.trans h1) h2 h3 h4
    ·by_cases ha:act (L0.map (X.at (w.at d1))) i
     ·obtain⟨x,hx,rfl⟩:=ha;obtain⟨l1,l2,xp⟩:=List.append_of_mem hx;rw[xp] at eG r9 Iy;have SQ:=mW (x:=x) (l1:=l1) (l2:=l2);have Qf:=eG.slot x SQ;rw[Qf.1] at hi;have hyx:x.g=y:=bf hi;subst hyx;have hxw:=(eG.ws x SQ).2;have hid:(x.id==0)=false:=by simp;omega
      cases(eG.ws x SQ).1 with
      |tQ _ _ _ e=>rw[e] at hy;cases hy
      |tP _ _ _ e=>rw[e] at hy;cases hy
      |run hp=>
       obtain⟨id,S,p,b,O,g,wx⟩:=x;dsimp only at hp hxw hy Qf hid;subst hxw;cases hp with
       |step hr hd Ks Gw=>
        obtain⟨g2,w2,es,he,wK,hr2,hd2⟩:=Ks (w.at d1) (.refl _ _);have hwp:=Gw (w.at d1) (.refl _ _) g2 w2 es he;have jK:=Cr (P:=P) (sl:=C5) (i:=id) Qf.1 (by rw[hid];exact he);obtain⟨kW,uU⟩:=eG.Rq wK hwp g.frame.fn g.frame.place;rw[eG.woken kW.BR kW.BQ] at jK
        have hlt:=LT.Sv (D:=Dn P c0) (E:=Sh) (f:=X.at w2) (x:=⟨id,S,p,b,O,g,w.at d1⟩) (x':=⟨id,S,p,b,own O (w.at d1) w2,g2,w2⟩) (.step (w1:=w.at d1) (w2:=w2) (g2:=g2) (es:=es) hr (.refl _ _) he (lY _)) (l2:=l2)
         (fun z hz=>wE (eG.ws z (bJ (bH.2 (.inr hz)))).2 (by
          refine⟨wK.grow,fun c hc=>wK.keep c (eG.geo.lt z (bJ (bH.2 (.inr hz))) c hc).1 fun ho=>?_⟩;have hh:=eG.geo.ww _ SQ z (bJ (bH.2 (.inr hz))) (fun e=>nJ eG.nodup z (bH.2 (.inr hz)) e.symm) c ho
          exact hc.elim hh.1 hh.2)) (l1:=l1)
         (fun z hz=>wE (eG.ws z (bJ (bH.2 (.inl hz)))).2 (by
          refine⟨wK.grow,fun c hc=>wK.keep c (eG.geo.lt z (bJ (bH.2 (.inl hz))) c hc).1 fun ho=>?_⟩;have hh:=eG.geo.ww _ SQ z (bJ (bH.2 (.inl hz))) (fun e=>nJ eG.nodup z (bH.2 (.inl hz)) e.symm) c ho
          exact hc.elim hh.1 hh.2))
        refine Goal.step (hst.trans jK) wK.zX wK.grow ?_;exact ihL _ (hlt.shift oh (Ep P c0) Iy) _ _ _ _ _ _ q (.refl lY _) rfl kW (r9.mid (x2:=⟨id,S,p,b,own O (w.at d1) w2,g2,w2⟩) rfl rfl w2) (wJ.trans uU)
       |@Be _ _ _ ha hp2=>
        obtain⟨gs',h1,h2⟩:=eG.yF hrun ha (.inl rfl) (.tQ rfl ha hp2 rfl) C5;refine Goal.step (hst.trans h1) rfl (ax _) ?_
        have hlt:=LT.Sv (D:=Dn P c0) (E:=Sh) (f:=X.at (w.at d1)) (x:=⟨id,S,p,true,O,g,w.at d1⟩) (x':=⟨id,S,p,true,O,ia g #[nj c0 p zS] .send,w.at d1⟩) (.yF ha (lY _)) (l2:=l2)
         (fun z hz=>wE (eG.ws z (bJ (bH.2 (.inr hz)))).2 (.refl _ _)) (l1:=l1) (fun z hz=>wE (eG.ws z (bJ (bH.2 (.inl hz)))).2 (.refl _ _))
        rw[dS];exact ihL _ (hlt.shift oh (Ep P c0) Iy) _ _ _ _ _ _ q (.refl lY _) rfl h2 (r9.mid (x2:=⟨id,S,p,true,O,ia g #[nj c0 p zS] .send,w.at d1⟩) rfl rfl _) wJ
       |@Bd _ _ _ n ha hq=>
        obtain⟨gs',h1,h2⟩:=eG.yF hrun ha (.inr rfl) (.tP rfl ha hq rfl) C5;refine Goal.step (hst.trans h1) rfl (ax _) ?_
        have hlt:=LT.Sv (D:=Dn P c0) (E:=Sh) (f:=X.at (w.at d1)) (x:=⟨id,S,p,false,O,g,w.at d1⟩) (x':=⟨id,S,p,false,O,ia g #[nj c1 (.bool true) zS] .send,w.at d1⟩) (.yF ha (lY _)) (l2:=l2)
         (fun z hz=>wE (eG.ws z (bJ (bH.2 (.inr hz)))).2 (.refl _ _)) (l1:=l1) (fun z hz=>wE (eG.ws z (bJ (bH.2 (.inl hz)))).2 (.refl _ _))
        rw[dS];exact ihL _ (hlt.shift oh (Ep P c0) Iy) _ _ _ _ _ _ q (.refl lY _) rfl h2 (r9.mid (x2:=⟨id,S,p,false,O,ia g #[nj c1 (.bool true) zS] .send,w.at d1⟩) rfl rfl _) wJ
     ·obtain⟨gs',ops,q',h1,h2,h3,h4⟩:=eG.slip hi kg hy ha C5;refine Goal.step (hst.trans h1) rfl (ax _) ?_;exact ihM _ (by rw[h3,←hM];exact h4) _ _ _ _ _ q' Iy rfl h2 r9 wJ
 intro L gs w sl t q hinv oy hrel;exact key L (EU lY oh (Ep P c0) L fun x hx=>T7 (hinv.ws x hx).1) _ L gs w sl t q (.refl lY _) rfl hinv oy hrel
end
section
variable{P:aI}{c0 c1:Nat}{z0 z1:aj}{Fin:List aj→List aj→(Nat→Prop)→(Nat→Prop)→aB→ar→Prop}{S0 O0:Nat→Prop}{gm:aB}{L l1 l2:List X}{x x2:X}{gs gs':Array aB}{w w':ar}{t u:Trace}{q:Nat→Nat}
 {sl sl':Option (Nat × Nat)} {f m:Nat} {acc out:List aj} {ops:Array MemOp}
theorem JK(w:ar)(d c s:Nat)(tm:Bool){x:Obj}(hc:w.heap[c]?=some x):((w.at d).setChan c 0 #[] false s s tm).heap[c]?=some (.chan 0 #[] false s s tm):=by
 show((w.heap).setIfInBounds c _)[c]?=_;exact aZ (ey hc)
theorem sO(w:ar)(d c s:Nat)(tm:Bool){b:Nat}(hb:b≠c):((w.at d).setChan c 0 #[] false s s tm).heap[b]?=w.heap[b]?:=by
 show((w.heap).setIfInBounds c _)[b]?=_;exact aA (A1 hb)
theorem j7(w:ar)(d c s:Nat)(tm:Bool):((w.at d).setChan c 0 #[] false s s tm).heap.size=w.heap.size:=by
 show((w.heap).setIfInBounds c _).size=_;simp
theorem zq{c c' s:Nat}{tm:Bool}(d:Nat)(hc:w.heap[c]?=some (.chan 0 #[] false s s tm))(h:Chan c' w):Chan c' ((w.at d).setChan c 0 #[] false (s+1) (s+1) tm):=by
 by_cases e:c'=c
 ·subst e;exact⟨s+1,tm,JK w d c' (s+1) tm hc⟩
 ·obtain⟨s',tm',h⟩:=h;exact⟨s',tm',by rw[sO w d c (s+1) tm e];exact h⟩
theorem Inv.found(h:Inv P c0 c1 S0 O0 gm (l1++x::l2) gs w t q){g2:aB}(hp:gD P c0 c1 x.S x.p false x.O g2 x.w){s:Nat}{tm:Bool}(hc:w.heap[c0]?=some (.chan 0 #[] false s s tm))(d:Nat){gm':aB}(hrun:gm'.status=.running)
  (g0:gs'[0]?=some gm') (gx:gs'[x.id]?=some g2) (gr:∀i,i≠0→i≠x.id→gs'[i]?=gs[i]?) (gz:gs'.size=gs.size) (hu:G7 x.id c0 s u) :
  Inv P c0 c1 S0 O0 gm' (l1.map (X.at ((w.at d).setChan c0 0 #[] false (s+1) (s+1) tm))++{ x with b:=false,g:=g2,w:=(w.at d).setChan c0 0 #[] false (s+1) (s+1) tm }::l2.map (X.at ((w.at d).setChan c0 0 #[] false (s+1) (s+1) tm))) gs' ((w.at d).setChan c0 0 #[] false (s+1) (s+1) tm) (t++u) q∧
   gW (fun c=>S0 c∨O0 c) w ((w.at d).setChan c0 0 #[] false (s+1) (s+1) tm):=by
 have hx:=mW (x:=x) (l1:=l1) (l2:=l2);have S4:=hu.mute (B':=w.heap.size) (ey hc)
 refine h.replace (x2:={ x with b:=false,g:=g2,w:=(w.at d).setChan c0 0 #[] false (s+1) (s+1) tm }) rfl rfl rfl (.run (hp.rely _ _ _ ?_)) rfl g0 gx gr gz (j7 ..) (fun c hc0 _=>sO w d c0 (s+1) tm hc0) (zq d hc h.BR) (zq d hc h.BQ)
  (h.pt.aaY (ax _) hu (ey hc) ⟨x,hx,rfl⟩ fun g=>by simp) (fun i=>gX _ _ _ fun op hop=>(S4 op hop).2.1) (fun g g' w' _ _=>woken_run hrun) (.inl hrun)
 rw[(h.ws x hx).2];exact⟨Nat.le_of_eq (j7 w d c0 (s+1) tm).symm,fun c hcc=>sO w d c0 (s+1) tm (h.geo.lt x hx c hcc).2.1⟩
theorem Inv.last(h:Inv P c0 c1 S0 O0 gm (l1++x::l2) gs w t q){g2:aB}{n:Nat}(hq:QuitsD P n 0 g2){s:Nat}{tm:Bool}(hc:w.heap[c1]?=some (.chan 0 #[] false s s tm))(d:Nat){gm':aB}(hrun:gm'.status=.running)
  (g0:gs'[0]?=some gm') (gx:gs'[x.id]?=some g2) (gr:∀i,i≠0→i≠x.id→gs'[i]?=gs[i]?) (gz:gs'.size=gs.size) (hu:G7 x.id c1 s u) :
  Inv P c0 c1 S0 O0 gm' (l1.map (X.at ((w.at d).setChan c1 0 #[] false (s+1) (s+1) tm))++l2.map (X.at ((w.at d).setChan c1 0 #[] false (s+1) (s+1) tm))) gs' ((w.at d).setChan c1 0 #[] false (s+1) (s+1) tm) (t++u) (upd q x.id n)∧
   gW (fun c=>S0 c∨O0 c) w ((w.at d).setChan c1 0 #[] false (s+1) (s+1) tm):=by
 have hx:=mW (x:=x) (l1:=l1) (l2:=l2);have S4:=hu.mute (B':=w.heap.size) (ey hc)
 exact h.cut hq g0 gx gr gz (j7 ..) (fun c _ hc1=>sO w d c1 (s+1) tm hc1) (zq d hc h.BR) (zq d hc h.BQ)
  (h.pt.Ps (ax _) hu (ey hc) ⟨x,hx,rfl⟩) (fun i=>gX _ _ _ fun op hop=>(S4 op hop).2.1) (fun g g' w' _ _=>woken_run hrun) (.inl hrun)
theorem CA{i j:Nat}(UC:j≠i)(hi:i<gs.size)(hj:j<gs.size)(a b:aB):((gs.setIfInBounds j a).setIfInBounds i b)[i]?=some b∧((gs.setIfInBounds j a).setIfInBounds i b)[j]?=some a∧(∀k,k≠i→k≠j→((gs.setIfInBounds j a).setIfInBounds i b)[k]?=gs[k]?)∧((gs.setIfInBounds j a).setIfInBounds i b).size=gs.size:=by
 refine⟨aZ (by simpa using hi),?_,fun k h1 h2=>?_,by simp⟩
 ·rw[aA (A1 UC),aZ hj]
 ·rw[aA (A1 h1),aA (A1 h2)]
theorem DG(hne:c0≠c1)(g:aB):offersAt (ia g (jN c0 c1 z0 z1) .select) c0 false=[0]∧offersAt (ia g (jN c0 c1 z0 z1) .select) c1 false=[1]:=by
 have hb:(c1==c0)=false:=beq_eq_false_iff_ne.2 (A1 hne);have hb':(c0==c1)=false:=beq_eq_false_iff_ne.2 hne;constructor<;>simp[offersAt,ia,jN,rcase,hne,A1 hne]
theorem Inv.Ob(h:Inv P c0 c1 S0 O0 (ia gm (jN c0 c1 z0 z1) .select) L gs w t q){i:Nat}(hi:i≠0){c k:Nat}(ho:offersAt (ia gm (jN c0 c1 z0 z1) .select) c false=[k]):wA (gs.setIfInBounds i ph) c false=[(0,k)]:=by
 have h0:(gs.setIfInBounds i ph)[0]?=some (ia gm (jN c0 c1 z0 z1) .select):=by rw[aA hi];exact h.zero
 rw[partners_one h0 fun j y hj hy=>?_,ho]
 ·rfl
 ·rcases getElem?_stand gs i j y hy with⟨_,rfl⟩|⟨_,hy⟩
  ·exact offersAt_ph _ _
  ·by_cases ha:act L j
   ·obtain⟨x,hx,rfl⟩:=ha;rw[(h.slot x hx).1] at hy;cases hy;cases(h.ws x hx).1 with
    |run hp=>exact mf (by rw[hp.running];simp) _ _
    |tQ _ _ _ e=>rw[e];exact offersAt_parked_send' _ _ _ _ _ _
    |tP _ _ _ e=>rw[e];exact offersAt_parked_send' _ _ _ _ _ _
   ·exact mf (by rcases(h.old j y (by omega) hy ha).status with e|e<;>rw[e]<;>simp) _ _
theorem JB{wn:ar}
  (H0:∀v f',f=f'+1→v∈acc→∀w,gW (fun c=>S0 c∨O0 c) wn w→∀L gs sl t q,Inv P c0 c1 S0 O0 (ik P c0 c1 z0 z1 gm 0 v) L gs w t q→AW L f' (m+1) acc (out++[v])→Goal P Fin gs w sl t)
  (H1:f≤m→∀w,gW (fun c=>S0 c∨O0 c) wn w→∀L gs sl t q,Inv P c0 c1 S0 O0 (ik P c0 c1 z0 z1 gm 1 (.bool true)) L gs w t q→AW L f m acc out→Goal P Fin gs w sl t) :
  ∀L gs w sl t q,Inv P c0 c1 S0 O0 (ia gm (jN c0 c1 z0 z1) .select) L gs w t q→AW L f (m+1) acc out→gW (fun c=>S0 c∨O0 c) wn w→(∀x∈L,x.g.status=.running)→Goal P Fin gs w sl t:=by
 have key:∀L,Acc (LT (Dn P c0) Sh) L→∀M L0 gs w sl t q,oI Sh L0 L→sumTo gs.size q=M→Inv P c0 c1 S0 O0 (ia gm (jN c0 c1 z0 z1) .select) L0 gs w t q→AW L0 f (m+1) acc out→gW (fun c=>S0 c∨O0 c) wn w→(∀x∈L0,x.g.status=.running)→Goal P Fin gs w sl t:=by
  intro L hL
  induction hL with
  |intro L _ ihL=>
   intro M
   induction M using Nat.strongRecOn with
   |ind M ihM=>
    intro L0 gs w sl t q Xh hM hinv oy hrel hun
    obtain⟨x0,hx0⟩:∃x,x∈L0:=by
     cases L0 with
     |nil=>have:=oy.m;simp at this
     |cons a l=>exact⟨a,by simp⟩
    obtain⟨i,y,d1,C5,hi,hy,hst⟩:=crowd_pick (P:=P) (w:=w) (sl:=sl) hinv.awake ⟨x0.id,x0.g,(hinv.slot x0 hx0).1,hun x0 hx0⟩;have eG:=hinv.draw (w':=w.at d1) rfl;have r9:=oy.at (w.at d1);have wJ:gW (fun c=>S0 c∨O0 c) wn (w.at d1):=hrel.trans (rT rfl)
    have YC:∀x∈L0.map (X.at (w.at d1)),x.g.status=.running:=fun x hx=>by
     obtain⟨z,hz,rfl⟩:=nK.1 hx;exact hun z hz
    have Iy:oI Sh (L0.map (X.at (w.at d1))) L:=(oI.CG (f:=X.at (w.at d1)) L0 fun z hz=>wE (w2:=w.at d1) (hinv.ws z hz).2 (rT rfl)).trans oh Xh;rcases iJ i with rfl|kg
    ·rw[hinv.zero] at hi;cases hi;cases hy
    ·by_cases ha:act (L0.map (X.at (w.at d1))) i
     ·obtain⟨x,hx,rfl⟩:=ha;obtain⟨l1,l2,xp⟩:=List.append_of_mem hx;rw[xp] at eG r9 Iy YC;have SQ:=mW (x:=x) (l1:=l1) (l2:=l2);have Qf:=eG.slot x SQ;rw[Qf.1] at hi;have hyx:x.g=y:=bf hi;subst hyx;have hxw:=(eG.ws x SQ).2;have hid:(x.id==0)=false:=by simp;omega
      have YX:x.id<gs.size:=(ak.1 Qf.1).1;have Qu:0<gs.size:=hinv.size;cases(eG.ws x SQ).1 with
      |tQ _ _ _ e=>rw[e] at hy;cases hy
      |tP _ _ _ e=>rw[e] at hy;cases hy
      |run hp=>
       obtain⟨id,S,p,b,O,g,wx⟩:=x;dsimp only at hp hxw hy Qf hid YX kg;subst hxw;cases hp with
       |step hr hd Ks Gw=>
        obtain⟨g2,w2,es,he,wK,hr2,hd2⟩:=Ks (w.at d1) (.refl _ _);have hwp:=Gw (w.at d1) (.refl _ _) g2 w2 es he;have jK:=Cr (P:=P) (sl:=C5) (i:=id) Qf.1 (by rw[hid];exact he);obtain⟨kW,uU⟩:=eG.Rq wK hwp g.frame.fn g.frame.place;rw[eG.woken kW.BR kW.BQ] at jK
        have hlt:=LT.Sv (D:=Dn P c0) (E:=Sh) (f:=X.at w2) (x:=⟨id,S,p,b,O,g,w.at d1⟩) (x':=⟨id,S,p,b,own O (w.at d1) w2,g2,w2⟩) (.step (w1:=w.at d1) (w2:=w2) (g2:=g2) (es:=es) hr (.refl _ _) he (lY _)) (l2:=l2)
         (fun z hz=>wE (eG.ws z (bJ (bH.2 (.inr hz)))).2 (by
          refine⟨wK.grow,fun c hc=>wK.keep c (eG.geo.lt z (bJ (bH.2 (.inr hz))) c hc).1 fun ho=>?_⟩;have hh:=eG.geo.ww _ SQ z (bJ (bH.2 (.inr hz))) (fun e=>nJ eG.nodup z (bH.2 (.inr hz)) e.symm) c ho
          exact hc.elim hh.1 hh.2)) (l1:=l1)
         (fun z hz=>wE (eG.ws z (bJ (bH.2 (.inl hz)))).2 (by
          refine⟨wK.grow,fun c hc=>wK.keep c (eG.geo.lt z (bJ (bH.2 (.inl hz))) c hc).1 fun ho=>?_⟩;have hh:=eG.geo.ww _ SQ z (bJ (bH.2 (.inl hz))) (fun e=>nJ eG.nodup z (bH.2 (.inl hz)) e.symm) c ho
          exact hc.elim hh.1 hh.2))
        refine Goal.step (hst.trans jK) wK.zX wK.grow ?_;refine ihL _ (hlt.shift oh (Ep P c0) Iy) _ _ _ _ _ _ q (.refl lY _) rfl kW (r9.mid (x2:=⟨id,S,p,b,own O (w.at d1) w2,g2,w2⟩) rfl rfl w2) (wJ.trans uU) fun z hz=>?_;rcases fZ.1 hz with rfl|⟨z',hz',rfl⟩
        ·exact hr2
        ·exact YC z' (bJ hz')
       |@Be _ _ _ ha hp2=>
        obtain⟨s,tm,hch⟩:=eG.BR;have S7:=crowd_send_meets_sel (P:=P) (sl:=C5) (j:=0) (k:=0) (gj:=gm) (cs:=jN c0 c1 z0 z1) (shj:=.select) (zj:=z0) Qf.1 (show eM P (id==0) g (w.at d1)=_ by rw[hid];exact ha.2.2.2 (w.at d1)) hch (by omega) eG.zero rfl (eG.Ob (by omega) (DG eG.ne gm).1);obtain⟨e1,e2,e3,e4⟩:=CA (gs:=gs) (i:=id) (j:=0) (by omega) YX Qu (ik P c0 c1 z0 z1 gm 0 p) (eN g af);obtain⟨f',hf',yY⟩:=r9.found (x2:=⟨id,S,p,false,O,eN g af,(w.at d1).setChan c0 0 #[] false (s+1) (s+1) tm⟩) rfl rfl ((w.at d1).setChan c0 0 #[] false (s+1) (s+1) tm)
        obtain⟨kW,uU⟩:=eG.found (g2:=eN g af) hp2 hch d1 (gm':=ik P c0 c1 z0 z1 gm 0 p) rfl e2 e1 (fun i h1 h2=>e3 i h2 h1) e4 (u:=#[{ g:=id,fn:=g.frame.fn,pos:=g.frame.place,act:=.send c0 s },{ g:=0,fn:=gm.frame.fn,pos:=gm.frame.place,act:=.recv c0 s 0 },{ g:=id,fn:=g.frame.fn,pos:=g.frame.place,act:=.sendDone c0 s },{ g:=0,fn:=gm.frame.fn,pos:=gm.frame.place,act:=.recvDone c0 s }])
         ⟨_,_,_,_,_,_,_,_,_,rfl⟩
        refine Goal.step (hst.trans S7) rfl (Nat.le_of_eq (j7 w d1 c0 (s+1) tm).symm) ?_;exact H0 p f' hf' (r9.mem (x:=⟨id,S,p,true,O,g,w.at d1⟩) rfl) _ (wJ.trans uU) _ _ _ _ q kW yY
       |@Bd _ _ _ n ha hq=>
        obtain⟨s,tm,hch⟩:=eG.BQ;have S7:=crowd_send_meets_sel (P:=P) (sl:=C5) (j:=0) (k:=1) (gj:=gm) (cs:=jN c0 c1 z0 z1) (shj:=.select) (zj:=z1) Qf.1 (show eM P (id==0) g (w.at d1)=_ by rw[hid];exact ha.2.2.2 (w.at d1)) hch (by omega) eG.zero rfl (eG.Ob (by omega) (DG eG.ne gm).2);obtain⟨e1,e2,e3,e4⟩:=CA (gs:=gs) (i:=id) (j:=0) (by omega) YX Qu (ik P c0 c1 z0 z1 gm 1 (.bool true)) (eN g af);have yY:=r9.last rfl ((w.at d1).setChan c1 0 #[] false (s+1) (s+1) tm)
        obtain⟨kW,uU⟩:=eG.last (g2:=eN g af) hq hch d1 (gm':=ik P c0 c1 z0 z1 gm 1 (.bool true)) rfl e2 e1 (fun i h1 h2=>e3 i h2 h1) e4 (u:=#[{ g:=id,fn:=g.frame.fn,pos:=g.frame.place,act:=.send c1 s },{ g:=0,fn:=gm.frame.fn,pos:=gm.frame.place,act:=.recv c1 s 0 },{ g:=id,fn:=g.frame.fn,pos:=g.frame.place,act:=.sendDone c1 s },{ g:=0,fn:=gm.frame.fn,pos:=gm.frame.place,act:=.recvDone c1 s }])
         ⟨_,_,_,_,_,_,_,_,_,rfl⟩
        refine Goal.step (hst.trans S7) rfl (Nat.le_of_eq (j7 w d1 c1 (s+1) tm).symm) ?_;exact H1 yY.le _ (wJ.trans uU) _ _ _ _ _ kW yY
     ·obtain⟨gs',ops,q',h1,h2,h3,h4⟩:=eG.slip hi kg hy ha C5;refine Goal.step (hst.trans h1) rfl (ax _) ?_;exact ihM _ (by rw[h3,←hM];exact h4) _ _ _ _ _ q' Iy rfl h2 r9 wJ YC
 intro L gs w sl t q hinv oy hrel hun;exact key L (EU lY oh (Ep P c0) L fun x hx=>T7 (hinv.ws x hx).1) _ L gs w sl t q (.refl lY _) rfl hinv oy hrel hun
end
section
variable{P:aI}{c0 c1:Nat}{z0 z1:aj}{Fin:List aj→List aj→(Nat→Prop)→(Nat→Prop)→aB→ar→Prop}{S0 O0:Nat→Prop}{gm:aB}{L l1 l2:List X}{x x2:X}{gs gs':Array aB}{w w':ar}{t u:Trace}{q:Nat→Nat}
 {sl sl':Option (Nat × Nat)} {f m:Nat} {acc out:List aj} {ops:Array MemOp}
theorem Inv.N6(h:Inv P c0 c1 S0 O0 gm L gs w t q){c j k:Nat}(hjk:(j,k)∈wA (gs.setIfInBounds 0 ph) c true) :
  k=0∧j≠0∧∃x∈L,x.id=j∧((c=c0∧x.b=true∧∃g,AtSend P c0 x.p g∧gD P c0 c1 x.S x.p false x.O (eN g af) x.w∧x.g=ia g #[nj c0 x.p zS] .send)∨
   (c=c1∧x.b=false∧∃g n,AtSend P c1 (.bool true) g∧QuitsD P n 0 (eN g af)∧x.g=ia g #[nj c1 (.bool true) zS] .send)):=by
 obtain⟨g,hg,hk⟩:=mem_partners.1 hjk;rcases getElem?_stand gs 0 j g hg with⟨_,rfl⟩|⟨hj,hg⟩
 ·rw[offersAt_ph] at hk;cases hk
 ·by_cases ha:act L j
  ·obtain⟨x,hx,rfl⟩:=ha;rw[(h.slot x hx).1] at hg;cases hg;cases(h.ws x hx).1 with
   |run hp=>rw[mf (by rw[hp.running];simp)] at hk;cases hk
   |@tQ g hb ha hp e=>
    rw[e,offersAt_parked_send] at hk;split at hk
    ·rename_i hc;simp only[lX] at hk;exact⟨hk,hj,x,hx,rfl,.inl ⟨hc.symm,hb,g,ha,hp,e⟩⟩
    ·cases hk
   |@tP g n hb ha hq e=>
    rw[e,offersAt_parked_send] at hk;split at hk
    ·rename_i hc;simp only[lX] at hk;exact⟨hk,hj,x,hx,rfl,.inr ⟨hc.symm,hb,g,n,ha,hq,e⟩⟩
    ·cases hk
  ·rw[mf (by rcases(h.old j g (by omega) hg ha).status with e|e<;>rw[e]<;>simp)] at hk;cases hk
theorem Ge{g gj:aB}{a b:Array CommCase}{sh sh':CommShape}(h:ia g a sh=ia gj b sh'):eN gj af=eN g undef:=by
 have h1:g.frame=gj.frame:=by have:=congrArg Goroutine.frame h;exact this
 have h2:g.callers=gj.callers:=by have:=congrArg Goroutine.callers h;exact this
 have h3:g.dying=gj.dying:=by have:=congrArg Goroutine.dying h;exact this
 unfold eN;rw[h1,h2,h3]
theorem yE{g gj:aB}{a b:Array CommCase}{sh sh':CommShape}(h:ia g a sh=ia gj b sh'):a=b∧sh=sh':=by
 have:(ia g a sh).offers=(ia gj b sh').offers:=by rw[h]
 simpa [ia] using this
theorem Gh{c c':Nat}{v v' z z':aj}(h:nj c v z=nj c' v' z'):c=c'∧v=v':=by
 simp only[nj,CommCase.mk.injEq,Value.chan.injEq,gq] at h;exact⟨h.1,h.2.1⟩
theorem PU{g:aB}{wn:ar}(h:eW P c0 c1 z0 z1 Fin f m acc out S0 O0 g wn) :
  ∀w,gW (fun c=>S0 c∨O0 c) wn w→∀L gs sl t q,Inv P c0 c1 S0 O0 g L gs w t q→AW L f m acc out→Goal P (fun acc out S O g w=>Fin acc out S O g w∧Chan c0 w∧Chan c1 w) gs w sl t:=by
 induction h with
 |@fin acc out S O g wn hs ru=>
  intro w hr L gs sl t q hinv oy;have hL:L=[]:=List.eq_nil_of_length_eq_zero oy.m;subst hL;have hno:∀g,¬act [] g:=fun g ⟨x,hx,_⟩=>by cases hx
  refine⟨0,gs,g,w,sl,t,q,acc,out,S,O,rfl,⟨hinv.zero,⟨fun i y hi hy=>hinv.old i y hi hy (hno i),hinv.above⟩,hinv.pt.past hno⟩,⟨ru w hr,hinv.BR,hinv.BQ⟩,?_,rfl,ax _⟩;have:=oy.perm;simpa [pend] using this
 |@step f m acc out S O g wn hr hd Ks Gw ih=>
  intro w hrel L gs sl t q hinv oy;refine xl (f:=f) (m:=m) (acc:=acc) (out:=out) (wn:=wn) hr (fun L gs w sl t q hinv oy hrel=>?_) L gs w sl t q hinv oy hrel;obtain⟨g2,w2,es,he,wK,hr2,hd2⟩:=Ks w hrel;have kW:=hinv.Yq wK hr2 g.frame.fn g.frame.place;have jK:=Cr (P:=P) (sl:=sl) (i:=0) hinv.zero (show eM P (0==0) g w=_ from he);rw[hinv.woken kW.BR kW.BQ] at jK;exact⟨_,_,_,jK,wK.zX,wK.grow,ih w hrel g2 w2 es he w2 (.refl _ _) _ _ sl _ q kW (oy.at w2)⟩
 |@spawn f m acc out S O Sk S' O' g g' child wn b p hgo hr2 hcr hSk hp LN Zo hm ih=>
  intro w hrel L gs sl t q hinv oy;refine xl (f:=f) (m:=m) (acc:=acc) (out:=out) (wn:=wn) hgo.1 (fun L gs w sl t q hinv oy hrel=>?_) L gs w sl t q hinv oy hrel;have jK:=runT_crowd_spawn (P:=P) (sl:=sl) (i:=0) hinv.zero (show eM P (0==0) g w=_ from hgo.2.2 w);have hpw:gD P c0 c1 Sk p b (fun _=>False) child w:=hp.rely _ _ _ ⟨hrel.grow,fun c hc=>hrel.keep c (hSk c (by simpa using hc))⟩;have kW:=hinv.spawn hr2 hSk LN Zo hpw (y:={ g:=0,fn:=g.frame.fn,pos:=g.frame.place,act:=.go gs.size }) (z:={ g:=gs.size,fn:=child.frame.fn,pos:=g.frame.place,act:=.start }) ⟨rfl,rfl⟩ ⟨rfl,rfl⟩;refine⟨_,_,_,jK,rfl,ax _,?_⟩;exact ih w ⟨hrel.grow,fun c hc=>hrel.keep c (hc.elim (LN c) fun h=>.inr (Zo c h).1)⟩ _ _ sl _ q kW (oy.more (x:=⟨gs.size,Sk,p,b,fun _=>False,child,w⟩))
 |@select f m acc out S O g wn VC h0 h1 ih0 Ux=>
  intro w hrel L gs sl t q hinv oy;refine xl (f:=f) (m:=m+1) (acc:=acc) (out:=out) (wn:=wn) VC.1 (fun L gs w sl t q hinv oy hrel=>?_) L gs w sl t q hinv oy hrel;have hst:eM P (0==0) g w=.comm g #[rcase c0 z0,rcase c1 z1] true .select w #[]:=VC.2.2.2 w;have Qu:0<gs.size:=hinv.size;obtain⟨s0,tm0,hc0⟩:=hinv.BR;obtain⟨s1,tm1,hc1⟩:=hinv.BQ
  by_cases hno:wA (gs.setIfInBounds 0 ph) c0 true=[]∧wA (gs.setIfInBounds 0 ph) c1 true=[]
  ·
   have jK:=crowd_waits (P:=P) (sl:=sl) hinv.zero hst (fun cc hcc=>by
    simp only[eF,bR,gh,or_false] at hcc;rcases hcc with rfl|rfl
    ·exact ways_recv_none hc0 hno.1
    ·exact ways_recv_none hc1 hno.2)
   have hun:∀x∈L,x.g.status=.running:=fun x hx=>by
    have hs:=hinv.slot x hx;have hmem:∀c k,k∈offersAt x.g c true→(x.id,k)∈wA (gs.setIfInBounds 0 ph) c true:=fun c k hk=>mem_partners.2 ⟨x.g,by rw[aA (by have:=hs.2;omega)];exact hs.1,hk⟩;cases(hinv.ws x hx).1 with
    |run hp=>exact hp.running
    |tQ _ _ _ e=>
     have:=hmem c0 0 (by rw[e,offersAt_parked_send];simp);rw[hno.1] at this;cases this
    |tP _ _ _ e=>
     have:=hmem c1 0 (by rw[e,offersAt_parked_send];simp);rw[hno.2] at this;cases this
   have kW:Inv P c0 c1 S O (ia g (jN c0 c1 z0 z1) .select) L (gs.setIfInBounds 0 (ia g (jN c0 c1 z0 z1) .select)) w t q:=by
    refine⟨aZ Qu,fun x hx=>⟨?_,(hinv.slot x hx).2⟩,hinv.ws,hinv.nodup,fun i y hi hy ha=>?_,fun j hj=>hinv.above j (by simpa using hj),hinv.pt,hinv.geo,hinv.BR,hinv.BQ,hinv.ne,fun a a' w' hw0 hw1=>?_,.inr rfl⟩
    ·rw[aA (by have:=(hinv.slot x hx).2;omega)];exact(hinv.slot x hx).1
    ·rw[aA (by omega)] at hy;exact hinv.old i y hi hy ha
    ·have hag:(ia g (jN c0 c1 z0 z1) .select).again w'=ia g (jN c0 c1 z0 z1) .select:=by
      refine again_all_open fun cc hcc=>?_;obtain⟨s,tm,e0⟩:=hw0;obtain⟨s',tm',e1⟩:=hw1;simp only[jN,eF,bR,gh,or_false] at hcc;rcases hcc with rfl|rfl
      ·exact⟨c0,z0,0,#[],s,s,tm,rfl,e0⟩
      ·exact⟨c1,z1,0,#[],s',s',tm',rfl,e1⟩
     unfold Conc.woken;split
     ·exact hag
     ·rfl
   refine⟨_,_,_,jK,rfl,ax _,?_⟩;exact JB (P:=P) (f:=f) (m:=m) (acc:=acc) (out:=out) (wn:=wn) (fun v f' e hv w hr=>ih0 v f' e hv w hr) (fun hf w hr=>Ux hf w hr) L _ w sl _ q (by rw[show t++ic 0 g.frame.fn g.frame.place #[]=t from dS ..];exact kW) oy hrel hun
  ·
   obtain⟨kk,c,s,r,tm,j,gj,vj,zj,shj,d,Eb,hj0,hgj,jK⟩:=FH (P:=P) (sl:=sl) hinv.zero hst hc0 hc1
    (by
     rcases Classical.em (wA (gs.setIfInBounds 0 ph) c0 true=[]) with e|e
     ·exact .inr fun e'=>hno ⟨e,e'⟩
     ·exact .inl e)
    (fun c hc j k hjk=>by
     obtain⟨hk,hj,x,hx,rfl,Kq⟩:=hinv.N6 hjk;refine⟨hk,hj,?_⟩;have hs:=(hinv.slot x hx).1;rcases Kq with⟨rfl,_,g',_,_,e⟩|⟨rfl,_,g',_,_,_,e⟩
     ·exact⟨g',x.p,zS,.send,by rw[hs,e]⟩
     ·exact⟨g',.bool true,zS,.send,by rw[hs,e]⟩)
   have hcc:c=c0∨c=c1:=by rcases Eb with⟨_,h,_⟩|⟨_,h,_⟩<;>simp[h]
   have acf:j<gs.size:=(ak.1 hgj).1;have hmem:(j,0)∈wA (gs.setIfInBounds 0 ph) c true:=mem_partners.2 ⟨_,by rw[aA (A1 hj0)];exact hgj,by rw[offersAt_parked_send];simp⟩;obtain⟨_,_,x,hx,rfl,Kq⟩:=hinv.N6 hmem
   have Ir:x.g=ia gj #[nj c vj zj] shj:=by
    have:=(hinv.slot x hx).1;rw[hgj] at this;exact(bf this).symm
   obtain⟨l1,l2,xp⟩:=List.append_of_mem hx;subst xp;rcases Kq with⟨rfl,hb,g',ha,hp,e⟩|⟨rfl,hb,g',n,ha,hq,e⟩
   ·rw[e] at Ir;obtain⟨e1,e2⟩:=yE Ir;have e3:nj c x.p zS=nj c vj zj:=by simpa using e1
    obtain⟨_,rfl⟩:=Gh e3;subst e2
    have hk0:kk=0∧s=s0∧r=s0∧tm=tm0:=by
     rcases Eb with⟨h1,_,h2,h3,h4⟩|⟨_,h1,_⟩
     ·exact⟨h1,h2,h3,h4⟩
     ·exact absurd h1 hinv.ne
    obtain⟨rfl,rfl,rfl,rfl⟩:=hk0
    have ru:gj.finishComm P #[nj c x.p zj] .send 0 af false=eN g' undef:=by
     rw[finishComm_send];exact Ge Ir
    rw[ru] at jK;obtain⟨g1,g2,g3,g4⟩:=CA (gs:=gs) (i:=0) (j:=x.id) hj0 Qu acf (eN g' af) (ik P c c1 z0 z1 g 0 x.p)
    obtain⟨kW,uU⟩:=hinv.found (g2:=eN g' af) hp hc0 d (gm':=ik P c c1 z0 z1 g 0 x.p) rfl g1 g2 (fun i a b=>g3 i a b) g4 (u:=#[{ g:=x.id,fn:=gj.frame.fn,pos:=gj.frame.place,act:=.send c r },{ g:=0,fn:=g.frame.fn,pos:=g.frame.place,act:=.recv c r 0 },{ g:=x.id,fn:=gj.frame.fn,pos:=gj.frame.place,act:=.sendDone c r },{ g:=0,fn:=g.frame.fn,pos:=g.frame.place,act:=.recvDone c r }])
     ⟨_,_,_,_,_,_,_,_,_,rfl⟩
    obtain⟨f',hf',yY⟩:=oy.found (x2:={ x with b:=false,g:=eN g' af,w:=(w.at d).setChan c 0 #[] false (r+1) (r+1) tm }) hb rfl ((w.at d).setChan c 0 #[] false (r+1) (r+1) tm);exact⟨_,_,_,jK,rfl,Nat.le_of_eq (j7 w d c (r+1) tm).symm,ih0 x.p f' hf' (oy.mem hb) _ (hrel.trans uU) _ _ sl _ q kW yY⟩
   ·rw[e] at Ir;obtain⟨e1,e2⟩:=yE Ir;have e3:nj c (.bool true) zS=nj c vj zj:=by simpa using e1
    obtain⟨_,rfl⟩:=Gh e3;subst e2
    have hk0:kk=1∧s=s1∧r=s1∧tm=tm1:=by
     rcases Eb with⟨_,h1,_⟩|⟨h1,_,h2,h3,h4⟩
     ·exact absurd h1.symm hinv.ne
     ·exact⟨h1,h2,h3,h4⟩
    obtain⟨rfl,rfl,rfl,rfl⟩:=hk0
    have ru:gj.finishComm P #[nj c (.bool true) zj] .send 0 af false=eN g' undef:=by
     rw[finishComm_send];exact Ge Ir
    rw[ru] at jK;obtain⟨g1,g2,g3,g4⟩:=CA (gs:=gs) (i:=0) (j:=x.id) hj0 Qu acf (eN g' af) (ik P c0 c z0 z1 g 1 (.bool true))
    obtain⟨kW,uU⟩:=hinv.last (g2:=eN g' af) hq hc1 d (gm':=ik P c0 c z0 z1 g 1 (.bool true)) rfl g1 g2 (fun i a b=>g3 i a b) g4 (u:=#[{ g:=x.id,fn:=gj.frame.fn,pos:=gj.frame.place,act:=.send c r },{ g:=0,fn:=g.frame.fn,pos:=g.frame.place,act:=.recv c r 0 },{ g:=x.id,fn:=gj.frame.fn,pos:=gj.frame.place,act:=.sendDone c r },{ g:=0,fn:=g.frame.fn,pos:=g.frame.place,act:=.recvDone c r }])
     ⟨_,_,_,_,_,_,_,_,_,rfl⟩
    have yY:=oy.last hb ((w.at d).setChan c 0 #[] false (r+1) (r+1) tm);exact⟨_,_,_,jK,rfl,Nat.le_of_eq (j7 w d c (r+1) tm).symm,Ux yY.le _ (hrel.trans uU) _ _ sl _ _ kW yY⟩
theorem Hx(hne:c0≠c1){g:aB}{w:ar}(h:eW P c0 c1 z0 z1 Fin 0 0 [] [] S0 O0 g w)(hg:g.status=.running)(hc0:Chan c0 w)(hc1:Chan c1 w)(afD:∀c,S0 c∨O0 c→c<w.heap.size∧c≠c0∧c≠c1)(LK:∀c,S0 c→¬O0 c) :
  qs P (fun g' w'=>∃acc out S O,(Fin acc out S O g' w'∧Chan c0 w'∧Chan c1 w')∧out.Perm acc∧w.heap.size≤w'.heap.size∧w'.os=w.os∧w'.output=w.output) g w:=by
 intro τ d gs sl t q hb;have hrel:gW (fun c=>S0 c∨O0 c) w (dr w τ d):=⟨ax _,fun _ _=>rfl⟩
 have hinv:Inv P c0 c1 S0 O0 g [] gs (dr w τ d) t q:=by
  refine⟨hb.zero,fun x hx=>(by cases hx),fun x hx=>(by cases hx),List.nodup_nil,fun i y hi hy _=>hb.old.old i y hi hy,hb.old.above,?_,?_,hc0,hc1,hne,fun _ _ _ _ _=>woken_run hg,.inl hg⟩
  ·exact(PT.Vg (S:=SL []) (O:=OL []) hb.past).congr (fun g=>⟨fun⟨x,hx,_⟩=>(by cases hx),fun h=>h.elim⟩) (fun g hg=>hg.elim) fun g hg=>hg.elim
  ·exact⟨afD,LK,fun x hx=>by(cases hx),fun x hx=>by(cases hx),fun x hx=>by(cases hx),fun x hx=>by(cases hx),fun x hx=>by(cases hx)⟩
 obtain⟨N,gs',g',w',sl',t',q',acc,out,S,O,h1,h2,h3,h4,h5,h6⟩:=PU h _ hrel [] gs sl t q hinv ⟨rfl,rfl,by simp[pend]⟩;refine⟨N,gs',g',w',w'.drawn,sl',t',q',?_,h2,acc,out,S,O,h3,h4,h6,congrArg (·.2.1) h5,congrArg (·.2.2) h5⟩;rw[h1]
 have:w'=dr w' τ w'.drawn:=by
  have e:w'.tape=τ:=congrArg (·.1) h5;cases w';simp only at e;subst e;rfl
 rw[←this]
end
end Go.Lag
namespace Go.Proofs.YtffladgmkiimjaaGreatDoor
open Go.Lag
theorem RN:Tryz.prog.funcs.all (fun fn=>fn.body.all dP)=true:=by kernel_rfl
theorem U6:Tryz.prog.follows .staticDataAhead=true:=by kernel_rfl
theorem N9:Tryz.prog.funcs.all (fun fn=>!(fn.name == "runtime.NumGoroutine"))=true:=by kernel_rfl
end Go.Proofs.YtffladgmkiimjaaGreatDoor
namespace Go.Lag
section
variable{P:aI}
theorem vL(s:String):Calm P Any (Extern.RuntimeError.text s):=trivial
theorem vN{α:Type}{Q:α→Prop}{c:Prop}[Decidable c]{t:c→Sem α}{e:¬c→Sem α}(ht:∀h,Calm P Q (t h))(he:∀h,Calm P Q (e h)):Calm P Q (dite c t e):=by
 split
 ·exact ht _
 ·exact he _
theorem Wl(o:Option String)(f:String→String):Calm P Any (match o with|some fmt=>Extern.RuntimeError.text (f fmt)|none=>stuck "boundsError: no such code"):=by
 cases o
 ·exact bA
 ·exact vL _
theorem Ax(args):Calm P Any (Extern.RuntimeError.boundsError args):=by
 unfold Extern.RuntimeError.boundsError
 delta Extern.RuntimeError.boundsError.match_2
 refine vN (c:=args.size=1) (fun h=>?_) fun h=>bA;obtain⟨l⟩:=args
 match l,h with
 |[a],h=>
  cases a with
  |agg cs=>
   refine vN (c:=cs.size=4) (fun h=>?_) fun h=>bA;obtain⟨l⟩:=cs
   match l,h with
   |[x0,x1,x2,x3],h=>
    cases x0 with
    |int _ _=>
     cases x1 with
     |int _ _=>
      cases x2 with
      |bool _=>
       cases x3 with
       |int _ _=>exact Wl _ _
       |_=>exact bA
      |_=>exact bA
     |_=>exact bA
    |_=>exact bA
  |_=>exact bA
theorem vh(v):Calm P Any (Extern.RuntimeError.described v):=by
 unfold Extern.RuntimeError.described
 repeat' (first
   |with_reducible exact tu ..|with_reducible exact jr ..|with_reducible exact kC ..|with_reducible exact tG ..|with_reducible exact mL ..|with_reducible exact qo ..|with_reducible exact eU ..|with_reducible exact cC|with_reducible exact tD|with_reducible exact bA|with_reducible exact dJ|with_reducible exact kn|with_reducible exact tF|with_reducible exact ql|with_reducible exact sx
   |with_reducible exact qm|with_reducible exact tv|with_reducible exact qZ|with_reducible exact qY|with_reducible exact kY|with_reducible exact jm|with_reducible exact m7|with_reducible exact oG
   |with_reducible exact(kX rfl)|with_reducible exact(iC rfl)
   |(with_reducible assumption)|(with_reducible apply mG;exact rfl)|(with_reducible refine qi ?_ (fun o ho=>by cases o<;>first|rfl|(revert ho;simp[fL];done)))|(refine j0 (fun _ _=>?_) ?_)|(refine aP ?_ (fun _=>?_))|(refine vg ?_)|(refine pN (fun _=>?_) _)|(refine jh (fun _ _=>?_) _ _)|(refine lz (fun _ _=>?_) _ _)|(refine ly (fun _ _=>?_) _ _)|split|intro _|dsimp only|trivial)
theorem EE(i):Calm P Any (Extern.RuntimeError.pkgpathOf i):=by
 unfold Extern.RuntimeError.pkgpathOf
 repeat' (first
   |with_reducible exact tu ..|with_reducible exact jr ..|with_reducible exact kC ..|with_reducible exact tG ..|with_reducible exact mL ..|with_reducible exact qo ..|with_reducible exact eU ..|with_reducible exact cC|with_reducible exact tD|with_reducible exact bA|with_reducible exact dJ|with_reducible exact kn|with_reducible exact tF|with_reducible exact ql|with_reducible exact sx
   |with_reducible exact qm|with_reducible exact tv|with_reducible exact qZ|with_reducible exact qY|with_reducible exact kY|with_reducible exact jm|with_reducible exact m7|with_reducible exact oG
   |with_reducible exact(kX rfl)|with_reducible exact(iC rfl)
   |(with_reducible assumption)|(with_reducible apply mG;exact rfl)|(with_reducible refine qi ?_ (fun o ho=>by cases o<;>first|rfl|(revert ho;simp[fL];done)))|(refine j0 (fun _ _=>?_) ?_)|(refine aP ?_ (fun _=>?_))|(refine vg ?_)|(refine pN (fun _=>?_) _)|(refine jh (fun _ _=>?_) _ _)|(refine lz (fun _ _=>?_) _ _)|(refine ly (fun _ _=>?_) _ _)|split|intro _|dsimp only|trivial)
theorem su(args):Calm P Any (Extern.RuntimeError.typeAssertionError args):=by
 unfold Extern.RuntimeError.typeAssertionError
 repeat' (first
   |with_reducible exact tu ..|with_reducible exact jr ..|with_reducible exact kC ..|with_reducible exact tG ..|with_reducible exact mL ..|with_reducible exact qo ..|with_reducible exact eU ..|with_reducible exact vL ..|with_reducible exact vh ..|with_reducible exact EE ..|with_reducible exact cC|with_reducible exact tD|with_reducible exact bA|with_reducible exact dJ|with_reducible exact kn|with_reducible exact tF|with_reducible exact ql|with_reducible exact sx
   |with_reducible exact qm|with_reducible exact tv|with_reducible exact qZ|with_reducible exact qY|with_reducible exact kY|with_reducible exact jm|with_reducible exact m7|with_reducible exact oG
   |with_reducible exact(kX rfl)|with_reducible exact(iC rfl)
   |(with_reducible assumption)|(with_reducible apply mG;exact rfl)|(with_reducible refine qi ?_ (fun o ho=>by cases o<;>first|rfl|(revert ho;simp[fL];done)))|(refine j0 (fun _ _=>?_) ?_)|(refine aP ?_ (fun _=>?_))|(refine vg ?_)|(refine pN (fun _=>?_) _)|(refine jh (fun _ _=>?_) _ _)|(refine lz (fun _ _=>?_) _ _)|(refine ly (fun _ _=>?_) _ _)|split|intro _|dsimp only|trivial)
theorem TW(o:Option TypeInfo):Calm P Any (match o with|some t=>Extern.RuntimeError.text ("hash of unhashable type: "++t.str)|_=>runtimePanic RuntimeError.nilDeref):=by
 cases o
 ·exact eU _
 ·exact vL _
theorem rB(args):Calm P Any (Extern.RuntimeError.unhashableTypeError args):=by
 unfold Extern.RuntimeError.unhashableTypeError
 delta Extern.RuntimeError.unhashableTypeError.match_1
 refine vN (c:=args.size=1) (fun h=>?_) fun h=>bA;obtain⟨l⟩:=args
 match l,h with
 |[a],h=>
  cases a with
  |agg cs=>
   refine vN (c:=cs.size=1) (fun h=>?_) fun h=>bA;obtain⟨l⟩:=cs
   match l,h with
   |[x0],h=>exact aP (vh _) fun o=>TW o
  |_=>exact bA
structure WA(P:aI)(e:Option (Array aj→Sem aj)):Prop where
 ok:∀x,e=some x→∀args,Calm P Any (x args)
theorem fH{f:dR}{fn:Func}(hf:P.funcs[f]?=some fn)(hb:fn.body=none)(hn:(fn.name == "runtime.NumGoroutine")=false)(h1:dg fn=none)(h2:WA P (fo fn))(args:Array aj):Calm P eD (fh f args):=by
 unfold fh;refine ep (R:=fun p=>p=P) (show P=P from rfl) ?_;rintro p rfl;rw[hf];have hb':fn.body.isNone=true:=by rw[hb];rfl
 simp only[hn,hb',h1,bu,if_false,if_true];refine aP (show Calm p Any (mark (.extern f)) from⟨.inr ⟨f,rfl⟩,trivial⟩) fun _=>?_;generalize fo fn=e at h2;cases e with
 |some e=>exact aP (h2.ok e rfl args) fun _=>trivial
 |none=>
  dsimp only;split
  ·exact trivial
  ·exact dJ
end
end Go.Lag
namespace Go.Proofs.YtffladgmkiimjaaGreatDoor
open Go.Lag
theorem nb0{P:aI}(hP:P.funcs[(0:Nat)]?=some Tryz.f0)(args:Array aj):Go.Lag.Calm P Go.Lag.eD (fh (0:Nat) args):=by
 have h1:dg Tryz.f0=none:=by kernel_rfl
 have h2:fo Tryz.f0=none:=kE.1 (by kernel_rfl);have h3:Tryz.f0.body=none:=by kernel_rfl
 have h4:(Tryz.f0.name == "runtime.NumGoroutine")=false:=by kernel_rfl
 refine fH (P:=P) (f:=(0:Nat)) (fn:=Tryz.f0) hP h3 h4 h1 ⟨fun x hx=>?_⟩ args;rw[h2] at hx;cases hx
theorem nb1{P:aI}(hP:P.funcs[(1:Nat)]?=some Tryz.f1)(args:Array aj):Go.Lag.Calm P Go.Lag.eD (fh (1:Nat) args):=by
 have h1:dg Tryz.f1=none:=by kernel_rfl
 have h2:fo Tryz.f1=none:=kE.1 (by kernel_rfl);have h3:Tryz.f1.body=none:=by kernel_rfl
 have h4:(Tryz.f1.name == "runtime.NumGoroutine")=false:=by kernel_rfl
 refine fH (P:=P) (f:=(1:Nat)) (fn:=Tryz.f1) hP h3 h4 h1 ⟨fun x hx=>?_⟩ args;rw[h2] at hx;cases hx
theorem abF{P:aI}(hP:P.funcs[(202:Nat)]?=some Tryz.f202)(args:Array aj):Go.Lag.Calm P Go.Lag.eD (fh (202:Nat) args):=by
 have h1:dg Tryz.f202=none:=by kernel_rfl
 have h2:fo Tryz.f202=some Extern.RuntimeError.boundsError:=by kernel_rfl
 have h3:Tryz.f202.body=none:=by kernel_rfl
 have h4:(Tryz.f202.name == "runtime.NumGoroutine")=false:=by kernel_rfl
 refine fH (P:=P) (f:=(202:Nat)) (fn:=Tryz.f202) hP h3 h4 h1 ⟨fun x hx=>?_⟩ args;rw[h2] at hx;cases hx;exact Ax
theorem abE{P:aI}(hP:P.funcs[(203:Nat)]?=some Tryz.f203)(args:Array aj):Go.Lag.Calm P Go.Lag.eD (fh (203:Nat) args):=by
 have h1:dg Tryz.f203=none:=by kernel_rfl
 have h2:fo Tryz.f203=some Extern.RuntimeError.nothing:=by kernel_rfl
 have h3:Tryz.f203.body=none:=by kernel_rfl
 have h4:(Tryz.f203.name == "runtime.NumGoroutine")=false:=by kernel_rfl
 refine fH (P:=P) (f:=(203:Nat)) (fn:=Tryz.f203) hP h3 h4 h1 ⟨fun x hx=>?_⟩ args;rw[h2] at hx;cases hx;exact fun args=>trivial
theorem abD{P:aI}(hP:P.funcs[(204:Nat)]?=some Tryz.f204)(args:Array aj):Go.Lag.Calm P Go.Lag.eD (fh (204:Nat) args):=by
 have h1:dg Tryz.f204=none:=by kernel_rfl
 have h2:fo Tryz.f204=some (fun args=>do pure (.string ("runtime error: ".toUTF8++(←asString (args.getD 0 (cD #[])))))):=by kernel_rfl
 have h3:Tryz.f204.body=none:=by kernel_rfl
 have h4:(Tryz.f204.name == "runtime.NumGoroutine")=false:=by kernel_rfl
 refine fH (P:=P) (f:=(204:Nat)) (fn:=Tryz.f204) hP h3 h4 h1 ⟨fun x hx=>?_⟩ args;rw[h2] at hx;cases hx;exact fun args=>aP (kC ..) fun _=>trivial
theorem abC{P:aI}(hP:P.funcs[(205:Nat)]?=some Tryz.f205)(args:Array aj):Go.Lag.Calm P Go.Lag.eD (fh (205:Nat) args):=by
 have h1:dg Tryz.f205=none:=by kernel_rfl
 have h2:fo Tryz.f205=some Extern.RuntimeError.nothing:=by kernel_rfl
 have h3:Tryz.f205.body=none:=by kernel_rfl
 have h4:(Tryz.f205.name == "runtime.NumGoroutine")=false:=by kernel_rfl
 refine fH (P:=P) (f:=(205:Nat)) (fn:=Tryz.f205) hP h3 h4 h1 ⟨fun x hx=>?_⟩ args;rw[h2] at hx;cases hx;exact fun args=>trivial
theorem abB{P:aI}(hP:P.funcs[(206:Nat)]?=some Tryz.f206)(args:Array aj):Go.Lag.Calm P Go.Lag.eD (fh (206:Nat) args):=by
 have h1:dg Tryz.f206=none:=by kernel_rfl
 have h2:fo Tryz.f206=some (fun args=>do pure (.string (←asString (args.getD 0 (cD #[]))))):=by kernel_rfl
 have h3:Tryz.f206.body=none:=by kernel_rfl
 have h4:(Tryz.f206.name == "runtime.NumGoroutine")=false:=by kernel_rfl
 refine fH (P:=P) (f:=(206:Nat)) (fn:=Tryz.f206) hP h3 h4 h1 ⟨fun x hx=>?_⟩ args;rw[h2] at hx;cases hx;exact fun args=>aP (kC ..) fun _=>trivial
theorem abA{P:aI}(hP:P.funcs[(207:Nat)]?=some Tryz.f207)(args:Array aj):Go.Lag.Calm P Go.Lag.eD (fh (207:Nat) args):=by
 have h1:dg Tryz.f207=none:=by kernel_rfl
 have h2:fo Tryz.f207=some Extern.RuntimeError.nothing:=by kernel_rfl
 have h3:Tryz.f207.body=none:=by kernel_rfl
 have h4:(Tryz.f207.name == "runtime.NumGoroutine")=false:=by kernel_rfl
 refine fH (P:=P) (f:=(207:Nat)) (fn:=Tryz.f207) hP h3 h4 h1 ⟨fun x hx=>?_⟩ args;rw[h2] at hx;cases hx;exact fun args=>trivial
theorem abz{P:aI}(hP:P.funcs[(208:Nat)]?=some Tryz.f208)(args:Array aj):Go.Lag.Calm P Go.Lag.eD (fh (208:Nat) args):=by
 have h1:dg Tryz.f208=none:=by kernel_rfl
 have h2:fo Tryz.f208=some (fun args=>do pure (.string ("runtime error: ".toUTF8++(←asString ((←asAgg (args.getD 0 (cD #[]))).getD 0 (cD #[])))))):=by kernel_rfl
 have h3:Tryz.f208.body=none:=by kernel_rfl
 have h4:(Tryz.f208.name == "runtime.NumGoroutine")=false:=by kernel_rfl
 refine fH (P:=P) (f:=(208:Nat)) (fn:=Tryz.f208) hP h3 h4 h1 ⟨fun x hx=>?_⟩ args;rw[h2] at hx;cases hx;exact fun args=>aP (tG ..) fun _=>aP (kC ..) fun _=>trivial
theorem aby{P:aI}(hP:P.funcs[(209:Nat)]?=some Tryz.f209)(args:Array aj):Go.Lag.Calm P Go.Lag.eD (fh (209:Nat) args):=by
 have h1:dg Tryz.f209=none:=by kernel_rfl
 have h2:fo Tryz.f209=some Extern.RuntimeError.nothing:=by kernel_rfl
 have h3:Tryz.f209.body=none:=by kernel_rfl
 have h4:(Tryz.f209.name == "runtime.NumGoroutine")=false:=by kernel_rfl
 refine fH (P:=P) (f:=(209:Nat)) (fn:=Tryz.f209) hP h3 h4 h1 ⟨fun x hx=>?_⟩ args;rw[h2] at hx;cases hx;exact fun args=>trivial
theorem abx{P:aI}(hP:P.funcs[(210:Nat)]?=some Tryz.f210)(args:Array aj):Go.Lag.Calm P Go.Lag.eD (fh (210:Nat) args):=by
 have h1:dg Tryz.f210=none:=by kernel_rfl
 have h2:fo Tryz.f210=some Extern.RuntimeError.typeAssertionError:=by kernel_rfl
 have h3:Tryz.f210.body=none:=by kernel_rfl
 have h4:(Tryz.f210.name == "runtime.NumGoroutine")=false:=by kernel_rfl
 refine fH (P:=P) (f:=(210:Nat)) (fn:=Tryz.f210) hP h3 h4 h1 ⟨fun x hx=>?_⟩ args;rw[h2] at hx;cases hx;exact su
theorem abw{P:aI}(hP:P.funcs[(211:Nat)]?=some Tryz.f211)(args:Array aj):Go.Lag.Calm P Go.Lag.eD (fh (211:Nat) args):=by
 have h1:dg Tryz.f211=none:=by kernel_rfl
 have h2:fo Tryz.f211=some Extern.RuntimeError.nothing:=by kernel_rfl
 have h3:Tryz.f211.body=none:=by kernel_rfl
 have h4:(Tryz.f211.name == "runtime.NumGoroutine")=false:=by kernel_rfl
 refine fH (P:=P) (f:=(211:Nat)) (fn:=Tryz.f211) hP h3 h4 h1 ⟨fun x hx=>?_⟩ args;rw[h2] at hx;cases hx;exact fun args=>trivial
theorem abv{P:aI}(hP:P.funcs[(212:Nat)]?=some Tryz.f212)(args:Array aj):Go.Lag.Calm P Go.Lag.eD (fh (212:Nat) args):=by
 have h1:dg Tryz.f212=none:=by kernel_rfl
 have h2:fo Tryz.f212=some (fun _=>Extern.RuntimeError.text "runtime error: panic called with nil argument"):=by kernel_rfl
 have h3:Tryz.f212.body=none:=by kernel_rfl
 have h4:(Tryz.f212.name == "runtime.NumGoroutine")=false:=by kernel_rfl
 refine fH (P:=P) (f:=(212:Nat)) (fn:=Tryz.f212) hP h3 h4 h1 ⟨fun x hx=>?_⟩ args;rw[h2] at hx;cases hx;exact fun args=>vL _
theorem abu{P:aI}(hP:P.funcs[(213:Nat)]?=some Tryz.f213)(args:Array aj):Go.Lag.Calm P Go.Lag.eD (fh (213:Nat) args):=by
 have h1:dg Tryz.f213=none:=by kernel_rfl
 have h2:fo Tryz.f213=some Extern.RuntimeError.nothing:=by kernel_rfl
 have h3:Tryz.f213.body=none:=by kernel_rfl
 have h4:(Tryz.f213.name == "runtime.NumGoroutine")=false:=by kernel_rfl
 refine fH (P:=P) (f:=(213:Nat)) (fn:=Tryz.f213) hP h3 h4 h1 ⟨fun x hx=>?_⟩ args;rw[h2] at hx;cases hx;exact fun args=>trivial
theorem abt{P:aI}(hP:P.funcs[(214:Nat)]?=some Tryz.f214)(args:Array aj):Go.Lag.Calm P Go.Lag.eD (fh (214:Nat) args):=by
 have h1:dg Tryz.f214=none:=by kernel_rfl
 have h2:fo Tryz.f214=none:=kE.1 (by kernel_rfl);have h3:Tryz.f214.body=none:=by kernel_rfl
 have h4:(Tryz.f214.name == "runtime.NumGoroutine")=false:=by kernel_rfl
 refine fH (P:=P) (f:=(214:Nat)) (fn:=Tryz.f214) hP h3 h4 h1 ⟨fun x hx=>?_⟩ args;rw[h2] at hx;cases hx
theorem abr{P:aI}(hP:P.funcs[(215:Nat)]?=some Tryz.f215)(args:Array aj):Go.Lag.Calm P Go.Lag.eD (fh (215:Nat) args):=by
 have h1:dg Tryz.f215=none:=by kernel_rfl
 have h2:fo Tryz.f215=some Extern.RuntimeError.unhashableTypeError:=by kernel_rfl
 have h3:Tryz.f215.body=none:=by kernel_rfl
 have h4:(Tryz.f215.name == "runtime.NumGoroutine")=false:=by kernel_rfl
 refine fH (P:=P) (f:=(215:Nat)) (fn:=Tryz.f215) hP h3 h4 h1 ⟨fun x hx=>?_⟩ args;rw[h2] at hx;cases hx;exact rB
theorem abq{P:aI}(hP:P.funcs[(216:Nat)]?=some Tryz.f216)(args:Array aj):Go.Lag.Calm P Go.Lag.eD (fh (216:Nat) args):=by
 have h1:dg Tryz.f216=none:=by kernel_rfl
 have h2:fo Tryz.f216=some Extern.RuntimeError.nothing:=by kernel_rfl
 have h3:Tryz.f216.body=none:=by kernel_rfl
 have h4:(Tryz.f216.name == "runtime.NumGoroutine")=false:=by kernel_rfl
 refine fH (P:=P) (f:=(216:Nat)) (fn:=Tryz.f216) hP h3 h4 h1 ⟨fun x hx=>?_⟩ args;rw[h2] at hx;cases hx;exact fun args=>trivial
theorem abp{P:aI}(hP:P.funcs[(217:Nat)]?=some Tryz.f217)(args:Array aj):Go.Lag.Calm P Go.Lag.eD (fh (217:Nat) args):=by
 have h1:dg Tryz.f217=none:=by kernel_rfl
 have h2:fo Tryz.f217=some (fun args=>do pure (strVal (Go.Extern.Rtype.kindName (←asInt (args.getD 0 (cD #[]))).toNat))):=by kernel_rfl
 have h3:Tryz.f217.body=none:=by kernel_rfl
 have h4:(Tryz.f217.name == "runtime.NumGoroutine")=false:=by kernel_rfl
 refine fH (P:=P) (f:=(217:Nat)) (fn:=Tryz.f217) hP h3 h4 h1 ⟨fun x hx=>?_⟩ args;rw[h2] at hx;cases hx;exact fun args=>aP (qo ..) fun _=>trivial
theorem abo{P:aI}(hP:P.funcs[(227:Nat)]?=some Tryz.f227)(args:Array aj):Go.Lag.Calm P Go.Lag.eD (fh (227:Nat) args):=by
 have h1:dg Tryz.f227=none:=by kernel_rfl
 have h2:fo Tryz.f227=none:=kE.1 (by kernel_rfl);have h3:Tryz.f227.body=none:=by kernel_rfl
 have h4:(Tryz.f227.name == "runtime.NumGoroutine")=false:=by kernel_rfl
 refine fH (P:=P) (f:=(227:Nat)) (fn:=Tryz.f227) hP h3 h4 h1 ⟨fun x hx=>?_⟩ args;rw[h2] at hx;cases hx
theorem abn{P:aI}(hP:P.funcs[(228:Nat)]?=some Tryz.f228)(args:Array aj):Go.Lag.Calm P Go.Lag.eD (fh (228:Nat) args):=by
 have h1:dg Tryz.f228=none:=by kernel_rfl
 have h2:fo Tryz.f228=none:=kE.1 (by kernel_rfl);have h3:Tryz.f228.body=none:=by kernel_rfl
 have h4:(Tryz.f228.name == "runtime.NumGoroutine")=false:=by kernel_rfl
 refine fH (P:=P) (f:=(228:Nat)) (fn:=Tryz.f228) hP h3 h4 h1 ⟨fun x hx=>?_⟩ args;rw[h2] at hx;cases hx
theorem abm{P:aI}(hP:P.funcs[(229:Nat)]?=some Tryz.f229)(args:Array aj):Go.Lag.Calm P Go.Lag.eD (fh (229:Nat) args):=by
 have h1:dg Tryz.f229=none:=by kernel_rfl
 have h2:fo Tryz.f229=none:=kE.1 (by kernel_rfl);have h3:Tryz.f229.body=none:=by kernel_rfl
 have h4:(Tryz.f229.name == "runtime.NumGoroutine")=false:=by kernel_rfl
 refine fH (P:=P) (f:=(229:Nat)) (fn:=Tryz.f229) hP h3 h4 h1 ⟨fun x hx=>?_⟩ args;rw[h2] at hx;cases hx
def bl:List Nat:=[0,1,202,203,204,205,206,207,208,209,210,211,212,213,214,215,216,217,227,228,229]
theorem RM:(List.range Tryz.prog.funcs.size).all (fun i=>(Tryz.prog.funcs[i]?.all (fun fn=>fn.body.isSome))||bl.contains i)=true:=by kernel_rfl
theorem aa6{P:aI}(e:P.funcs=Tryz.prog.funcs)(f:dR)(fn:Func)(args:Array aj)(hf:P.funcs[f]?=some fn)(hb:fn.body=none):Go.Lag.Calm P Go.Lag.eD (fh f args):=by
 rw[e] at hf;have hlt:f<Tryz.prog.funcs.size:=(ak.1 hf).1;have h:=aW.1 RM f (List.mem_range.2 hlt);rw[hf] at h;simp only[Option.all_some,hb,Option.isSome_none,Bool.false_or] at h;have hm:f∈bl:=by simpa using h
 clear hf h hlt;have hx:∀(n:Nat) (fN:Func),Tryz.prog.funcs[n]?=some fN→P.funcs[n]?=some fN:=fun n fN h=>by rw[e];exact h
 clear e;simp only[bl,bR,gh,or_false] at hm;rcases hm with rfl|rfl|rfl|rfl|rfl|rfl|rfl|rfl|rfl|rfl|rfl|rfl|rfl|rfl|rfl|rfl|rfl|rfl|rfl|rfl|rfl
 ·exact nb0 (hx _ _ Tryz.func0) args
 ·exact nb1 (hx _ _ Tryz.func1) args
 ·exact abF (hx _ _ Tryz.func202) args
 ·exact abE (hx _ _ Tryz.func203) args
 ·exact abD (hx _ _ Tryz.func204) args
 ·exact abC (hx _ _ Tryz.func205) args
 ·exact abB (hx _ _ Tryz.func206) args
 ·exact abA (hx _ _ Tryz.func207) args
 ·exact abz (hx _ _ Tryz.func208) args
 ·exact aby (hx _ _ Tryz.func209) args
 ·exact abx (hx _ _ Tryz.func210) args
 ·exact abw (hx _ _ Tryz.func211) args
 ·exact abv (hx _ _ Tryz.func212) args
 ·exact abu (hx _ _ Tryz.func213) args
 ·exact abt (hx _ _ Tryz.func214) args
 ·exact abr (hx _ _ Tryz.func215) args
 ·exact abq (hx _ _ Tryz.func216) args
 ·exact abp (hx _ _ Tryz.func217) args
 ·exact abo (hx _ _ Tryz.func227) args
 ·exact abn (hx _ _ Tryz.func228) args
 ·exact abm (hx _ _ Tryz.func229) args
end Go.Proofs.YtffladgmkiimjaaGreatDoor
namespace Go.Lag
theorem ob{α β:Type}{x:Option α}{f:α→Option β}{b:β}(h:(x >>= f)=some b):∃a,x=some a∧f a=some b:=by
 cases x with
 |none=>cases h
 |some a=>exact⟨a,rfl,h⟩
theorem uL{info:aX→Option TypeInfo}{fs:Array Field}{i:TypeInfo}(h:Made.reckonStruct info fs=some i):i.methods = #[]:=by
 unfold Made.reckonStruct at h;obtain⟨s,_,h⟩:=ob h;dsimp only at h;split at h<;>(cases h;rfl)
theorem Dm{info:aX→Option TypeInfo}{d:TypeDesc}{i:TypeInfo}(h:Made.reckon info d=some i):i.methods = #[]:=by
 cases d with
 |pointer e=>
  simp only[Made.reckon] at h;obtain⟨j,_,h⟩:=ob h;split at h
  ·cases h
  ·split at h
   ·cases h
   ·obtain⟨s,_,h⟩:=ob h;cases h;rfl
  ·obtain⟨s,_,h⟩:=ob h;cases h;rfl
 |slice e=>
  simp only[Made.reckon] at h;obtain⟨j,_,h⟩:=ob h;obtain⟨s,_,h⟩:=ob h;cases h;rfl
 |map k e=>
  simp only[Made.reckon] at h;obtain⟨j,_,h⟩:=ob h;obtain⟨s,_,h⟩:=ob h;obtain⟨j,_,h⟩:=ob h;obtain⟨s,_,h⟩:=ob h;cases h;rfl
 |chan dir e=>
  simp only[Made.reckon] at h;obtain⟨j,_,h⟩:=ob h;obtain⟨s,_,h⟩:=ob h;cases dir<;>(cases h;rfl)
 |func ps rs v=>
  simp only[Made.reckon] at h;obtain⟨j,_,h⟩:=ob h;cases h;rfl
 |array n e=>
  simp only[Made.reckon] at h;obtain⟨j,_,h⟩:=ob h;obtain⟨s,_,h⟩:=ob h;cases h;rfl
 |struct fs=>exact uL (by simpa only[Made.reckon] using h)
 |_=>cases h
theorem Ip{T:Tables}{t:aX}{i:TypeInfo}(h:T.info? t=some i):T.types[t]?=some i∨i.methods = #[]:=by
 unfold Tables.info? at h;split at h
 ·exact .inl h
 ·right;generalize Made.depth=n at h;cases n with
  |zero=>cases h
  |succ n=>
   unfold Made.infoAt at h;split at h
   ·contradiction
   ·cases hd:Made.decode (t-T.types.size) with
    |none=>rw[hd] at h;cases h
    |some d=>rw[hd] at h;exact Dm h
section
variable{P:aI}
theorem kQ{α β:Type}{x:Sem α}{f:α→Sem β}{w w':ar}{b:β}(h:(x >>= f).run P w=.ok b w'):∃a w1,x.run P w=.ok a w1∧(f a).run P w1=.ok b w':=by
 have h1:=Sem.runT_fst P (x >>= f) w #[];rw[h] at h1;have e:(x >>= f).runT P w #[]=(x.bind f).runT P w #[]:=rfl;rw[e,FZ] at h1;have h2:=Sem.runT_fst P x w #[];generalize hx:x.runT P w #[]=r at h1 h2;obtain⟨r,es⟩:=r;cases r with
 |ok a w1=>
  refine⟨a,w1,h2.symm,?_⟩;have h3:=Sem.runT_fst P (f a) w1 es;rw[←h3];exact h1
 |halt e w1=>cases h1
def Lv(P:aI)(bl:List Nat):Prop:=∀t i m,P.info? t=some i→m∈i.methods→(m.name = "Error"∨m.name = "String")→∀f b,m.func=some (f,b)→f∈bl
theorem BA{bl:List Nat}(q:Lv P bl){name:String}(hn:name = "Error"∨name = "String"):∀(fuel:Nat) (t:aX) (v:aj) (w w':ar) (f:dR) (r:aj),(Go.method fuel t v name).run P w=.ok (f,r) w'→f∈bl
 |0,t,v,w,w',f,r,h=>by cases h
 |fuel+1,t,v,w,w',f,r,h=>by
  unfold Go.method at h;obtain⟨i,w1,h1,h⟩:=kQ h
  have hi:P.info? t=some i:=by
   unfold typeInfo at h1;obtain⟨p,w2,h2,h1⟩:=kQ h1
   have hp:p=P:=by
    have:(Go.program).run P w=.ok P w:=rfl;rw[this] at h2;cases h2;rfl
   subst hp;cases hh:p.info? t with
   |none=>rw[hh] at h1;cases h1
   |some j=>rw[hh] at h1;cases h1;rfl
  cases hm:i.methods.find? (·.name==name) with
  |none=>rw[hm] at h;cases h
  |some m=>
   rw[hm] at h;dsimp only at h;have hmem:m∈i.methods:=Array.mem_of_find?_eq_some hm;have hname:m.name=name:=by simpa using Array.find?_some hm
   obtain⟨⟨xt,x⟩,w2,h2,h⟩:=kQ h;dsimp only at h;cases hf:m.func with
   |none=>
    rw[hf] at h;dsimp only at h;obtain⟨y,w3,h3,h⟩:=kQ h;cases y<;>first|exact BA q hn fuel _ _ _ _ _ _ h|(cases h)
   |some fb=>
    obtain⟨f0,b0⟩:=fb;rw[hf] at h;dsimp only at h;obtain⟨y,w3,h3,h⟩:=kQ h;cases h;exact q t i m hi hmem (by rw[hname];exact hn) _ _ hf
theorem Dw{v:aj}{t:aX}{recv:aj}{name:String}(h:panicText P false v=.call t recv name):name = "Error"∨name = "String":=by
 unfold panicText at h;split at h
 ·split at h
  ·cases h
  ·rename_i t' v' info aii;simp only[bu,if_false] at h;split at h
   ·rename_i m hm;injection h with _ _ h3
    have:=Array.find?_some hm;simp only[aC,beq_iff_eq] at this;exact .inl (h3▸this.1)
   ·rename_i m _ hm;injection h with _ _ h3
    have:=Array.find?_some hm;simp only[aC,beq_iff_eq] at this;exact .inr (h3▸this.1)
   ·split at h
    ·cases h
    ·split at h<;>first|(cases h;done)|(split at h<;>cases h)
 all_goals first|cases h|(split at h<;>cases h)
theorem J6{bl:List Nat}(q:Lv P bl)(hb:∀f∈bl,∃fn,P.funcs[f]?=some fn∧fn.body=none∧(dg fn).isNone=true)(todo:List (aj × String)):NoEnter P todo:=by
 intro x _ t recv name hp w f args w' h;have hn:=Dw hp;rw[Sem.runT_fst] at h;have h':(callMethod (.iface t recv) name (#[Value.iface t recv].extract 1 #[Value.iface t recv].size)).run P w=.ok (.enter f args) w':=h;unfold callMethod at h';dsimp only at h';obtain⟨p,w1,h1,h'⟩:=kQ h';obtain⟨⟨F,r⟩,w2,h2,h'⟩:=kQ h';obtain⟨fn,hf,hbo,hx⟩:=hb F (BA q hn _ _ _ _ _ _ _ h2);exact callFunc_not_enter hf hbo hx _ _ _ _ _ h'
end
end Go.Lag
namespace Go.Proofs.YtffladgmkiimjaaGreatDoor
open Go.Lag
def NY(m:Method):Bool:=m.name == "Error" || m.name == "String"
theorem U4:Tryz.prog.types.all (fun i=>i.methods.all fun m=>!NY m||match m.func with | some (f,_)=>bl.contains f | none=>true)=true:=by kernel_rfl
theorem X7:bl.all (fun f=>(Tryz.prog.funcs[f]?.any fun fn=>fn.body.isNone&&(dg fn).isNone))=true:=by kernel_rfl
theorem U5:Tryz.prog.funcs.any (fun fn=>(fn.body.map readies).any fun l=>!l.isEmpty)=false:=by kernel_rfl
theorem quiet_of{P:aI}(e:P=aq):Quiet P:=by
 refine { body:=fun f fn c hf hc=>?_,ext:=fun f fn args hf hb=>aa6 (by rw[e]) f fn args hf hb,name:=fun f fn hf=>?_,ahead:=by rw[e];exact U6,steps:=fun g=>?_,enters:=fun todo=>?_ }
 ·rw[e] at hf;have:=jY.1 RN fn (eH hf);rw[hc] at this;exact this
 ·rw[e] at hf;have:=jY.1 N9 fn (eH hf);simpa using this
 ·unfold Program.stepOf;rw[Array.findIdx?_eq_none_iff];intro fn hfn;rw[e] at hfn;have:=Array.any_eq_false'.1 U5 fn hfn;cases hb:fn.body with
  |none=>rfl
  |some c=>
   rw[hb] at this;simp only[dH,Option.any_some] at this ⊢;have h2:readies c=[]:=by simpa using this
   rw[h2];rfl
 ·refine J6 (bl:=bl) (fun t i m hi hm hn f b hf=>?_) (fun f hf=>?_) todo
  ·rcases Ip hi with h|h
   ·rw[e] at h;have h1:=jY.1 U4 i (eH h);have h2:=jY.1 h1 m hm
    have h3:NY m=true:=by
     rcases hn with h|h<;>simp[NY,h]
    rw[h3,hf] at h2;simpa using h2
   ·rw[h] at hm;simp at hm
  ·have h1:=aW.1 X7 f hf;cases hx:Tryz.prog.funcs[f]? with
   |none=>rw[hx] at h1;cases h1
   |some fn=>
    rw[hx] at h1;simp only[Option.any_some,aC,kE] at h1;exact⟨fn,by rw[e];exact hx,h1.1,by simp[h1.2]⟩
theorem quiet:Quiet Tryz.prog:=quiet_of rfl
def fw:Nat→Bool:=fun f=>[155,97,99,162,105,165,118,114,115,138,139,170,171,178].contains f
theorem aew:[155,97,99,162,105,165,118,114,115,138,139,170,171,178].all (fun f=>(Tryz.prog.funcs[f]?.any fun fn=>fn.body.any fun c=>gQ aq fw c))=true:=by kernel_rfl
theorem KI{P:aI}(e:P=aq):sH P fw:=by
 refine⟨fun f hf=>?_⟩;have hm:f∈[155,97,99,162,105,165,118,114,115,138,139,170,171,178]:=by simpa [fw] using hf
 have h1:=aW.1 aew f hm;cases hx:Tryz.prog.funcs[f]? with
 |none=>rw[hx] at h1;cases h1
 |some fn=>
  rw[hx] at h1;simp only[Option.any_some] at h1;cases hb:fn.body with
  |none=>rw[hb] at h1;cases h1
  |some c=>
   rw[hb] at h1;simp only[Option.any_some] at h1;refine⟨fn,c,by rw[e];exact hx,hb,by rw[e];exact h1,?_⟩;have:=jY.1 N9 fn (eH hx);simpa using this
end Go.Proofs.YtffladgmkiimjaaGreatDoor
namespace Go.Lag
open Go.Conc
open Classical in
noncomputable def shut (X:Nat→Prop) (w:ar):World:=
 { w with heap:=w.heap.mapIdx fun b o=>if X b then(match o with|.cells cs e z=>.cells cs e (0,max cs.size z.2)|_=>.coro none) else .coro none }
open Classical in
noncomputable def xo (X:Nat→Prop):Rn:=fun b=>if X b then some b else none
section
variable{F:Nat→Bool}{G:Nat}{X Y:Nat→Prop}{w:ar}
theorem pw{b c:Nat}:xo X b=some c↔X b∧c=b:=by
 unfold xo;split
 ·rename_i h;simp[h,eq_comm]
 ·rename_i h;simp[h]
theorem uT{b:Nat}(h:X b):xo X b=some b:=pw.2 ⟨h,rfl⟩
theorem r5(h:∀b,X b→Y b):Rn.le (xo X) (xo Y):=fun b c hb=>by
 obtain⟨h1,h2⟩:=pw.1 hb;exact pw.2 ⟨h b h1,h2⟩
theorem vz:(shut X w).heap.size=w.heap.size:=by simp[shut]
theorem C6{b:Nat}{cs:Array aj}{e:aX}{z:Nat × Nat}(h:w.heap[b]?=some (.cells cs e z))(hX:X b):(shut X w).heap[b]?=some (.cells cs e (0,max cs.size z.2)):=by
 simp[shut,Array.getElem?_mapIdx,h,hX]
theorem vA{a:cU}(hX:X a.block):(shut X w).cell? a=w.cell? a:=by
 unfold World.cell?;cases h:w.heap[a.block]? with
 |none=>
  have:(shut X w).heap[a.block]?=none:=by simp[shut,Array.getElem?_mapIdx,h]
  rw[this]
 |some o=>
  cases o with
  |cells cs e z=>rw[C6 h hX]
  |_=>
   have:(shut X w).heap[a.block]?=some (.coro none):=by simp[shut,Array.getElem?_mapIdx,h,hX]
   rw[this]
theorem N4:dw (shut X w):=by
 intro b o h;simp only[shut,Array.getElem?_mapIdx] at h;cases hb:w.heap[b]? with
 |none=>rw[hb] at h;cases h
 |some x=>
  rw[hb] at h;simp only[dH,gq] at h;subst h;split
  ·cases x<;>first|exact .inl rfl|exact .inr rfl
  ·exact .inr rfl
def Closed(F:Nat→Bool)(X:Nat→Prop)(w:ar):Prop:=∀b,X b→∃cs e z,w.heap[b]?=some (.cells cs e z)∧∀v∈cs,VR F (xo X) v v
theorem Closed.keep{w':ar}(h:Closed F X w)(hk:∀b,X b→w'.heap[b]?=w.heap[b]?):Closed F X w':=fun b hb=>by
 obtain⟨cs,e,z,h1,h2⟩:=h b hb;exact⟨cs,e,z,by rw[hk b hb];exact h1,h2⟩
theorem Closed.lt(h:Closed F X w){b:Nat}(hb:X b):b<w.heap.size:=by
 obtain⟨cs,e,z,h1,_⟩:=h b hb;exact ey h1
theorem N3(h:Closed F X w)(hG:∀b,X b→G≤b):WR F G (fun b=>b<w.heap.size) (xo X) (shut X w) w:=by
 refine⟨fun a b c ha hb=>?_,fun b c hb=>?_,fun b hb=>by rw[vz];exact hb,fun b c hb=>?_,fun b o hb=>?_⟩
 ·rw[←(pw.1 ha).2,(pw.1 hb).2]
 ·obtain⟨h1,rfl⟩:=pw.1 hb;exact⟨hG _ h1,hG _ h1⟩
 ·obtain⟨h1,rfl⟩:=pw.1 hb;obtain⟨cs,e,z,h2,h3⟩:=h c h1;refine⟨_,_,C6 h2 h1,h2,.cells ⟨rfl,fun i x y hx hy=>?_⟩ (fun i h4 h5=>⟨Nat.zero_le _,by simp only;omega⟩),fun _=>⟨cs,e,_,rfl,by omega⟩⟩;rw[hx] at hy;cases hy;exact h3 x (eH hx)
 ·simp only[shut,Array.getElem?_mapIdx] at hb;cases hx:w.heap[b]? with
  |none=>rw[hx] at hb;cases hb
  |some x=>
   rw[hx] at hb;simp only[dH,gq] at hb;subst hb;split
   ·cases x<;>rfl
   ·rfl
theorem Ba(h:Closed F X w)(c:Nat):X c↔∃b,b<w.heap.size∧xo X b=some c:=by
 constructor
 ·intro hc;exact⟨c,h.lt hc,uT hc⟩
 ·rintro⟨b,_,hb⟩;obtain⟨h1,rfl⟩:=pw.1 hb;exact h1
theorem Gc(h:Closed F X w):(xo X).owns (fun b=>b<w.heap.size)=fun _=>False:=by
 funext c
 refine propext ⟨fun⟨b,h1,h2⟩=>?_,fun h=>h.elim⟩;exact h1 (h.lt (pw.1 h2).1)
end
end Go.Lag
namespace Go.Lag
open Go.Conc
section
variable{P:aI}{main:Bool}{S O:Nat→Prop}{fn:dR}{tmps:Array aj}{kd:CallKind}{k:List Item}{cs:List Frame}{w:ar}{ops:Array Oper}
theorem Dx(O:Nat→Prop)(w:ar):own O w w=O:=by
 funext c
 refine propext ⟨fun h=>h.elim id fun h=>absurd h.1 (by omega),.inl⟩
theorem Eg(S O:Nat→Prop)(w:ar){es:Array fP}(h:∀e∈es,NM (fun c=>S c∨O c) O e):Jk S O w w es:=
 ⟨ax _,fun _ _ _=>rfl,rfl,ax _,rfl,rfl,by rw[Dx];exact h⟩
theorem gD.one{c0 c1:Nat}{p:aj}{b:Bool}{g:aB}(hr:g.status=.running)(hd:g.dying=none)
  (h:∀w1,gW (fun c=>S c∨O c) w w1→∃g' es,eM P false g w1=.go g' w1 es∧(∀e∈es,NM (fun c=>S c∨O c) O e)∧g'.status=.running∧g'.dying=none∧gD P c0 c1 S p b O g' w1):gD P c0 c1 S p b O g w:=by
 refine .step hr hd (fun w1 h1=>?_) fun w1 h1 g2 w2 es he=>?_
 ·obtain⟨g',es,e,hev,h2,h3,_⟩:=h w1 h1;exact⟨g',w1,es,e,Eg S O w1 hev,h2,h3⟩
 ·obtain⟨g',es',e,_,_,_,h4⟩:=h w1 h1;rw[e] at he;injection he with e1 e2 e3
  subst e1;subst e2;rw[Dx];exact h4
theorem gD.ctl{c0 c1:Nat}{p:aj}{b:Bool}{g g':aB}(hr:g.status=.running)(hd:g.dying=none)(h:∀w,eM P false g w=.go g' w #[])(hr':g'.status=.running)(LL:g'.dying=none)
  (hk:gD P c0 c1 S p b O g' w):gD P c0 c1 S p b O g w:=
 .one hr hd fun w1 h1=>⟨g',#[],h w1,by simp,hr',LL,hk.rely _ _ _ h1⟩
theorem eW.one{c0 c1:Nat}{z0 z1:aj}{Fin:List aj→List aj→(Nat→Prop)→(Nat→Prop)→aB→ar→Prop}{f m:Nat}{acc out:List aj}{g:aB}(hr:g.status=.running)(hd:g.dying=none)
  (h:∀w1,gW (fun c=>S c∨O c) w w1→∃g' es,eM P true g w1=.go g' w1 es∧(∀e∈es,NM (fun c=>S c∨O c) O e)∧g'.status=.running∧g'.dying=none∧eW P c0 c1 z0 z1 Fin f m acc out S O g' w1):eW P c0 c1 z0 z1 Fin f m acc out S O g w:=by
 refine .step hr hd (fun w1 h1=>?_) fun w1 h1 g2 w2 es he=>?_
 ·obtain⟨g',es,e,hev,h2,h3,_⟩:=h w1 h1;exact⟨g',w1,es,e,Eg S O w1 hev,h2,h3⟩
 ·obtain⟨g',es',e,_,_,_,h4⟩:=h w1 h1;rw[e] at he;injection he with e1 e2 e3
  subst e1;subst e2;rw[Dx];exact h4
theorem eW.ctl{c0 c1:Nat}{z0 z1:aj}{Fin:List aj→List aj→(Nat→Prop)→(Nat→Prop)→aB→ar→Prop}{f m:Nat}{acc out:List aj}{g g':aB}(hr:g.status=.running)(hd:g.dying=none)(h:∀w,eM P true g w=.go g' w #[])(hr':g'.status=.running)(LL:g'.dying=none)
  (hk:eW P c0 c1 z0 z1 Fin f m acc out S O g' w):eW P c0 c1 z0 z1 Fin f m acc out S O g w:=
 .one hr hd fun w1 h1=>⟨g',#[],h w1,by simp,hr',LL,hk.rely h1⟩
theorem Walk.keep{Stop:(Nat→Prop)→aB→ar→Prop}{O:Nat→Prop}{g:aB}{w:ar}(h:Walk P main S Stop O g w):∀w0:ar,(∀c,S c→c<w.heap.size∧¬O c∧w.heap[c]?=w0.heap[c]?)→
  Walk P main S (fun O g w'=>Stop O g w'∧∀c,S c→c<w'.heap.size∧¬O c∧w'.heap[c]?=w0.heap[c]?) O g w:=by
 induction h with
 |@stop O g w h=>
  intro w0 hk;refine .stop fun w1 hr=>⟨h w1 hr,fun c hc=>?_⟩
  obtain⟨h1,h2,h3⟩:=hk c hc;exact⟨bz h1 hr.grow,h2,(hr.keep c (.inl hc)).trans h3⟩
 |@step O g w a b c d ih=>
  intro w0 hk;refine .step a b c fun w1 hr g2 w2 es he=>ih w1 hr g2 w2 es he w0 fun x hx=>?_;obtain⟨h1,h2,h3⟩:=hk x hx;obtain⟨g3,w3,es3,he3,wK,_,_⟩:=c w1 hr;rw[he] at he3;injection he3 with e1 e2 e3
  subst e2;have hlt:x<w1.heap.size:=bz h1 hr.grow;refine⟨bz hlt wK.grow,fun ho=>ho.elim h2 fun hn=>by omega,?_⟩;rw[wK.keep x hlt h2,hr.keep x (.inl hx)];exact h3
theorem iF{w w':ar}{a:cU}(h:w'.heap[a.block]?=w.heap[a.block]?):w'.cell? a=w.cell? a:=by
 unfold World.cell?;rw[h]
abbrev GK(fn:dR)(tmps:Array aj)(k:List Item)(kd:CallKind)(cs:List Frame):Goroutine:=G (iW fn tmps k .run kd) cs
theorem jE(a b:gG)(w:ar):eM P main (GK fn tmps (.code (.seq a b)::k) kd cs) w=.go (GK fn tmps (.code a::.code b::k) kd cs) w #[]:=rfl
theorem pJ(id:Nat)(c:gG)(w:ar):eM P main (GK fn tmps (.code (.block id c)::k) kd cs) w=.go (GK fn tmps (.code c::.inBlock id::k) kd cs) w #[]:=rfl
theorem KY(c:gG)(w:ar):eM P main (GK fn tmps (.code (.loop c)::k) kd cs) w=.go (GK fn tmps (.code c::.inLoop c::k) kd cs) w #[]:=rfl
theorem xF(c:gG)(w:ar):eM P main (GK fn tmps (.inLoop c::k) kd cs) w=.go (GK fn tmps (.code c::.inLoop c::k) kd cs) w #[]:=rfl
theorem oB(id:Nat)(w:ar):eM P main (GK fn tmps (.inBlock id::k) kd cs) w=.go (GK fn tmps k kd cs) w #[]:=rfl
theorem zm(w:ar):eM P main (GK fn tmps (.code .skip::k) kd cs) w=.go (GK fn tmps k kd cs) w #[]:=rfl
theorem tk(id:Nat)(ops:Array Oper)(w:ar):eM P main (GK fn tmps (.code (.region id ops false)::k) kd cs) w=.go (GK fn tmps (.inRegion ops (List.range ops.size)::k) kd cs) w #[]:=rfl
theorem nX(ops:Array Oper)(w:ar):eM P main (GK fn tmps (.inRegion ops []::k) kd cs) w=.go (GK fn tmps k kd cs) w #[]:=rfl
theorem sj{c:Operand}{a b:gG}{x:Bool}(h:(iW fn tmps (.code (.cond c a b)::k) .run kd).eval c=.bool x)(w:ar):eM P main (GK fn tmps (.code (.cond c a b)::k) kd cs) w=.go (GK fn tmps (.code (if x then a else b)::k) kd cs) w #[]:=by
 have e:eM P main (GK fn tmps (.code (.cond c a b)::k) kd cs) w=(match (iW fn tmps (.code (.cond c a b)::k) .run kd).eval c with
     |.bool x=>.go (GK fn tmps (.code (if x then a else b)::k) kd cs) w
     |_=>.ended (.stuck "cond: bool expected" ((iW fn tmps (.code (.cond c a b)::k) .run kd).pos P)) w):=rfl
 rw[e,h]
theorem Et{id:Nat}{k':List Item}(h:exitTo id k=some k')(w:ar):eM P main (GK fn tmps (.code (.exit id)::k) kd cs) w=.go (GK fn tmps k' kd cs) w #[]:=by
 show(exitTo id k).elim _ _=_;rw[h];rfl
theorem N0{i:Nat}{rest:List Nat}{o:Oper}(Cj:kd≠.early)(ho:ops[i]?=some o)(hg:o.guard=none){v:aj}{w w2:ar}{es:Array fP}
  (h:(execOp (iW fn tmps (.inRegion ops (i::rest)::k) .run kd).eval o).runT P w #[]=(.ok (.value v) w2,es)) :
  eM P main (GK fn tmps (.inRegion ops (i::rest)::k) kd cs) w=.go (GK fn (match o.dst with|some d=>tmps.setIfInBounds d v|none=>tmps) (.inRegion ops rest::k) kd cs) w2 (seen P fn es):=by
 have hw:((ops[i]?).map (cF · (yielded ops tmps))).getD false=true:=by rw[ho];simp[cF,hg]
 have VK:(kd == .early)=false:=beq_eq_false_iff_ne.2 Cj;have e1:eM P main (GK fn tmps (.inRegion ops (i::rest)::k) kd cs) w=eI P true (iW fn tmps (.inRegion ops (i::rest)::k) .run kd) cs none w:=if_pos hw
 have e2:eI P true (iW fn tmps (.inRegion ops (i::rest)::k) .run kd) cs none w=dX P true (iW fn tmps (.inRegion ops (i::rest)::k) .run kd) cs none (execOp (iW fn tmps (.inRegion ops (i::rest)::k) .run kd).eval o) w:=by
  unfold eI;have:(iW fn tmps (.inRegion ops (i::rest)::k) .run kd).oper?=some o:=ho;rw[this];rfl
 rw[e1,e2];unfold dX;simp only[if_true,h];simp only[iW,VK,bu,if_false,GStep.after,dS,Frame.finish,ho,gg];rfl
def vF(P:aI)(t:aX):Bool:=match P.underlying t with|some (.struct _)|some (.array ..)|none=>false|_=>true
theorem PA{t:aX}(ht:vF P t=true){a:cU}{v:aj}{w:ar}(hc:w.cell? a=some v)(es:Array fP):(Instr.loadAt t (.pointer (some a))).runT P w es=(.ok v w,es.push ⟨.cell a,false,false⟩):=by
 have h1:∃d,P.underlying t=some d∧(∀fs,d≠.struct fs)∧∀n e,d≠.array n e:=by
  unfold vF at ht;cases hd:P.underlying t with
  |none=>rw[hd] at ht;cases ht
  |some d=>rw[hd] at ht;exact⟨d,rfl,(fun fs e=>by subst e;cases ht),(fun n e' e=>by subst e;cases ht)⟩
 obtain⟨d,hd,h2,h3⟩:=h1
 have h4:(isAgg t).runT P w es=(.ok false w,es):=by
  show(((Sem.program fun p=>Sem.pure p).bind fun p=>(match p.underlying t with|some d=>(eE d:Sem TypeDesc)|none=>stuck "no such type")).bind fun d=>(match d with|.struct _|.array _ _=>(eE true:Sem Bool)|_=>eE false)).runT P w es=_;simp only[Sem.bind,Sem.runT,hd];cases d<;>first|rfl|exact absurd rfl (h2 _)|exact absurd rfl (h3 _ _)
 show((loadVar t a)).runT P w es=_;unfold loadVar;show((isAgg t).bind _).runT P w es=_;rw[FZ,h4];simp only[bu,if_false];show(Sem.load .plain a .pure).runT P w es=_;simp only[Sem.runT,hc];rfl
theorem zU{i:Nat}{rest:List Nat}{o:Oper}{d:Tmp}{t:aX}{x:Operand}(Cj:kd≠.early)(ho:ops[i]?=some o)(hop:o.op=.load t x)(hd:o.dst=some d)(hg:o.guard=none)(ht:vF P t=true){a:cU}
  (hx:(iW fn tmps (.inRegion ops (i::rest)::k) .run kd).eval x=.pointer (some a)) {v:aj} {w:ar} (hc:w.cell? a=some v) :
  eM P main (GK fn tmps (.inRegion ops (i::rest)::k) kd cs) w=.go (GK fn (tmps.setIfInBounds d v) (.inRegion ops rest::k) kd cs) w (seen P fn #[⟨.cell a,false,false⟩]):=by
 obtain⟨dst,op,type,pos,after,guard⟩:=o;dsimp only at hop hd hg;subst hop;subst hd;subst hg;refine N0 Cj ho rfl ?_;show((Instr.loadAt t ((iW fn tmps (.inRegion ops (i::rest)::k) .run kd).eval x)).bind fun v=>eE (Next.value v)).runT P w #[]=_;rw[hx,FZ,PA ht hc];rfl
theorem Ek{a:cU}(hS:S a.block)(fn:dR):∀e∈seen P fn #[⟨.cell a,false,false⟩],NM (fun c=>S c∨O c) O e:=fun e he=>by
 have:=mem_seen he;simp only[eF,lX] at this;subst this;exact .inl ⟨a,rfl,rfl,.inl hS,by simp⟩
theorem Ga{i:Nat}{rest:List Nat}{o:Oper}{x y:Operand}(Cj:kd≠.early)(ho:ops[i]?=some o)(hop:o.op=.send x y)(hg:o.guard=none){c:Nat}{v:aj}
  (hx:(iW fn tmps (.inRegion ops (i::rest)::k) .run kd).eval x=.chan (some c)) (hy:(iW fn tmps (.inRegion ops (i::rest)::k) .run kd).eval y=v):AtSend P c v (GK fn tmps (.inRegion ops (i::rest)::k) kd cs):=by
 refine⟨rfl,rfl,rfl,fun w=>?_⟩;have hw:((ops[i]?).map (cF · (yielded ops tmps))).getD false=true:=by rw[ho];simp[cF,hg]
 have VK:(kd == .early)=false:=beq_eq_false_iff_ne.2 Cj;have e1:eM P false (GK fn tmps (.inRegion ops (i::rest)::k) kd cs) w=eI P true (iW fn tmps (.inRegion ops (i::rest)::k) .run kd) cs none w:=if_pos hw;rw[e1]
 have e2:execOp (iW fn tmps (.inRegion ops (i::rest)::k) .run kd).eval o=eE (Next.comm #[nj c v zS] true .send):=by
  unfold execOp;rw[hop];simp only[hx,hy];rfl
 have e3:eI P true (iW fn tmps (.inRegion ops (i::rest)::k) .run kd) cs none w=dX P true (iW fn tmps (.inRegion ops (i::rest)::k) .run kd) cs none (execOp (iW fn tmps (.inRegion ops (i::rest)::k) .run kd).eval o) w:=by
  unfold eI;have:(iW fn tmps (.inRegion ops (i::rest)::k) .run kd).oper?=some o:=ho;rw[this];rfl
 rw[e3,e2];unfold dX;simp only[if_true,iW,VK,bu,if_false];rfl
theorem Bc{i:Nat}{rest:List Nat}{o:Oper}(ho:ops[i]?=some o)(hd:o.dst=none):eN (GK fn tmps (.inRegion ops (i::rest)::k) kd cs) af=GK fn tmps (.inRegion ops rest::k) kd cs:=by
 simp only[eN,GK,G,iW,Frame.finish,ho,hd,gg]
def vK(P:aI)(f:dR)(captured:Array aj):Goroutine:=
 { frame:={ (default:Frame) with fn:=P.funcs.size,defers:=[{ target:=.fn (.func f) captured,args:=#[] }],mode:=.panicking [goexitEntry] },callers:=[],status:=.running,dying:=none }
def l7(P:aI):Frame:={ (default:Frame) with fn:=P.funcs.size,defers:=[],mode:=.panicking [goexitEntry] }
theorem LX{f:dR}{func:Func}{c:gG}(hf:P.funcs[f]?=some func)(hb:func.body=some c)(hn:(func.name == "runtime.NumGoroutine")=false)(captured:Array aj)(w:ar) :
  eM P false (vK P f captured) w=.go (GK f (captured++aT (func.ntmps-captured.size) af) [.code c] .deferred [l7 P]) w #[]:=by
 have h1:(invoke (.fn (.func f) captured) #[]).runT P w #[]=(.ok (.enter f captured) w,#[]):=by
  show(fh f (#[]++captured)).runT P w #[]=_;unfold fh;show((Sem.program .pure).bind _).runT P w #[]=_;simp only[Sem.bind,Sem.runT];rw[hf];have h4:func.body.isNone=false:=by rw[hb];rfl
  simp only[hn,h4,bu,if_false,Array.empty_append];rfl
 show lD P false (vK P f captured).frame [] none w=_;unfold lD;dsimp only[vK];unfold callDeferred;simp only[h1];simp only[Bool.false_and,bu,if_false,Frame.enter,hf,dH,Option.getD_some,gg,hb];rfl
theorem PJ{f:dR}{func:Func}(hf:P.funcs[f]?=some func)(hr:func.results = #[]):QuitsD P 5 0 (GK f tmps [.inRegion ops []] .deferred [l7 P]):=by
 have hd:deafBehind 0 #[]=0:=rfl;refine .inr ⟨rfl,GK f tmps [] .deferred [l7 P],#[],by simp,fun w=>rfl,?_⟩;refine .inr ⟨rfl,G (iW f tmps [] .returning .deferred) [l7 P],#[],by simp,fun w=>rfl,?_⟩;refine .inr ⟨rfl,G (l7 P) [],#[],by simp,fun w=>?_,?_⟩
 ·show lD P false (iW f tmps [] .returning .deferred) [l7 P] none w=_;unfold lD
  have h1:(results func tmps).runT P w #[]=(.ok (.tuple #[]) w,#[]):=by
   unfold results;rw[hr,Array.mapM_eq_mapM_toList];rfl
  simp only[iW,hf,h1];rfl
 ·refine .inr ⟨rfl,{ frame:=l7 P,callers:=[],status:=.finished,dying:=none },#[],by simp,fun w=>?_,?_⟩
  ·show lD P false (l7 P) [] none w=_;unfold lD;have h2:P.funcs[P.funcs.size]?=none:=Array.getElem?_eq_none (ax _);have h3:(default:Frame).todo=[]:=rfl;simp[l7,Frame.catches,h2,h3,goexitEntry]
  ·exact .inl ⟨rfl,rfl⟩
end
end Go.Lag
namespace Go.Proofs.YtffladgmkiimjaaGreatDoor
open Go.Lag
open Go.Conc
noncomputable def w0:Code:=match Tryz.f178.body with|some (.seq (.seq a _) _)=>a|_=>.skip
noncomputable def w1:Code:=match Tryz.f178.body with|some (.seq (.seq _ (.cond _ a _)) _)=>a|_=>.skip
noncomputable def w2:Code:=match Tryz.f178.body with|some (.seq _ a)=>a|_=>.skip
def opsOf:gG→Array Oper|.region _ ops _=>ops|_=>#[]
theorem Wq:Tryz.f178.body=some (.seq (.seq w0 (.cond (.tmp 6) w1 .skip)) w2):=by kernel_rfl
theorem aaS:w1=.region 1 (opsOf w1) false:=by kernel_rfl
theorem aaR:w2=.region 2 (opsOf w2) false:=by kernel_rfl
theorem aaT:gQ aq fw w0=true:=by kernel_rfl
theorem XY:dP w0=true:=by kernel_rfl
theorem Yg:vF aq 188=true:=by kernel_rfl
theorem Yf:vF aq 189=true:=by kernel_rfl
theorem Yh:vF aq 108=true:=by kernel_rfl
theorem UQ:(opsOf w1).size=3:=by kernel_rfl
theorem UN:(opsOf w2).size=2:=by kernel_rfl
theorem UT:(opsOf w1)[0]?=some ((opsOf w1).getD 0 default)∧((opsOf w1).getD 0 default).op=.load 188 (.tmp 2)∧((opsOf w1).getD 0 default).dst=some 7∧((opsOf w1).getD 0 default).guard=none:=⟨by kernel_rfl,by kernel_rfl,by kernel_rfl,by kernel_rfl⟩
theorem UR:(opsOf w1)[1]?=some ((opsOf w1).getD 1 default)∧((opsOf w1).getD 1 default).op=.load 108 (.tmp 1)∧((opsOf w1).getD 1 default).dst=some 8∧((opsOf w1).getD 1 default).guard=none:=⟨by kernel_rfl,by kernel_rfl,by kernel_rfl,by kernel_rfl⟩
theorem Ru:(opsOf w1)[2]?=some ((opsOf w1).getD 2 default)∧((opsOf w1).getD 2 default).op=.send (.tmp 7) (.tmp 8)∧((opsOf w1).getD 2 default).dst=none∧((opsOf w1).getD 2 default).guard=none:=⟨by kernel_rfl,by kernel_rfl,by kernel_rfl,by kernel_rfl⟩
theorem UO:(opsOf w2)[0]?=some ((opsOf w2).getD 0 default)∧((opsOf w2).getD 0 default).op=.load 189 (.tmp 3)∧((opsOf w2).getD 0 default).dst=some 9∧((opsOf w2).getD 0 default).guard=none:=⟨by kernel_rfl,by kernel_rfl,by kernel_rfl,by kernel_rfl⟩
theorem Rt:(opsOf w2)[1]?=some ((opsOf w2).getD 1 default)∧((opsOf w2).getD 1 default).op=.send (.tmp 9) (.const (.bool true))∧((opsOf w2).getD 1 default).dst=none∧((opsOf w2).getD 1 default).guard=none:=⟨by kernel_rfl,by kernel_rfl,by kernel_rfl,by kernel_rfl⟩
theorem X5:Tryz.f178.results = #[]:=by kernel_rfl
theorem abj:Tryz.f178.ntmps=10:=by kernel_rfl
theorem abl:(Tryz.f178.name == "runtime.NumGoroutine")=false:=by kernel_rfl
abbrev ptr(a:cU):Value:=.pointer (some a)
def Jt(xa pa fa ta:cU):Array Value:=#[ptr xa,ptr pa,ptr fa,ptr ta]++aT 6 af
section
variable{P:aI}{X:Nat→Prop}{w:ar}{xa pa fa ta:cU}{c0 c1:Nat}{p:aj}{s:Bool}{tmps:Array aj}{O:Nat→Prop}
structure WT(tmps:Array aj)(pa fa ta:cU)(s:Bool):Prop where
 size:tmps.size=10
 p:tmps[1]?=some (ptr pa)
 f:tmps[2]?=some (ptr fa)
 t:tmps[3]?=some (ptr ta)
 s:tmps[6]?=some (.bool s)
theorem bq{i:Nat}{v:aj}(h:tmps[i]?=some v):tmps.getD i af=v:=by
 rw[Array.getD_eq_getD_getElem?,h];rfl
theorem A7(e:P=aq)(hf:P.funcs[(178:Nat)]?=some Tryz.f178)(Rf:X ta.block)(ht:w.cell? ta=some (.chan (some c1)))(hs:tmps.size=10)(h3:tmps[3]?=some (ptr ta)) :
  gD P c0 c1 X p false O (GK 178 tmps [.code w2] .deferred [l7 P]) w:=by
 have Cj:CallKind.deferred≠.early:=by simp
 rw[aaR];refine .ctl rfl rfl (tk _ _) rfl rfl ?_;rw[UN];show gD P c0 c1 X p false O (GK 178 tmps [.inRegion (opsOf w2) [0,1]] .deferred [l7 P]) w;refine .one rfl rfl fun w' hr=>?_;have YD:w'.cell? ta=some (.chan (some c1)):=(iF (hr.keep _ (.inl Rf))).trans ht;refine⟨_,_,zU Cj UO.1 UO.2.1 UO.2.2.1 UO.2.2.2 (by rw[e];exact Yf) (a:=ta) (bq h3) YD,Ek Rf _,rfl,rfl,?_⟩;have h9:(tmps.setIfInBounds 9 (.chan (some c1)))[9]?=some (.chan (some c1)):=aZ (by omega);refine .Bd (n:=5) (Ga Cj Rt.1 Rt.2.1 Rt.2.2.2 (c:=c1) (v:=.bool true) (bq h9) rfl) ?_;rw[Bc Rt.1 Rt.2.2.1];exact PJ hf X5
theorem Jw(e:P=aq)(hf:P.funcs[(178:Nat)]?=some Tryz.f178)(Xl:X pa.block)(Y6:X fa.block)(Rf:X ta.block)(hp:w.cell? pa=some p)(hfc:w.cell? fa=some (.chan (some c0)))(ht:w.cell? ta=some (.chan (some c1)))(h:WT tmps pa fa ta s) :
  gD P c0 c1 X p s O (GK 178 tmps [.code (.cond (.tmp 6) w1 .skip),.code w2] .deferred [l7 P]) w:=by
 have Cj:CallKind.deferred≠.early:=by simp
 refine .ctl rfl rfl (sj (x:=s) (bq h.s)) rfl rfl ?_;cases s with
 |false=>
  refine .ctl rfl rfl (fun w=>zm w) rfl rfl ?_;exact A7 e hf Rf ht h.size h.t
 |true=>
  show gD P c0 c1 X p true O (GK 178 tmps [.code w1,.code w2] .deferred [l7 P]) w;rw[aaS];refine .ctl rfl rfl (tk _ _) rfl rfl ?_;rw[UQ];show gD P c0 c1 X p true O (GK 178 tmps [.inRegion (opsOf w1) [0,1,2],.code w2] .deferred [l7 P]) w;refine .one rfl rfl fun w' hr=>?_;have afK:w'.cell? fa=some (.chan (some c0)):=(iF (hr.keep _ (.inl Y6))).trans hfc;have hp':w'.cell? pa=some p:=(iF (hr.keep _ (.inl Xl))).trans hp;have YD:w'.cell? ta=some (.chan (some c1)):=(iF (hr.keep _ (.inl Rf))).trans ht;refine⟨_,_,zU Cj UT.1 UT.2.1 UT.2.2.1 UT.2.2.2 (by rw[e];exact Yg) (a:=fa) (bq h.f) afK,Ek Y6 _,rfl,rfl,?_⟩;refine .one rfl rfl fun w'' hr'=>?_;have afc:w''.cell? pa=some p:=(iF (hr'.keep _ (.inl Xl))).trans hp';have aeV:w''.cell? ta=some (.chan (some c1)):=(iF (hr'.keep _ (.inl Rf))).trans YD;have hsz:=h.size;have h1':(tmps.setIfInBounds 7 (.chan (some c0)))[1]?=some (ptr pa):=by rw[aA (by omega)];exact h.p
  refine⟨_,_,zU Cj UR.1 UR.2.1 UR.2.2.1 UR.2.2.2 (by rw[e];exact Yh) (a:=pa) (bq h1') afc,Ek Xl _,rfl,rfl,?_⟩
  have h7:((tmps.setIfInBounds 7 (.chan (some c0))).setIfInBounds 8 p)[7]?=some (.chan (some c0)):=by
   rw[aA (by omega)];exact aZ (by omega)
  have h8:((tmps.setIfInBounds 7 (.chan (some c0))).setIfInBounds 8 p)[8]?=some p:=aZ (by simp;omega);refine .Be (Ga Cj Ru.1 Ru.2.1 Ru.2.2.2 (c:=c0) (v:=p) (bq h7) (bq h8)) ?_;rw[Bc Ru.1 Ru.2.2.1];refine .ctl rfl rfl (nX _) rfl rfl ?_;refine A7 (tmps:=(tmps.setIfInBounds 7 (.chan (some c0))).setIfInBounds 8 p) e hf Rf aeV (by simp;omega) ?_;rw[aA (by omega),aA (by omega)];exact h.t
theorem worker(e:P=aq)(hf:P.funcs[(178:Nat)]?=some Tryz.f178)(hcl:Closed fw X w)(hX:∀b,X b→P.globals.size≤b)(BI:P.globals.size≤w.heap.size)(hin:P.inits.idxOf? 178=none)
  (wI:X xa.block) (Xl:X pa.block) (Y6:X fa.block) (Rf:X ta.block) (hp:w.cell? pa=some p) (hfc:w.cell? fa=some (.chan (some c0))) (ht:w.cell? ta=some (.chan (some c1)))
  (h0:∀τ d,w0.wp P (fun e a W'=>e=.normal∧WT a.tmps pa fa ta s) ⟨Jt xa pa fa ta,[]⟩ (dr (shut X w) τ d)) :
  gD P c0 c1 X p s (fun _=>False) (vK P 178 #[ptr xa,ptr pa,ptr fa,ptr ta]) w:=by
 have hq:Quiet P:=quiet_of e;have Ql:sH P fw:=KI e;refine .ctl rfl rfl (LX hf Wq abl _) rfl rfl ?_;rw[abj];refine .ctl rfl rfl (jE _ _) rfl rfl (.ctl rfl rfl (jE _ _) rfl rfl ?_);have hwr:WR fw P.globals.size (fun b=>b<w.heap.size) (xo X) (shut X w) w:=N3 hcl hX;have Rg:∀a:cU,X a.block→VR fw (xo X) (ptr a) (ptr a):=fun a ha=>.ptr ⟨uT ha,rfl,rfl⟩
 have Rj:iu fw (xo X) (Jt xa pa fa ta) (Jt xa pa fa ta):=by
  refine iu.append ?_ (.replicate sM 6);exact(((iu.one (Rg xa wI)).push (Rg pa Xl)).push (Rg fa Y6)).push (Rg ta Rf)
 have Xc:=wW (main:=false) (B:=fun b=>b<w.heap.size) hq Ql (by rw[vz];exact BI) (fn:=178) (kd:=.deferred) (by simp) hin (c:=w0) (by rw[e];exact aaT) XY Rj hwr BI N4 (Q:=fun a _=>WT a.tmps pa fa ta s) (fun _ _ _ _ h=>h) h0 (S:=X) (Ba hcl) [.code (.cond (.tmp 6) w1 .skip),.code w2] [l7 P];rw[Gc hcl] at Xc;have lS:=Xc.keep w fun c hc=>⟨hcl.lt hc,id,rfl⟩
 refine gD.CD P c0 c1 lS ?_;rintro O g w' ⟨⟨kO,iL,jJ,ρ1,rfl,MX,hQ,hkn⟩,hk⟩
 have same:∀ {i:Nat} {a:cU},X a.block→kO[i]?=some (ptr a)→iL[i]?=some (ptr a):=by
  intro i a ha hi;obtain⟨y,hy,hv⟩:=MX.get hi;cases hv with
  |@ptr _ a' E9=>
   have h1:=hkn.le _ _ (uT ha);have h2:=E9.block;rw[h1] at h2;have h3:=bf h2;have h4:=E9.off;have h5:=E9.spot;obtain⟨b1,o1,s1⟩:=a;obtain⟨b2,o2,s2⟩:=a';dsimp only at h3 h4 h5;subst h3;subst h4;subst h5;exact hy
 have hs6:iL[6]?=some (.bool s):=by
  obtain⟨y,hy,hv⟩:=MX.get hQ.s;cases hv;exact hy
 have hc:∀ {a:cU},X a.block→w'.cell? a=w.cell? a:=fun ha=>iF (hk _ ha).2.2;exact Jw e hf Xl Y6 Rf ((hc Xl).trans hp) ((hc Y6).trans hfc) ((hc Rf).trans ht) ⟨MX.size▸hQ.size,same Xl hQ.p,same Y6 hQ.f,same Rf hQ.t,hs6⟩
end
end Go.Proofs.YtffladgmkiimjaaGreatDoor
namespace Go.Proofs.YtffladgmkiimjaaGreatDoor
open Go.RowKit Go.Lag
theorem aaP(b:BB)(hb:b.Ok)(men sent marks v:aj)(l:List eA)(hl:∀a∈l,a.Ok)(p:Nat)(hp:p<512)(xb pb fb tb:Nat)(w:ar)(hv:Reads w v l.length (rowOf l))
  (hx:∀i u,(b.open men sent marks v)[i]?=some u→w.cell? ⟨xb,i,none⟩=some u) (hpc:w.cell? ⟨pb,0,none⟩=some (.int .i64 p)) :
  w0.wp aq (fun e a W'=>e=.normal∧WT a.tmps ⟨pb,0,none⟩ ⟨fb,0,none⟩ ⟨tb,0,none⟩ (b.sure l p)) ⟨Jt ⟨xb,0,none⟩ ⟨pb,0,none⟩ ⟨fb,0,none⟩ ⟨tb,0,none⟩,[]⟩ w:=by
 have x0:=hx 0 _ rfl;have x1:=hx 1 _ rfl;have x2:=hx 2 _ rfl;have x3:=hx 3 _ rfl;have x4:=hx 4 _ rfl;have x5:=hx 5 _ rfl;have x6:=hx 6 _ rfl;have x7:=hx 7 _ rfl;have x8:=hx 8 _ rfl;have x9:=hx 9 _ rfl;have nS:=hx 10 _ rfl;have nR:=hx 11 _ rfl;have oO:=hx 12 _ rfl;have n4:=hx 13 _ rfl;have oK:=hx 14 _ rfl;have x15:=hx 15 _ rfl;clear hx;have hS:=wZ b hb men sent marks v l hl p hp w hv;unfold w0 Jt;simp only[Tryz.f178]
 go_wp2_with (go_at_call 105;refine hS.mono ?_;rintro e w2 ⟨rfl,hb2⟩)
 exact⟨rfl,rfl,rfl,rfl,rfl⟩
end Go.Proofs.YtffladgmkiimjaaGreatDoor
