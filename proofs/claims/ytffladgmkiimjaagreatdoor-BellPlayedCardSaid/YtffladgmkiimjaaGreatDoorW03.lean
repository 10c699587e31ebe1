/- LONE WALKS: own (157). THE NUMBERS WHOSE BITS ARE SET, AS A LIST; slic .. -/
import Derived.Test.YtffladgmkiimjaaGreatDoorW02
import Derived.Test.YtffladgmkiimjaaGreatDoorW01
import Derived.Test.YtffladgmkiimjaaGreatDoorW00
import Derived.Laws.AppendOwn
import Derived.Laws.OwnMore
import Derived.Deep.MidRow
set_option linter.all false
set_option maxHeartbeats 100000000
set_option maxRecDepth 1000000
open Array renaming getElem?_eq_some_iff -> ai
open Go renaming TypeId -> aZ,undef -> af,Value -> ak,World -> ar,Operand -> bL,wp_cond_split -> bO,bodyPost_ret -> bm,Calls -> bu,results_tmp -> cH,bodyPost -> dE,wp_seq -> eC,wp_skip -> eI,wpList_store_row -> fO,wp_ret -> fW,info_parts -> j3,maxLen -> jM,wpList_load_row -> mg,bytes -> sB
open Go.Addr renaming add -> k8
open Go.Builtin renaming append_ -> ko
open Go.Code renaming wp -> bZ
open Go.Ending renaming returned -> aF,returned -> aP
open Go.Exit renaming ret -> dP
open Go.Instr renaming indexAt -> eE
open Go.IntKind renaming wrap_i64 -> a8,i64 -> ag
open Go.Lib renaming hid -> aj
open Go.Obj renaming cells -> aw
open Go.Operand renaming tmp -> aM
open Go.Proofs.Tryz renaming underlying26 -> BA,prog -> aq,underlying28 -> cJ,underlying122 -> jd
open Go.Result renaming andThen_ok -> sD
open Go.RowKit renaming Below -> az,Hid -> mS
open Go.RowKit.Below renaming heap_alloc -> aX,refl -> au,heap_setCell -> bt
open Go.Value renaming int -> aB,bool -> aH,agg -> aR,pointer -> aS,slice -> ae,int -> ah,oneCell' -> cj
open Go.World renaming alloc_heap_new -> ay,ownsRow_nil -> dR,size_alloc -> ej
open List renaming range -> aU,take_succ_eq_append_getElem -> bN,mem_range -> bP,mem_cons_of_mem -> bW,eq_nil_of_length_eq_zero -> bf,map_cons -> cZ,drop_eq_getElem_cons -> dS,take_of_length_le -> dp,length_map -> fR,map_append -> fh,map_nil -> gb,getD_cons_zero -> gi,getD_cons_succ -> gp,size_toArray -> jG,range_eq_range' -> mQ,map -> nD,length_filter_le -> py,length_append -> qa,length_take -> vX
open List.range renaming loop -> cg
open Nat renaming le_trans -> aO,le_refl -> ax,lt_of_lt_of_le -> bA,zero_add -> di,zero_le -> iW
open Option.some renaming inj -> bj
open Or renaming inl -> cK
namespace Go.Proofs.YtffladgmkiimjaaGreatDoor
open Go.RowKit Go.Lag
theorem Q5(l:List Mn):∀u∈fF l,u.oneCell'=true:=by
 intro u hu;simp only[fF,List.mem_flatMap] at hu;obtain⟨m,_,hu⟩:=hu;simp at hu;rcases hu with rfl|rfl|rfl<;>rfl
theorem Hj(l:List Mk):∀u∈dY l,u.oneCell'=true:=by
 intro u hu;simp only[dY,List.mem_flatMap] at hu;obtain⟨m,_,hu⟩:=hu;simp at hu;rcases hu with rfl|rfl|rfl<;>rfl
theorem Tz(l:List Int):∀u∈l.map (aB ag),u.oneCell'=true:=by
 intro u hu;simp at hu;obtain⟨x,_,rfl⟩:=hu;rfl
theorem dA{W:ar}{base:Nat}{e:aZ}{size:Nat}{v:ak}{n:Nat}{xs:List ak}(h:W.ownsRow base e size v n xs):∃p c,v=ae p n c:=by
 rcases h.2 with⟨rfl,rfl⟩|⟨g,cap,cur,rfl,_⟩
 .exact⟨_,_,rfl⟩
 exact⟨_,_,rfl⟩
structure su(n:Nat)(a b c:ak):Prop where
 one:∀g,a.ownBlock=some g->n<=g
 two:∀g,b.ownBlock=some g->n<=g
 three:∀g,c.ownBlock=some g->n<=g
theorem su.base{n m:Nat}{a b c:ak}(h:su n a b c)(hm:m<=n):su m a b c:=⟨fun g hg=>aO hm (h.one g hg),fun g hg=>aO hm (h.two g hg),fun g hg=>aO hm (h.three g hg)⟩
theorem Reads.at_{w w':ar}{v:ak}{n:Nat}{xs:List ak}(h:Reads w v n xs)(hs:w.heap.size<=w'.heap.size)(hk:∀g,v.ownBlock=some g->w'.heap[g]?=w.heap[g]?):Reads w' v n xs:=by
 rcases h with h|⟨g,off,cap,h1,h2,h3,h4⟩
 .exact cK h
 exact .inr ⟨g,off,cap,h1,h2,bA h3 hs,fun j u hj=>(World.cell?_of_block (a:=⟨g,off+j,none⟩) (hk g (by rw[h1];rfl))).trans (h4 j u hj)⟩
theorem cU.setRow{b:BB}{m s k:ak}{ml:List Mn}{ss:List Int}{ms:List Mk}{w:ar}{n B:Nat}{cs:Array ak}(h:cU b m s k ml ss ms w)(hf:su n m s k)(hB:B<n):cU b m s k ml ss ms (w.setRow B cs):=
 ⟨h.ok,h.gZ,h.mK,h.lg,h.rm.at_ (by rw[setRow_size];exact ax _) fun g hg=>setRow_other (by have:=hf.one g hg;omega),h.rs.at_ (by rw[setRow_size];exact ax _) fun g hg=>setRow_other (by have:=hf.two g hg;omega),h.rk.at_ (by rw[setRow_size];exact ax _) fun g hg=>setRow_other (by have:=hf.three g hg;omega)⟩
def Typed(w:ar)(v:ak)(t:aZ):Prop:=∀g,v.ownBlock=some g->∃cs,w.heap[g]?=some (aw cs t (0,0))
structure fM(b:BB)(m s k:ak)(ml:List Mn)(ss:List Int)(ms:List Mk)(w:ar):Prop extends cU b m s k ml ss ms w where
 t1:Typed w m 79
 t2:Typed w s 3
 t3:Typed w k 81
theorem Typed.setRow{w:ar}{v:ak}{t:aZ}(h:Typed w v t){B:Nat}{cs:Array ak}(hB:∀g,v.ownBlock=some g->g≠B):Typed (w.setRow B cs) v t:=fun g hg=>by
 obtain⟨c,hc⟩:=h g hg;exact⟨c,(setRow_other (hB g hg)).trans hc⟩
theorem fM.setRow{b:BB}{m s k:ak}{ml:List Mn}{ss:List Int}{ms:List Mk}{w:ar}{n B:Nat}{cs:Array ak}(h:fM b m s k ml ss ms w)(hf:su n m s k)(hB:B<n):fM b m s k ml ss ms (w.setRow B cs):=
 ⟨h.tocU.setRow hf hB,h.t1.setRow fun g hg=>by have:=hf.one g hg;omega,h.t2.setRow fun g hg=>by have:=hf.two g hg;omega,h.t3.setRow fun g hg=>by have:=hf.three g hg;omega⟩
theorem rU{w:ar}{base:Nat}{e:aZ}{size:Nat}{v:ak}{n:Nat}{xs:List ak}(h:w.ownsRow base e size v n xs):Typed w v e:=fun g hg=>by
 rcases h.2 with⟨rfl,_⟩|⟨g',c,cur,rfl,_,h1,_⟩
 .cases hg
 obtain rfl:g'=g:=bj hg;exact⟨cur,h1⟩
theorem cN{w1 w2:ar}{base:Nat}{e:aZ}{size:Nat}{v:ak}{n:Nat}{xs:List ak}(h:w1.ownsRow base e size v n xs)(hb:az w1.heap.size w1 w2):w2.ownsRow base e size v n xs:=fY h fun g hg=>hb.block g (h.lt g hg).2
theorem dn{w1:ar}{base:Nat}{e t:aZ}{size B i:Nat}{v u:ak}{n:Nat}{xs:List ak}{cs:Array ak}(h:w1.ownsRow base e size v n xs)(hB:w1.heap[B]?=some (aw cs t (0,0)))(ht:t≠e):(w1.setCell ⟨B,i,none⟩ u).ownsRow base e size v n xs:=by
 refine fY h fun g hg=>bt _ _ _ _ ?_;show g≠B;rintro rfl;rcases h.2 with⟨rfl,_⟩|⟨g',cap,cur,rfl,_,h1,_⟩
 .cases hg
 have h3:g'=g:=bj hg;subst h3;rw[hB] at h1;cases h1;exact ht rfl
def Gz(w:ar)(b:BB)(bq aK aA:ak)(Z:Array ak)(A B C:Bool)(w9:ar):Prop:=
 ∃m s k,w9.heap[w.heap.size]?=some (aw (b.cells m s k) 28 (0,0))/\(A=false->m=bq)/\(B=false->s=aK)/\(C=false->k=aA)/\w9.heap[w.heap.size+1]?=some (aw Z 28 (0,0))/\az w.heap.size w w9/\w.heap.size+2<=w9.heap.size
theorem Gz.below{w:ar}{b:BB}{bq aK aA:ak}{Z:Array ak}{A B C:Bool}{w9:ar}(h:Gz w b bq aK aA Z A B C w9):az w.heap.size w w9:=by obtain⟨_,_,_,_,_,_,_,_,h,_⟩:=h;exact h
theorem Gz.zero{w:ar}{b:BB}{bq aK aA:ak}{Z:Array ak}{A B C:Bool}{w9:ar}(h:Gz w b bq aK aA Z A B C w9):w9.heap[w.heap.size+1]?=some (aw Z 28 (0,0)):=by obtain⟨_,_,_,_,_,_,_,h,_,_⟩:=h;exact h
theorem Gz.size{w:ar}{b:BB}{bq aK aA:ak}{Z:Array ak}{A B C:Bool}{w9:ar}(h:Gz w b bq aK aA Z A B C w9):w.heap.size+2<=w9.heap.size:=by obtain⟨_,_,_,_,_,_,_,_,_,h⟩:=h;exact h
theorem Gz.next{w:ar}{b:BB}{bq aK aA:ak}{Z:Array ak}{A B C A' B' C':Bool}{w1 w2:ar}(hA:A'=false->A=false)(hB:B'=false->B=false)(hC:C'=false->C=false)(h:Gz w b bq aK aA Z A B C w1)(hb:az w1.heap.size w1 w2):Gz w b bq aK aA Z A' B' C' w2:=by
 obtain⟨m,s,k,h1,h2,h3,h4,h5,h6,h7⟩:=h;exact⟨m,s,k,(hb.block _ (by omega)).trans h1,fun h=>h2 (hA h),fun h=>h3 (hB h),fun h=>h4 (hC h),(hb.block _ (by omega)).trans h5,h6.trans (hb.mono (by omega)),aO h7 hb.size⟩
theorem WH(b:BB)(bq aK aA:ak)(ml:List Mn)(ss:List Int)(ms:List Mk)(w:ar)(hB:cU b bq aK aA ml ss ms w) :
  bu aq 157 #[aR (b.cells bq aK aA)] w fun e w'=>∃m' s' k',e=aF (aR (b.cells m' s' k'))/\fM b m' s' k' ml ss ms w'/\su w.heap.size m' s' k'/\az w.heap.size w w':=by
 have N2:=hB.gZ.len;have hk3:=hB.lg.len;have hs3:ss.length<=3:=by have:=hB.mK.len;have:=hB.ok.eh;omega
 obtain⟨pm,cm,rfl,_⟩:=aW hB.rm;obtain⟨pn,cn,rfl,_⟩:=aW hB.rs;obtain⟨pk,ck,rfl,_⟩:=aW hB.rk;have ht:=Two.mk' w (b.cells (ae pm ml.length cm) (ae pn ss.length cn) (ae pk ms.length ck)) 28 #[ah ag 0,ah ag 0,ah ag 0,ah ag 0,ah ag 0,ah ag 0,ah ag 0,ah ag 0,ah ag 0,ah ag 0,ah ag 0,ah ag 0,ae none 0 0,ae none 0 0,ae none 0 0] 28
 go_enter Tryz.func157,Tryz.ntmps157
 go_wp2
 refine Ph.bY (by kernel_rfl) [
 pV (pv w.heap.size 12),
  pV (ae pm ml.length cm),
  fun v ds w9=>w9.ownsRow (w.heap.size+2) 79 3 v ml.length (fF ml),
  pV (pv w.heap.size 13),
  pV (ae pn ss.length cn),
  fun v ds w9=>w9.ownsRow (w.heap.size+2) 3 1 v ss.length (ss.map (aB ag)),
  pV (pv w.heap.size 14),
  pV (ae pk ms.length ck),
  fun v ds w9=>w9.ownsRow (w.heap.size+2) 81 3 v ms.length (dY ms),
  pV (pv w.heap.size 12),
  fun v ds w9=>∃x s m,ds[1]?=some x/\w9.heap[w.heap.size]?=some (aw (b.cells x s m) 28 (0,0)),
  pV (pv w.heap.size 13),
  fun v ds w9=>∃x y m,ds[5]?=some x/\ds[1]?=some y/\w9.heap[w.heap.size]?=some (aw (b.cells x y m) 28 (0,0)),
  pV (pv w.heap.size 14),
  fun v ds w9=>∃x y z,ds[5]?=some x/\ds[8]?=some y/\ds[1]?=some z/\w9.heap[w.heap.size]?=some (aw (b.cells x y z) 28 (0,0))]
  (fun L w9=>Gz w b (ae pm ml.length cm) (ae pn ss.length cn) (ae pk ms.length ck) #[ah ag 0,ah ag 0,ah ag 0,ah ag 0,ah ag 0,ah ag 0,ah ag 0,ah ag 0,ah ag 0,ah ag 0,ah ag 0,ah ag 0,ae none 0 0,ae none 0 0,ae none 0 0] (L 10) (L 12) (L 14) w9) [(1,pv w.heap.size 0)] (by kernel_rfl) ?rst (fun L L2 w1 w2 SE h hb=>h.next (SE 10) (SE 12) (SE 14) hb) (⟨_,_,_,ht.one,fun _=>rfl,fun _=>rfl,fun _=>rfl,ht.two,ht.below,ht.size⟩) ⟨rfl,trivial⟩ ?reach ?rfin
 case rst=>
  refine⟨Ph.sV,Ph.sV,?_,Ph.sV,Ph.sV,?_,Ph.sV,Ph.sV,?_,Ph.sV,?_,Ph.sV,?_,Ph.sV,?_,trivial⟩
  .rintro v ds L w1 w2 hS h hb;exact cN h hb
  .rintro v ds L w1 w2 hS h hb;exact cN h hb
  .rintro v ds L w1 w2 hS h hb;exact cN h hb
  .rintro v ds L w1 w2 hS ⟨x,s,m,h1,h2⟩ hb;exact⟨x,s,m,h1,(hb.block _ (ai.1 h2).1).trans h2⟩
  .rintro v ds L w1 w2 hS ⟨x,s,m,h1,h2,h3⟩ hb;exact⟨x,s,m,h1,h2,(hb.block _ (ai.1 h3).1).trans h3⟩
  rintro v ds L w1 w2 hS ⟨x,s,m,h1,h2,h3,h4⟩ hb;exact⟨x,s,m,h1,h2,h3,(hb.block _ (ai.1 h4).1).trans h4⟩
 case reach=>
  refine⟨?_,?_,?_,?_,?_,?_,?_,?_,?_,?_,?_,?_,?_,?_,?_,trivial⟩<;>rintro Lf ev w1 hn vK hS hc hg hf ⟨b1,-⟩ hd
  .clear hd;refine Ph.yv ?_ rfl;go_simp
  .have d0:ev (aM 3)=_:=hd.1 rfl;clear hd;obtain⟨m0,s0,k0,hb0,q1,q2,q3,_⟩:=hS;obtain rfl:=q1 (hn 10 (by kernel_rfl));have x:=aJ hb0 12 _ rfl;refine Ph.yv ?_ rfl;go_simp
  .have d1:ev (aM 4)=_:=hd.1 rfl;clear hd;refine Lag.Yields.call (f:=154) (args:=#[ae pm ml.length cm]) ?_ (Va _ ml.length (fF ml) (by rw[wA];omega) (Q5 ml) (by omega) w1 (hB.rm.below hS.below)) ?_
   .go_simp
   rintro e w2 ⟨v',rfl,ho,hb⟩;exact⟨_,rfl,ownsRow_base ho hS.size,cK hb⟩
  .clear hd;refine Ph.yv ?_ rfl;go_simp
  .have d3:ev (aM 6)=_:=hd.1 rfl;clear hd;obtain⟨m0,s0,k0,hb0,q1,q2,q3,_⟩:=hS;obtain rfl:=q2 (hn 12 (by kernel_rfl));have x:=aJ hb0 13 _ rfl;refine Ph.yv ?_ rfl;go_simp
  .have d4:ev (aM 7)=_:=hd.1 rfl;clear hd;refine Lag.Yields.call (f:=156) (args:=#[ae pn ss.length cn]) ?_ (R1 _ ss.length (ss.map (aB ag)) (by simp) (Tz ss) (by omega) w1 (hB.rs.below hS.below)) ?_
   .go_simp
   rintro e w2 ⟨v',rfl,ho,hb⟩;exact⟨_,rfl,ownsRow_base ho hS.size,cK hb⟩
  .clear hd;refine Ph.yv ?_ rfl;go_simp
  .have d6:ev (aM 9)=_:=hd.1 rfl;clear hd;obtain⟨m0,s0,k0,hb0,q1,q2,q3,_⟩:=hS;obtain rfl:=q3 (hn 14 (by kernel_rfl));have x:=aJ hb0 14 _ rfl;refine Ph.yv ?_ rfl;go_simp
  .have d7:ev (aM 10)=_:=hd.1 rfl;clear hd;refine Lag.Yields.call (f:=149) (args:=#[ae pk ms.length ck]) ?_ (OC _ ms.length (dY ms) (by rw[qf];omega) (Hj ms) (by omega) w1 (hB.rk.below hS.below)) ?_
   .go_simp
   rintro e w2 ⟨v',rfl,ho,hb⟩;exact⟨_,rfl,ownsRow_base ho hS.size,cK hb⟩
  .clear hd;refine Ph.yv ?_ rfl;go_simp
  .have d9:ev (aM 12)=_:=hd.1 rfl;have d2:w1.ownsRow (w.heap.size+2) 79 3 (ev (aM 5)) ml.length (fF ml):=hd.2.1 rfl;clear hd;obtain⟨p5,c5,e5⟩:=dA d2;have hb:=hS.below;have hz:=hS.zero;have hsz:=hS.size;obtain⟨m0,s0,k0,hb0,q1,q2,q3,_⟩:=hS;have c1:=aJ hb0 12 _ rfl;have f1:=dg hb0 12;refine Lag.Yields.skip (w':=w1.setCell ⟨w.heap.size,12,none⟩ (ev (aM 5))) ?_ ⟨⟨_,s0,k0,rfl,dh _ hb0⟩,.inr ⟨⟨_,s0,k0,dh _ hb0,(by intro h;simp[Ph.upd] at h),q2,q3,(bt _ _ _ _ (by show _≠w.heap.size;omega)).trans hz,hb.setCell (p:=⟨w.heap.size,12,none⟩) (ax _) _,by simpa using hsz⟩,?_⟩⟩
   .rw[e5];go_simp
   .intro j u ds hj hL hp
    match j,hp with
    |0,hp=>exact hp
    |1,hp=>exact hp
    |2,hp=>exact dn hp hb0 (by decide)
    |3,hp=>exact hp
    |4,hp=>exact hp
    |5,hp=>exact dn hp hb0 (by decide)
    |6,hp=>exact hp
    |7,hp=>exact hp
    |8,hp=>exact dn hp hb0 (by decide)
    |9,hp=>exact hp
    |10,_=>exact(hj rfl).elim
    |11,hp=>exact hp
    |12,_=>rw[hn 12 (by kernel_rfl)] at hL;cases hL
    |13,hp=>exact hp
    |14,_=>rw[hn 14 (by kernel_rfl)] at hL;cases hL
    |j+15,_=>trivial
  .clear hd;refine Ph.yv ?_ rfl;go_simp
  .have d11:ev (aM 13)=_:=hd.1 rfl;have d5:w1.ownsRow (w.heap.size+2) 3 1 (ev (aM 8)) ss.length (ss.map (aB ag)):=hd.2.1 rfl;have d10:∃x s m,(_:List ak)[1]?=some x/\w1.heap[w.heap.size]?=some (aw (b.cells x s m) 28 (0,0)):=hd.2.2.1 rfl;have d1:ev (aM 4)=_:=hd.2.2.2.2.1 rfl;clear hd;obtain⟨p5,c5,e8⟩:=dA d5;have hb:=hS.below;have hz:=hS.zero;have hsz:=hS.size;obtain⟨x,s,m,h1,h2⟩:=d10;obtain⟨m0,s0,k0,hb0,q1,q2,q3,_⟩:=hS;rw[hb0] at h2;cases h2;have c1:=aJ hb0 13 _ rfl;have f1:=dg hb0 13;refine Lag.Yields.skip (w':=w1.setCell ⟨w.heap.size,13,none⟩ (ev (aM 8))) ?_ ⟨⟨_,_,_,h1,rfl,dh _ hb0⟩,.inr ⟨⟨_,_,_,dh _ hb0,(fun h=>q1 (by simpa [Ph.upd] using h)),(by intro h;simp[Ph.upd] at h),q3,(bt _ _ _ _ (by show _≠w.heap.size;omega)).trans hz,hb.setCell (p:=⟨w.heap.size,13,none⟩) (ax _) _,by simpa using hsz⟩,?_⟩⟩
   .rw[e8];go_simp
   .intro j u ds hj hL hp
    match j,hp with
    |0,hp=>exact hp
    |1,hp=>exact hp
    |2,hp=>exact dn hp hb0 (by decide)
    |3,hp=>exact hp
    |4,hp=>exact hp
    |5,hp=>exact dn hp hb0 (by decide)
    |6,hp=>exact hp
    |7,hp=>exact hp
    |8,hp=>exact dn hp hb0 (by decide)
    |9,hp=>exact hp
    |10,⟨x,s,m,h1,h2⟩=>rw[hb0] at h2;cases h2;exact⟨_,_,_,h1,dh _ hb0⟩
    |11,hp=>exact hp
    |12,_=>exact(hj rfl).elim
    |13,hp=>exact hp
    |14,_=>rw[hn 14 (by kernel_rfl)] at hL;cases hL
    |j+15,_=>trivial
  .clear hd;refine Ph.yv ?_ rfl;go_simp
  have d13:ev (aM 14)=_:=hd.1 rfl;have d8:w1.ownsRow (w.heap.size+2) 81 3 (ev (aM 11)) ms.length (dY ms):=hd.2.1 rfl;have d12:∃x y m,(_:List ak)[5]?=some x/\(_:List ak)[1]?=some y/\w1.heap[w.heap.size]?=some (aw (b.cells x y m) 28 (0,0)):=hd.2.2.1 rfl;have d1:ev (aM 4)=_:=hd.2.2.2.2.1 rfl;clear hd;obtain⟨p5,c5,e11⟩:=dA d8;have hb:=hS.below;have hz:=hS.zero;have hsz:=hS.size;obtain⟨x,y,m,h1,h2,h3⟩:=d12;obtain⟨m0,s0,k0,hb0,q1,q2,q3,_⟩:=hS;rw[hb0] at h3;cases h3;have c1:=aJ hb0 14 _ rfl;have f1:=dg hb0 14;refine Lag.Yields.skip (w':=w1.setCell ⟨w.heap.size,14,none⟩ (ev (aM 11))) ?_ ⟨⟨_,_,_,h1,h2,rfl,dh _ hb0⟩,.inr ⟨⟨_,_,_,dh _ hb0,(fun h=>q1 (by simpa [Ph.upd] using h)),(fun h=>q2 (by simpa [Ph.upd] using h)),(by intro h;simp[Ph.upd] at h),(bt _ _ _ _ (by show _≠w.heap.size;omega)).trans hz,hb.setCell (p:=⟨w.heap.size,14,none⟩) (ax _) _,by simpa using hsz⟩,?_⟩⟩
  .rw[e11];go_simp
  .intro j u ds hj hL hp
   match j,hp with
   |0,hp=>exact hp
   |1,hp=>exact hp
   |2,hp=>exact dn hp hb0 (by decide)
   |3,hp=>exact hp
   |4,hp=>exact hp
   |5,hp=>exact dn hp hb0 (by decide)
   |6,hp=>exact hp
   |7,hp=>exact hp
   |8,hp=>exact dn hp hb0 (by decide)
   |9,hp=>exact hp
   |10,⟨x,s,m,h1,h2⟩=>rw[hb0] at h2;cases h2;exact⟨_,_,_,h1,dh _ hb0⟩
   |11,hp=>exact hp
   |12,⟨x,y,m,h1,h2,h3⟩=>rw[hb0] at h3;cases h3;exact⟨_,_,_,h1,h2,dh _ hb0⟩
   |13,hp=>exact hp
   |14,_=>exact(hj rfl).elim
   |j+15,_=>trivial
 case rfin=>
  intro a2 w2 hR;have hS:=hR.s;have e2:w2.ownsRow (w.heap.size+2) 79 3 (a2.tmps.getD 5 af) ml.length (fF ml):=hR.val 2 (by decide);have e5:w2.ownsRow (w.heap.size+2) 3 1 (a2.tmps.getD 8 af) ss.length (ss.map (aB ag)):=hR.val 5 (by decide);have e8:w2.ownsRow (w.heap.size+2) 81 3 (a2.tmps.getD 11 af) ms.length (dY ms):=hR.val 8 (by decide);obtain⟨x,y,z,h5,h8,h11,l9⟩:=hR.val 14 (by decide);have k1:a2.tmps.getD 1 af=pv w.heap.size 0:=hR.kept (by kernel_rfl);have k2:a2.tmps.getD 2 af=pv (w.heap.size+1) 0:=hR.kept (by kernel_rfl);have k0:a2.tmps.getD 0 af=aR (b.cells (ae pm ml.length cm) (ae pn ss.length cn) (ae pk ms.length ck)):=hR.kept (by kernel_rfl);have ha:=hR.lits 16 rfl;simp only[aU,cg,nD] at ha;clear hR;have e5':a2.tmps.getD 5 af=x:=bj h5;have e8':a2.tmps.getD 8 af=y:=bj h8;have aeX:a2.tmps.getD 11 af=z:=bj h11;rw[e5'] at e2;rw[e8'] at e5;rw[aeX] at e8;rw[k0,k1,k2] at ha;generalize a2.tmps.getD=zz at ha;clear k0 k1 k2 h5 h8 h11 e5' e8' aeX;obtain⟨p5,c5,rfl⟩:=dA e2;obtain⟨p8,c8,rfl⟩:=dA e5;obtain⟨VI,c11,rfl⟩:=dA e8;have HX:=aj l9;have HZ:=aj hS.zero;have FH:=aj hS.below;have H2:=aj e2;have H5:=aj e5;have H8:=aj e8;have HB:=aj hB;clear l9 hS e2 e5 e8 hB ht;subst ha
  go_wp2_with (first
   |(refine mg rfl 28 _ rfl _ rfl 28 _ (0,0) _ HX.out cJ rfl (by kernel_rfl) ?_)
   |(refine fO rfl 28 _ _ rfl _ _ rfl rfl 28 _ HZ.out (by kernel_rfl) rfl (by simp[cj]) ?_))
  refine bm (results_cell_row rfl _ _ (w.heap.size+1) 28 _ (0,0) _ rfl (cV HZ.out) cJ rfl (by kernel_rfl)) rfl ⟨_,_,_,rfl,?_,⟨fun g hg=>by have:=(H2.out.lt g hg).1;omega,fun g hg=>by have:=(H5.out.lt g hg).1;omega,fun g hg=>by have:=(H8.out.lt g hg).1;omega⟩,dv FH.out (by omega)⟩;have hz:=HZ.out;have ns:∀ {e size v n xs},w2.ownsRow (w.heap.size+2) e size v n xs->(w2.setRow (w.heap.size+1) (b.cells (ae p5 ml.length c5) (ae p8 ss.length c8) (ae VI ms.length c11))).ownsRow (w.heap.size+2) e size v n xs:=fun h=>fY h fun g hg=>setRow_other (by have:=(h.lt g hg).1;omega);exact⟨⟨HB.out.ok,HB.out.gZ,HB.out.mK,HB.out.lg,Reads.iT (ns H2.out) (by omega) (by rw[wA];omega),Reads.iT (ns H5.out) (by omega) (by simp),Reads.iT (ns H8.out) (by omega) (by rw[qf];omega)⟩,rU (ns H2.out),rU (ns H5.out),rU (ns H8.out)⟩
def dV(n mask:Nat):List Nat:=(aU n).filter fun i=>mask.testBit i
def uG(n mask:Nat):List Int:=(dV n mask).map fun(i:Nat)=>(i:Int)
theorem zk{W:ar}{b1 b2:Nat}{e1 e2:aZ}{s1 s2:Nat}{v1 v2:ak}{n1 n2:Nat}{x1 x2:List ak}(h1:W.ownsRow b1 e1 s1 v1 n1 x1)(h2:W.ownsRow b2 e2 s2 v2 n2 x2)(he:e1≠e2){g:Nat}(hg:v1.ownBlock=some g):some g≠v2.ownBlock:=by
 intro h;rcases h1.2 with⟨rfl,_⟩|⟨g1,c1,q1,rfl,_,a1,_⟩
 .cases hg
 rcases h2.2 with⟨rfl,_⟩|⟨g2,c2,q2,rfl,_,a2,_⟩
 .cases h
 obtain rfl:g1=g:=bj hg;obtain rfl:g1=g2:=bj h;rw[a1] at a2;cases a2;exact he rfl
theorem lH{W:ar}{b1:Nat}{e1 t:aZ}{s1:Nat}{v1:ak}{n1:Nat}{x1:List ak}{B:Nat}{cs:Array ak}(h1:W.ownsRow b1 e1 s1 v1 n1 x1)(hB:W.heap[B]?=some (aw cs t (0,0)))(he:t≠e1):some B≠v1.ownBlock:=by
 intro h;rcases h1.2 with⟨rfl,_⟩|⟨g1,c1,q1,rfl,_,a1,_⟩
 .cases h
 obtain rfl:B=g1:=bj h;rw[hB] at a1;cases a1;exact he rfl
theorem rI(n mask:Nat):dV (n+1) mask=dV n mask++if mask.testBit n then[n] else[]:=by
 unfold dV;rw[List.range_succ,List.filter_append];cases h:mask.testBit n<;>simp[h]
theorem qN(n mask:Nat):(dV n mask).length<=n:=by
 have:=py (fun i=>mask.testBit i) (aU n);simpa [dV] using this
end Go.Proofs.YtffladgmkiimjaaGreatDoor
namespace Go.Lag
open Go Go.RowKit
theorem Yields.uq{P:Program}{o:Oper}{ev:bL->ak}{w:ar}{R:ak->ar->Prop}(s x:bL)(t:aZ)(ho:o.op=.call { callee:=.builtin .append,args:=#[s,x],argTypes:=#[t,t] })
  (base:Nat) (e:aZ) (i:TypeInfo) (z:ak) (size sB:Nat) (ht:P.underlying t=some (.slice e)) (hi:P.info? e=some i) (hz:i.zero=some z) (hsize:i.size=size) (hby:i.bytes=sB) (hzs:z.cells.size=size) (hsz:0<size)
  (v:ak) (n:Nat) (xs:List ak) (hs:ev s=v) (hown:w.ownsRow base e size v n xs) (ad:Addr) (m c:Nat) (news:List ak) (hx:ev x=.slice (some ad) m c) (hl:news.length=m*size) (hnews:∀j u,news[j]?=some u->w.cell? (ad.add j)=some u) (h1:∀u∈news,u.oneCell'=true)
  (h63:n+m<=jM) (hbytes:(n+m)*sB<=140737488355328) (hbase:base<=w.heap.size)
  (h:∀v' w',w'.ownsRow base e size v' (n+m) (xs++news)->w.grownBy w' v.ownBlock->(v'=.slice none 0 0↔v=.slice none 0 0/\m=0)->R v' w'):Lag.Yields P o ev w R:=by
 obtain⟨v',w',hr,h2,h3,h4⟩:=run_append_own (P:=P) w base t o.type e i z size sB ht hi hz hsize hby hzs hsz v n xs hown ad m c news hl hnews h1 h63 hbytes hbase;refine Lag.Yields.value (v:=v') (w':=w') ?_ (h v' w' h2 h3 h4);unfold execOp;simp only[ho,resolve,invoke,builtin,Sem.run_bind,Sem.run_pure,sD,List.map_toArray,cZ,gb,hs,hx,hr]
def Src(w:ar)(sv:ak)(m:Nat)(news:List ak):Prop:=
 (sv=.slice none 0 0/\m=0/\news=[])\/∃ad c,sv=.slice (some ad) m c/\∀j u,news[j]?=some u->w.cell? (ad.add j)=some u
section
variable{P:Program}{o:Oper}{ev:bL->ak}{w:ar}{R:ak->ar->Prop}
theorem Ea(base:Nat)(t ty e:aZ)(i:TypeInfo)(z:ak)(size sB:Nat)(ht:P.underlying t=some (.slice e))(hi:P.info? e=some i)(hz:i.zero=some z)
  (hsize:i.size=size) (hby:i.bytes=sB) (hzs:z.cells.size=size) (hsz:0<size)
  (v:ak) (n:Nat) (xs:List ak) (hown:w.ownsRow base e size v n xs) (sv:ak) (m:Nat) (news:List ak) (hl:news.length=m*size) (EF:Src w sv m news) (h1:∀u∈news,u.oneCell'=true)
  (h63:n+m<=jM) (hbytes:(n+m)*sB<=140737488355328) (hbase:base<=w.heap.size) :
  ∃v' w',(ko #[t,t] ty #[v,sv]).run P w=.ok v' w'/\w'.ownsRow base e size v' (n+m) (xs++news)/\w.grownBy w' v.ownBlock:=by
 rcases EF with⟨rfl,rfl,rfl⟩|⟨ad,c,rfl,hnews⟩
 .refine⟨v,w,run_append_owned_none w base t ty e i size ht hi v n xs hown,by simpa using hown,rfl,rfl,rfl,ax _,fun _ _ _=>rfl⟩
 obtain⟨v',w',h2,h3,h4,_⟩:=run_append_own (P:=P) w base t ty e i z size sB ht hi hz hsize hby hzs hsz v n xs hown ad m c news hl hnews h1 h63 hbytes hbase;exact⟨v',w',h2,h3,h4⟩
theorem JW{w':ar}{v':ak}(base:Nat)(t ty e:aZ)(i:TypeInfo)(z:ak)(size sB:Nat)(ht:P.underlying t=some (.slice e))(hi:P.info? e=some i)(hz:i.zero=some z)(hsize:i.size=size)(hby:i.bytes=sB)
  (v:ak) (n:Nat) (xs:List ak) (hown:w.ownsRow base e size v n xs) (sv:ak) (m:Nat) (news:List ak) (hl:news.length=m*size) (EF:Src w sv m news) (h1:∀u∈news,u.oneCell'=true)
  (h63:n+m<=jM) (hbytes:(n+m)*sB<=140737488355328) (hr:(ko #[t,t] ty #[v,sv]).run P w=.ok v' w') :
  ∀ {b2:Nat} {u:ak} {n2:Nat} {ys:List ak},n2<=n->w.ownsRow b2 e size u n2 ys->w'.ownsRow b2 e size u n2 ys:=by
 intro b2 u n2 ys yK hu;subst hsize;subst hby;have Z5:n+m<=9223372036854775807:=by simp only[jM] at h63;omega
 rcases EF with⟨rfl,rfl,rfl⟩|⟨ad,c,rfl,hnews⟩
 .have h2:=run_append_owned_none w base t ty e i i.size ht hi v n xs hown;rw[h2] at hr;cases hr;exact hu
 have grow:∀(o:Obj),(w.drew.alloc o).ownsRow b2 e i.size u n2 ys:=fun o=>by
  refine⟨hu.1,?_⟩;rcases hu.2 with h|⟨g,cap,cur,h2,h3,h4,h5⟩
  .exact .inl h
  exact .inr ⟨g,cap,cur,h2,h3,(aX w.drew o g (ai.1 h4).1).trans h4,h5⟩
 rcases hown.2 with⟨rfl,rfl⟩|⟨g,cap,cur,rfl,hbg,hg,vo,hcm,hcs,T9⟩
 .by_cases hm:m=0
  .subst hm;have hn:news=[]:=bf (by simpa using hl);subst hn
   have h2:(ko #[t,t] ty #[.slice none 0 0,.slice (some ad) 0 c]).run P w=.ok (.slice none 0 0) w:=by
    simp[ko,run_underlying ht,sizeOf,typeInfo,hi,Builtin.lenOf,Builtin.firstCells,loadCells,loadCellsFrom]
   rw[h2] at hr;cases hr;exact hu
  have h2:=run_append_nil (P:=P) w t ty e i z ht hi hz ad m c news hl hnews (by omega) (by omega) (by have hb:=hbytes;simp only[di] at hb;omega);rw[h2] at hr;cases hr;exact grow _
 by_cases hroom:n+m<=cap
 .have Ul:n*i.size+news.length<=cur.size:=by rw[hl,hcs,<-Nat.add_mul];exact Nat.mul_le_mul_right _ hroom
  have h2:=run_append_room (P:=P) w t ty e i ht hi g n cap cur hg ad m c news hl hnews h1 hroom Ul;rw[h2] at hr;cases hr;refine⟨hu.1,?_⟩;rcases hu.2 with h|⟨g2,abp,aiL,k2,h3,h4,h5,h6,h7,h8⟩
  .exact .inl h
  refine .inr ?_
  by_cases EM:g2=g
  .subst EM;rw[hg] at h4;cases h4;refine⟨g2,abp,_,k2,h3,setRow_heap w g2 cur _ e _ hg,h5,h6,?_,?_⟩
   .rw[<-h7];simp only[jG,qa,vX,List.length_drop,Array.length_toList];omega
   rw[<-h8];have hle:n2*i.size<=n*i.size:=Nat.mul_le_mul_right _ yK;simp only[List.append_assoc];rw[List.take_append_of_le_length (by rw[vX,Array.length_toList];omega),List.take_take,Nat.min_eq_left hle]
  exact⟨g2,abp,aiL,k2,h3,(setRow_other w g g2 _ EM).trans h4,h5,h6,h7,h8⟩
 have holds:∀j u,xs[j]?=some u->w.cell? ((⟨g,0,none⟩:Addr).add j)=some u:=hown.cells (g:=g) rfl;have h2:=run_append_grow (P:=P) w t ty e i z ht hi hz ⟨g,0,none⟩ n cap xs hown.1 holds ad m c news hl hnews (by omega) (by omega) (growslice_fits (by omega) hbytes);rw[h2] at hr;cases hr;exact grow _
theorem Yields.OQ(s x:bL)(t:aZ)(ho:o.op=.call { callee:=.builtin .append,args:=#[s,x],argTypes:=#[t,t] })
  (base:Nat) (e:aZ) (i:TypeInfo) (z:ak) (size sB:Nat) (ht:P.underlying t=some (.slice e)) (hi:P.info? e=some i) (hz:i.zero=some z) (hsize:i.size=size) (hby:i.bytes=sB) (hzs:z.cells.size=size) (hsz:0<size)
  (v:ak) (n:Nat) (xs:List ak) (hs:ev s=v) (hown:w.ownsRow base e size v n xs) (sv:ak) (m:Nat) (news:List ak) (hx:ev x=sv) (hl:news.length=m*size) (EF:Src w sv m news) (h1:∀u∈news,u.oneCell'=true)
  (h63:n+m<=jM) (hbytes:(n+m)*sB<=140737488355328) (hbase:base<=w.heap.size)
  (h:∀v' w',w'.ownsRow base e size v' (n+m) (xs++news)->w.grownBy w' v.ownBlock->(∀ {b2:Nat} {u:ak} {n2:Nat} {ys:List ak},n2<=n->w.ownsRow b2 e size u n2 ys->w'.ownsRow b2 e size u n2 ys)->R v' w'):Lag.Yields P o ev w R:=by
 obtain⟨v',w',hr,h2,h3⟩:=Ea (P:=P) (w:=w) base t o.type e i z size sB ht hi hz hsize hby hzs hsz v n xs hown sv m news hl EF h1 h63 hbytes hbase;refine Lag.Yields.value (v:=v') (w':=w') ?_ (h v' w' h2 h3 (JW base t o.type e i z size sB ht hi hz hsize hby v n xs hown sv m news hl EF h1 h63 hbytes hr));unfold execOp;simp only[ho,resolve,invoke,builtin,Sem.run_bind,Sem.run_pure,sD,List.map_toArray,cZ,gb,hs,hx,hr]
theorem AH(base:Nat)(t ty e:aZ)(i:TypeInfo)(z:ak)(size sB:Nat)(ht:P.underlying t=some (.slice e))(hi:P.info? e=some i)(hz:i.zero=some z)
  (hsize:i.size=size) (hby:i.bytes=sB) (hzs:z.cells.size=size) (hsz:0<size) (q:Nat) (hq:w.heap[q]?=some (.cells #[] e (0,0))) (hbq:base<=q)
  (sv:ak) (m:Nat) (news:List ak) (hl:news.length=m*size) (EF:Src w sv m news) (h1:∀u∈news,u.oneCell'=true) (h63:m<=jM) (hbytes:m*sB<=140737488355328) :
  ∃v' w',(ko #[t,t] ty #[.slice (some ⟨q,0,none⟩) 0 0,sv]).run P w=.ok v' w'/\w'.ownsRow base e size v' m news/\az w.heap.size w w'/\(m=0->v'=.slice (some ⟨q,0,none⟩) 0 0):=by
 have hql:=(ai.1 hq).1;have hown:w.ownsRow base e size (.slice (some ⟨q,0,none⟩) 0 0) 0 []:=⟨by simp,.inr ⟨q,0,#[],rfl,hbq,hq,ax _,iW _,by simp,by simp⟩⟩
 by_cases hm:m=0
 .subst hm;have hn:news=[]:=bf (by simpa using hl);subst hn;rcases EF with⟨rfl,_,_⟩|⟨ad,c,rfl,hnews⟩
  .exact⟨_,w,run_append_owned_none w base t ty e i size ht hi _ 0 [] hown,hown,au _ _,fun _=>rfl⟩
  have hr:=run_append_room (P:=P) w t ty e i ht hi q 0 0 #[] hq ad 0 c [] (by simp) hnews h1 (by omega) (by simp)
  have hk:∀k,(w.setRow q (((#[]:Array ak).toList.take (0*i.size)++[]++(#[]:Array ak).toList.drop (0*i.size+([]:List ak).length)).toArray)).heap[k]?=w.heap[k]?:=fun k=>by
   by_cases hkq:k=q
   .subst hkq;rw[setRow_heap w k #[] _ e (0,0) hq,hq];simp
   exact setRow_other w q k _ hkq
  refine⟨_,_,hr,⟨by simp,.inr ⟨q,0,#[],rfl,hbq,(hk q).trans hq,ax _,iW _,by simp,by simp⟩⟩,⟨rfl,rfl,rfl,by simp,fun k _=>hk k⟩,fun _=>rfl⟩
 rcases EF with⟨_,h0,_⟩|⟨ad,c,rfl,hnews⟩
 .exact absurd h0 hm
 subst hsize;subst hby;have hr:=run_append_grow (P:=P) w t ty e i z ht hi hz ⟨q,0,none⟩ 0 0 [] (by simp) (fun j u hj=>by simp at hj) ad m c news hl hnews (by omega) (by simp only[jM] at h63;omega) (growslice_fits (by omega) (by simpa using hbytes));have hge:=grownCap_ge w (0+m) 0 e;have hcm:grownCap w (0+m) 0 e<=maxLen:=grownCap_le_maxLen w (0+m) 0 e (by omega);simp only[di] at hr hge hcm;refine⟨_,_,hr,⟨by simpa using hl,.inr ⟨w.heap.size,grownCap w m 0 e,_,rfl,by omega,heap_alloc_new w.drew _,by omega,hcm,?_,?_⟩⟩,?_,fun h=>absurd h hm⟩
 .simp only[Array.size_append,jG,size_zeroCells,hzs,hl,List.length_nil,di];rw[<-Nat.add_mul]
  congr 1
  omega
 .simp only[Array.toList_append,List.nil_append];rw[show m*i.size=news.length from hl.symm];exact List.take_left
 exact(au _ _).drew.alloc (ax _) _
theorem Yields.append_empty(s x:bL)(t:aZ)(ho:o.op=.call { callee:=.builtin .append,args:=#[s,x],argTypes:=#[t,t] })
  (base:Nat) (e:aZ) (i:TypeInfo) (z:ak) (size sB:Nat) (ht:P.underlying t=some (.slice e)) (hi:P.info? e=some i) (hz:i.zero=some z) (hsize:i.size=size) (hby:i.bytes=sB) (hzs:z.cells.size=size) (hsz:0<size)
  (q:Nat) (hs:ev s=.slice (some ⟨q,0,none⟩) 0 0) (hq:w.heap[q]?=some (.cells #[] e (0,0))) (hbq:base<=q) (sv:ak) (m:Nat) (news:List ak) (hx:ev x=sv) (hl:news.length=m*size) (EF:Src w sv m news) (h1:∀u∈news,u.oneCell'=true)
  (h63:m<=jM) (hbytes:m*sB<=140737488355328) (h:∀v' w',w'.ownsRow base e size v' m news->az w.heap.size w w'->(m=0->v'=.slice (some ⟨q,0,none⟩) 0 0)->R v' w'):Lag.Yields P o ev w R:=by
 obtain⟨v',w',hr,h2,h3,h4⟩:=AH (P:=P) (w:=w) base t o.type e i z size sB ht hi hz hsize hby hzs hsz q hq hbq sv m news hl EF h1 h63 hbytes;refine Lag.Yields.value (v:=v') (w':=w') ?_ (h v' w' h2 h3 h4);unfold execOp;simp only[ho,resolve,invoke,builtin,Sem.run_bind,Sem.run_pure,sD,List.map_toArray,cZ,gb,hs,hx,hr]
end
end Go.Lag
namespace Go.Proofs.YtffladgmkiimjaaGreatDoor
open Go.RowKit Go.Lag
theorem QN(l:List Mk)(m:Mk):dY (l++[m])=dY l++m.cells.toList:=by simp[dY]
theorem Reads.src{w:ar}{v:ak}{n:Nat}{xs:List ak}(h:Reads w v n xs):Src w v n xs:=by
 rcases h with⟨h1,h2,h3⟩|⟨g,off,cap,h1,_,_,h4⟩
 .exact cK ⟨h1,h2,h3⟩
 exact .inr ⟨⟨g,off,none⟩,cap,h1,fun j u hj=>by
  have:=h4 j u hj
  cases j<;>simpa [k8] using this⟩
structure Qi(k:Nat)(bk mk:Array ak)(w0:ar)(C:Bool)(w:ar):Prop where
 one:w.heap[k]?=some (aw bk 28 (0,0))
 two:w.heap[k+1]?=some (aw mk 81 (0,0))
 three:w.heap[k+2]?=some (aw #[ah ag 0,ah ag 0,ah ag 0,ah ag 0,ah ag 0,ah ag 0,ah ag 0,ah ag 0,ah ag 0,ah ag 0,ah ag 0,ah ag 0,ae none 0 0,ae none 0 0,ae none 0 0] 28 (0,0))
 four:C=false->w.heap[k+3]?=some (aw bk 28 (0,0))
 below:az k w0 w
 size:k+4<=w.heap.size
section
variable{k:Nat}{bk mk:Array ak}{w0 w1 w2:ar}{C C':Bool}
theorem Qi.next(hC:C'=false->C=false)(h:Qi k bk mk w0 C w1)(hb:az w1.heap.size w1 w2):Qi k bk mk w0 C' w2:=by
 have hs:=h.size;exact⟨(hb.block _ (by omega)).trans h.one,(hb.block _ (by omega)).trans h.two,(hb.block _ (by omega)).trans h.three,fun e=>(hb.block _ (by omega)).trans (h.four (hC e)),h.below.trans (hb.mono (by omega)),aO hs hb.size⟩
theorem Qi.grown{row:Option Nat}(hC:C'=C)(h:Qi k bk mk w0 C w1)(g:w1.grownBy w2 row)(hr:∀q,row=some q->k+4<=q):Qi k bk mk w0 C' w2:=by
 subst hC;have hs:=h.size;have hn:∀q,q<k+4->some q≠row:=fun q hq e=>by have:=hr q e.symm;omega
 exact⟨(g.block _ (by omega) (hn _ (by omega))).trans h.one,(g.block _ (by omega) (hn _ (by omega))).trans h.two,(g.block _ (by omega) (hn _ (by omega))).trans h.three,fun e=>(g.block _ (by omega) (hn _ (by omega))).trans (h.four e),h.below.grown g (by omega) (fun q hq=>by have:=hr q hq;omega),aO hs g.size⟩
theorem Qi.put(h:Qi k bk mk w0 C w1)(u:ak)(i:Nat):Qi k bk mk w0 true (w1.setCell ⟨k+3,i,none⟩ u):=by
 have hn:∀q,q≠k+3->(w1.setCell ⟨k+3,i,none⟩ u).heap[q]?=w1.heap[q]?:=fun q hq=>bt _ _ _ _ hq;exact⟨(hn _ (by omega)).trans h.one,(hn _ (by omega)).trans h.two,(hn _ (by omega)).trans h.three,fun e=>(by cases e),h.below.setCell (p:=⟨k+3,i,none⟩) (by show k<=k+3;omega) _,by simpa using h.size⟩
theorem Qi.drew(h:Qi k bk mk w0 C w1):Qi k bk mk w0 C w1.drew:=⟨h.one,h.two,h.three,h.four,h.below.drew,h.size⟩
end
theorem OY(b:BB)(bq aK aA:ak)(hv:(∃p n c,bq=ae p n c)/\(∃p n c,aK=ae p n c))(ms:List Mk)(hlen:ms.length<=20)(m:Mk)(w:ar)(hk:Reads w aA ms.length (dY ms)) :
  bu aq 88 #[aR (b.cells bq aK aA),aR m.cells] w fun e w'=>∃k',e=aF (aR (b.cells bq aK k'))/\Reads w' k' (ms++[m]).length (dY (ms++[m]))/\(∃g,k'.ownBlock=some g/\w.heap.size<=g/\∃cs,w'.heap[g]?=some (aw cs 81 (0,0)))/\az w.heap.size w w':=by
 obtain⟨i1,Au,NU,hy1,hy2⟩:=j3 Ji;obtain⟨⟨pm,nm,cm,rfl⟩,⟨pn,nn,cn,rfl⟩⟩:=hv;obtain⟨pk,ck,rfl,_⟩:=aW hk;have HL:=aj (qf ms);have nW:(((w.alloc (aw (b.cells (ae pm nm cm) (ae pn nn cn) (ae pk ms.length ck)) 28)).alloc (aw m.cells 81)).alloc (aw #[ah ag 0,ah ag 0,ah ag 0,ah ag 0,ah ag 0,ah ag 0,ah ag 0,ah ag 0,ah ag 0,ah ag 0,ah ag 0,ah ag 0,ae none 0 0,ae none 0 0,ae none 0 0] 28)).heap.size=w.heap.size+3:=by simp
 have hb3:az w.heap.size w (((w.alloc (aw (b.cells (ae pm nm cm) (ae pn nn cn) (ae pk ms.length ck)) 28)).alloc (aw m.cells 81)).alloc (aw #[ah ag 0,ah ag 0,ah ag 0,ah ag 0,ah ag 0,ah ag 0,ah ag 0,ah ag 0,ah ag 0,ah ag 0,ah ag 0,ah ag 0,ae none 0 0,ae none 0 0,ae none 0 0] 28)):=(((au _ _).alloc (ax _) _).alloc (by simp) _).alloc (by simp;omega) _;have h0:(((w.alloc (aw (b.cells (ae pm nm cm) (ae pn nn cn) (ae pk ms.length ck)) 28)).alloc (aw m.cells 81)).alloc (aw #[ah ag 0,ah ag 0,ah ag 0,ah ag 0,ah ag 0,ah ag 0,ah ag 0,ah ag 0,ah ag 0,ah ag 0,ah ag 0,ah ag 0,ae none 0 0,ae none 0 0,ae none 0 0] 28)).heap[w.heap.size]?=some (aw (b.cells (ae pm nm cm) (ae pn nn cn) (ae pk ms.length ck)) 28 (0,0)):=(aX _ _ _ (by simp;omega)).trans ((aX _ _ _ (by simp)).trans (ay w _));have h1:(((w.alloc (aw (b.cells (ae pm nm cm) (ae pn nn cn) (ae pk ms.length ck)) 28)).alloc (aw m.cells 81)).alloc (aw #[ah ag 0,ah ag 0,ah ag 0,ah ag 0,ah ag 0,ah ag 0,ah ag 0,ah ag 0,ah ag 0,ah ag 0,ah ag 0,ah ag 0,ae none 0 0,ae none 0 0,ae none 0 0] 28)).heap[w.heap.size+1]?=some (aw m.cells 81 (0,0)):=(aX _ _ _ (by simp)).trans (by have:=ay (w.alloc (aw (b.cells (ae pm nm cm) (ae pn nn cn) (ae pk ms.length ck)) 28)) (aw m.cells 81);simpa using this);have h2:(((w.alloc (aw (b.cells (ae pm nm cm) (ae pn nn cn) (ae pk ms.length ck)) 28)).alloc (aw m.cells 81)).alloc (aw #[ah ag 0,ah ag 0,ah ag 0,ah ag 0,ah ag 0,ah ag 0,ah ag 0,ah ag 0,ah ag 0,ah ag 0,ah ag 0,ah ag 0,ae none 0 0,ae none 0 0,ae none 0 0] 28)).heap[w.heap.size+2]?=some (aw #[ah ag 0,ah ag 0,ah ag 0,ah ag 0,ah ag 0,ah ag 0,ah ag 0,ah ag 0,ah ag 0,ah ag 0,ah ag 0,ah ag 0,ae none 0 0,ae none 0 0,ae none 0 0] 28 (0,0)):=by have:=ay ((w.alloc (aw (b.cells (ae pm nm cm) (ae pn nn cn) (ae pk ms.length ck)) 28)).alloc (aw m.cells 81)) (aw #[ah ag 0,ah ag 0,ah ag 0,ah ag 0,ah ag 0,ah ag 0,ah ag 0,ah ag 0,ah ag 0,ah ag 0,ah ag 0,ah ag 0,ae none 0 0,ae none 0 0,ae none 0 0] 28);simpa using this
 have h3:((((w.alloc (aw (b.cells (ae pm nm cm) (ae pn nn cn) (ae pk ms.length ck)) 28)).alloc (aw m.cells 81)).alloc (aw #[ah ag 0,ah ag 0,ah ag 0,ah ag 0,ah ag 0,ah ag 0,ah ag 0,ah ag 0,ah ag 0,ah ag 0,ah ag 0,ah ag 0,ae none 0 0,ae none 0 0,ae none 0 0] 28)).alloc (aw (b.cells (ae pm nm cm) (ae pn nn cn) (ae pk ms.length ck)) 28)).heap[w.heap.size+3]?=some (aw (b.cells (ae pm nm cm) (ae pn nn cn) (ae pk ms.length ck)) 28 (0,0)):=by have:=ay (((w.alloc (aw (b.cells (ae pm nm cm) (ae pn nn cn) (ae pk ms.length ck)) 28)).alloc (aw m.cells 81)).alloc (aw #[ah ag 0,ah ag 0,ah ag 0,ah ag 0,ah ag 0,ah ag 0,ah ag 0,ah ag 0,ah ag 0,ah ag 0,ah ag 0,ah ag 0,ae none 0 0,ae none 0 0,ae none 0 0] 28)) (aw (b.cells (ae pm nm cm) (ae pn nn cn) (ae pk ms.length ck)) 28);rw[nW] at this;exact this
 have HS0:mS (Qi w.heap.size (b.cells (ae pm nm cm) (ae pn nn cn) (ae pk ms.length ck)) m.cells w false ((((w.alloc (aw (b.cells (ae pm nm cm) (ae pn nn cn) (ae pk ms.length ck)) 28)).alloc (aw m.cells 81)).alloc (aw #[ah ag 0,ah ag 0,ah ag 0,ah ag 0,ah ag 0,ah ag 0,ah ag 0,ah ag 0,ah ag 0,ah ag 0,ah ag 0,ah ag 0,ae none 0 0,ae none 0 0,ae none 0 0] 28)).alloc (aw (b.cells (ae pm nm cm) (ae pn nn cn) (ae pk ms.length ck)) 28))):=
  aj ⟨(aX _ _ _ (by rw[nW];omega)).trans h0,(aX _ _ _ (by rw[nW];omega)).trans h1,(aX _ _ _ (by rw[nW];omega)).trans h2,fun _=>h3,hb3.alloc (by rw[nW];omega) _,by simp⟩
 have HRk:mS (∀w9,az w.heap.size w w9->Src w9 (ae pk ms.length ck) ms.length (dY ms)):=aj fun w9 h9=>(hk.below h9).src;clear h0 h1 h2 h3 hb3 hk nW
 go_enter Tryz.func88,Tryz.ntmps88
 go_wp2
 refine Ph.bY (by kernel_rfl) [
 fun v ds w9=>∃q,v=ae (some ⟨q,0,none⟩) 0 0/\w9.ownsRow (w.heap.size+4) 81 3 v 0 [],
  pV (aS (some ⟨w.heap.size,14,none⟩)),
  pV (ae pk ms.length ck),
  fun v ds w9=>∃p c,v=ae p ms.length c/\w9.ownsRow (w.heap.size+4) 81 3 v ms.length (dY ms)/\(ms.length=0->c=0),
  pV (aR m.cells),
  fun v ds w9=>∃q,v=ae (some ⟨q,0,none⟩) 1 1/\w9.ownsRow (w.heap.size+4) 81 3 v 1 m.cells.toList,
  fun v ds w9=>∃p c,v=ae p (ms.length+1) c/\w9.ownsRow (w.heap.size+4) 81 3 v (ms.length+1) (dY ms++m.cells.toList),
  pV (aS (some ⟨w.heap.size+1+1+1,14,none⟩)),
  fun v ds w9=>∃x,ds[1]?=some x/\w9.heap[w.heap.size+3]?=some (aw (b.cells (ae pm nm cm) (ae pn nn cn) x) 28 (0,0))]
  (fun L w9=>Qi w.heap.size (b.cells (ae pm nm cm) (ae pn nn cn) (ae pk ms.length ck)) m.cells w (L 8) w9) [(2,aS (some ⟨w.heap.size,0,none⟩)),(3,aS (some ⟨w.heap.size+1,0,none⟩)),(5,aS (some ⟨w.heap.size+1+1+1,0,none⟩))] (by kernel_rfl) ?rst (fun L L2 w1 w2 SE h hb=>h.next (SE 8) hb) (HS0.out.drew) ⟨rfl,rfl,rfl,trivial⟩ ?reach ?rfin
 case rst=>
  refine⟨?_,Ph.sV,Ph.sV,?_,Ph.sV,?_,?_,Ph.sV,?_,trivial⟩
  .rintro v ds L w1 w2 hS ⟨q,h1,h2⟩ hb;exact⟨q,h1,cN h2 hb⟩
  .rintro v ds L w1 w2 hS ⟨p,c,h1,h2,h3⟩ hb;exact⟨p,c,h1,cN h2 hb,h3⟩
  .rintro v ds L w1 w2 hS ⟨q,h1,h2⟩ hb;exact⟨q,h1,cN h2 hb⟩
  .rintro v ds L w1 w2 hS ⟨p,c,h1,h2⟩ hb;exact⟨p,c,h1,cN h2 hb⟩
  rintro v ds L w1 w2 hS ⟨x,h1,h2⟩ hb;exact⟨x,h1,(hb.block _ (ai.1 h2).1).trans h2⟩
 case reach=>
  refine⟨?_,?_,?_,?_,?_,?_,?_,?_,?_,trivial⟩<;>rintro Lf ev w1 hn vK hS hc hg hf ⟨b2,b3,b5,-⟩ hd
  .clear hd;have hs4:=hS.size;refine Lag.Yields.value (v:=ae (some ⟨w1.heap.size,0,none⟩) 0 0) (w':=w1.alloc (aw #[] 81)) ?_ ⟨⟨_,rfl,⟨by simp,.inr ⟨w1.heap.size,0,#[],rfl,hs4,ay _ _,ax _,iW _,by simp,by simp⟩⟩⟩,cK ((au _ _).alloc (ax _) _)⟩;go_simp
  .clear hd;refine Ph.yv ?_ rfl;go_simp
  .have d1:ev (aM 8)=_:=hd.1 rfl;clear hd;have c14:=aJ hS.one 14 (ae pk ms.length ck) rfl;refine Ph.yv ?_ rfl;go_simp
  .have d0:∃q,(ev (aM 7))=ae (some ⟨q,0,none⟩) 0 0/\w1.ownsRow (w.heap.size+4) 81 3 (ev (aM 7)) 0 []:=hd.1 rfl;have d2:ev (aM 9)=_:=hd.2.1 rfl;clear hd;obtain⟨q,e7,hq⟩:=d0;rw[e7] at hq;obtain⟨g,c,cur,h1,h2,h3,_,_,h4,_⟩:=hq.2.resolve_left (by simp);cases h1;obtain rfl:cur = #[]:=Array.eq_empty_of_size_eq_zero (by simpa using h4);refine Lag.Yields.append_empty (aM 7) (aM 9) 26 rfl (w.heap.size+4) 81 i1 (aR #[ah ag 0,ah ag 0,ah ag 0]) 3 24 BA Au NU hy1 hy2 rfl (by decide) q e7 h3 h2 (ae pk ms.length ck) ms.length (dY ms) d2 (by have:=HL.out;omega) (HRk.out w1 hS.below) (Hj ms) (by unfold jM;omega) (by omega) ?_;intro v' w' hown' hb' hz;obtain⟨p',c',rfl⟩:=dA hown';exact⟨⟨p',c',rfl,hown',fun h0=>by have:=hz h0;simp at this;exact this.2.2⟩,cK hb'⟩
  .clear hd;have q:w1.heap[w.heap.size+1]?=some (aw m.cells 81 (0,0)):=hS.two;refine Lag.Yields.zy 81 _ rfl _ b3 81 _ (0,0) _ q Tryz.underlying81 rfl (by kernel_rfl) ⟨rfl,cK (au _ _)⟩
  .have d4:ev (aM 11)=_:=hd.1 rfl;clear hd;have hs4:=hS.size;refine Lag.Yields.value (v:=ae (some ⟨w1.heap.size,0,none⟩) 1 1) (w':=w1.alloc (aw m.cells 81)) ?_ ⟨⟨_,rfl,World.ownsRow_lit w1 m.cells 1 hs4 (by unfold jM;omega) rfl⟩,cK ((au _ _).alloc (ax _) _)⟩;go_simp
  .have d3:∃p c,(ev (aM 10))=ae p ms.length c/\w1.ownsRow (w.heap.size+4) 81 3 (ev (aM 10)) ms.length (dY ms)/\(ms.length=0->c=0):=hd.1 rfl;have d5:∃q,(ev (aM 12))=ae (some ⟨q,0,none⟩) 1 1/\w1.ownsRow (w.heap.size+4) 81 3 (ev (aM 12)) 1 m.cells.toList:=hd.2.1 rfl;clear hd;obtain⟨p,c,JI,hown,hz⟩:=d3;obtain⟨q,Y6,hq⟩:=d5;have N1:=HL.out;rw[JI] at hown;have hown1:=hq;rw[Y6] at hq;obtain⟨g,c2,cur,h1,h2,h3,_,_,h4,h5⟩:=hq.2.resolve_left (by simp);cases h1
   have ahM:cur=m.cells:=by
    apply Array.ext';have h6:cur.toList.length=3:=by simpa using h4
    rw[dp (by omega)] at h5;exact h5
   subst ahM;refine Lag.Yields.OQ (aM 10) (aM 12) 26 rfl (w.heap.size+4) 81 i1 (aR #[ah ag 0,ah ag 0,ah ag 0]) 3 24 BA Au NU hy1 hy2 rfl (by decide) (ae p ms.length c) ms.length (dY ms) JI hown (ae (some ⟨q,0,none⟩) 1 1) 1 m.cells.toList Y6 rfl (.inr ⟨_,_,rfl,?_⟩) (by simp[cj]) (by unfold jM;omega) (by omega) hS.size ?_
   .intro n u hn;have h5:=aJ h3 n u (by simpa using hn);have e:(⟨q,0,none⟩:Addr).add n=⟨q,n,none⟩:=by cases n<;>simp[k8]
    rw[e];exact h5
   intro v' w' hown' hgrow lZ;obtain⟨p',c',rfl⟩:=dA hown';refine⟨⟨p',c',rfl,hown'⟩,.inr ⟨hS.grown (by simp[Ph.upd]) hgrow (fun q hq=>(hown.lt q hq).1),?_⟩⟩;intro t u ds hj hL hp
   match t,hp with
   |0,⟨q2,h1,h2⟩=>exact⟨q2,h1,lZ (iW _) h2⟩
   |1,hp=>exact hp
   |2,hp=>exact hp
   |3,⟨p2,c2,h1,h2,h3⟩=>exact⟨p2,c2,h1,lZ (ax _) h2,h3⟩
   |4,hp=>exact hp
   |5,⟨q2,h1,h2⟩=>
    refine⟨q2,h1,?_⟩
    by_cases h0:ms.length=0
    .have hc:=hz h0;refine fY h2 fun g2 hg2=>hgrow.block g2 (h2.lt g2 hg2).2 fun EM=>?_;rw[h1] at h2;obtain⟨g3,c3,an1,k1,_,k3,_,_,k4,_⟩:=h2.2.resolve_left (by simp);cases k1;have e2:q2=g2:=by rw[h1] at hg2;exact bj hg2
     subst e2;rcases hown.2 with⟨k5,_⟩|⟨g4,c4,an0,k5,_,k6,_,_,k7,_⟩
     .rw[k5] at EM;cases EM
     cases k5;have e4:q2=g4:=bj EM;subst e4;rw[k3] at k6;cases k6;omega
    exact lZ (by omega) h2
   |6,_=>exact(hj rfl).elim
   |7,hp=>exact hp
   |8,_=>rw[hn 8 (by kernel_rfl)] at hL;cases hL
   |t+9,_=>trivial
  .clear hd;refine Ph.yv ?_ rfl;go_simp
  have d7:ev (aM 14)=_:=hd.1 rfl;have d6:∃p c,(ev (aM 13))=ae p (ms.length+1) c/\w1.ownsRow (w.heap.size+4) 81 3 (ev (aM 13)) (ms.length+1) (dY ms++m.cells.toList):=hd.2.1 rfl;clear hd;obtain⟨p,c,h1,h2⟩:=d6;have tj:w1.heap[w.heap.size+1+1+1]?=some (aw (b.cells (ae pm nm cm) (ae pn nn cn) (ae pk ms.length ck)) 28 (0,0)):=hS.four vK;have c1:=aJ tj 14 (ae pk ms.length ck) rfl;have f1:=dg tj 14;refine Lag.Yields.skip (w':=w1.setCell ⟨w.heap.size+1+1+1,14,none⟩ (ev (aM 13))) ?_ ⟨⟨_,rfl,dh _ tj⟩,.inr ⟨(hS.put (ev (aM 13)) 14),?_⟩⟩
  .rw[h1];go_simp
  .intro t u ds hj hL hp
   match t,hp with
   |0,⟨q2,g1,g2⟩=>exact⟨q2,g1,dn g2 tj (by decide)⟩
   |1,hp=>exact hp
   |2,hp=>exact hp
   |3,⟨p2,c2,g1,g2,g3⟩=>exact⟨p2,c2,g1,dn g2 tj (by decide),g3⟩
   |4,hp=>exact hp
   |5,⟨q2,g1,g2⟩=>exact⟨q2,g1,dn g2 tj (by decide)⟩
   |6,⟨p2,c2,g1,g2⟩=>exact⟨p2,c2,g1,dn g2 tj (by decide)⟩
   |7,hp=>exact hp
   |8,_=>exact(hj rfl).elim
   |t+9,_=>trivial
 case rfin=>
  intro a3 w3 hR;have hS:=hR.s;have e6:∃p c,(a3.tmps.getD 13 af)=ae p (ms.length+1) c/\w3.ownsRow (w.heap.size+4) 81 3 (a3.tmps.getD 13 af) (ms.length+1) (dY ms++m.cells.toList):=hR.val 6 (by decide);have e8:∃x,([a3.tmps.getD 14 af,a3.tmps.getD 13 af,a3.tmps.getD 13 af,a3.tmps.getD 7 af,a3.tmps.getD 8 af,a3.tmps.getD 9 af,a3.tmps.getD 10 af,a3.tmps.getD 11 af,a3.tmps.getD 12 af,a3.tmps.getD 13 af]:List ak)[1]?=some x/\w3.heap[w.heap.size+3]?=some (aw (b.cells (ae pm nm cm) (ae pn nn cn) x) 28 (0,0)):=hR.val 8 (by decide);have k4:a3.tmps.getD 4 af=aS (some ⟨w.heap.size+1+1,0,none⟩):=hR.kept (by kernel_rfl);have k5:a3.tmps.getD 5 af=aS (some ⟨w.heap.size+1+1+1,0,none⟩):=hR.kept (by kernel_rfl);have ha:=hR.lits 16 rfl;simp only[aU,cg,nD] at ha;clear hR;obtain⟨x,ex,tj⟩:=e8;have ex2:a3.tmps.getD 13 af=x:=bj ex;obtain⟨p13,c13,e13,aae⟩:=e6;rw[e13] at ex2 aae;subst ex2;rw[k4,k5] at ha;generalize a3.tmps.getD=zz at ha;have HOb:mS (w3.heap[w.heap.size+1+1+1]?=some (aw (b.cells (ae pm nm cm) (ae pn nn cn) (ae p13 (ms.length+1) c13)) 28 (0,0))):=aj tj;have HZ:mS (w3.heap[w.heap.size+1+1]?=some (aw #[ah ag 0,ah ag 0,ah ag 0,ah ag 0,ah ag 0,ah ag 0,ah ag 0,ah ag 0,ah ag 0,ah ag 0,ah ag 0,ah ag 0,ae none 0 0,ae none 0 0,ae none 0 0] 28 (0,0))):=aj hS.three;have HB:=aj hS.below;have MQ:=aj aae;clear e13 ex tj aae hS k4 k5;subst ha
  go_wp2_with (first
   |(refine mg rfl 28 _ rfl _ rfl 28 _ (0,0) _ HOb.out cJ rfl (by kernel_rfl) ?_)
   |(refine fO rfl 28 _ _ rfl _ _ rfl rfl 28 _ HZ.out (by kernel_rfl) rfl (by simp[cj]) ?_))
  have ho:(w3.setRow (w.heap.size+1+1) (b.cells (ae pm nm cm) (ae pn nn cn) (ae p13 (ms.length+1) c13))).ownsRow (w.heap.size+4) 81 3 (ae p13 (ms.length+1) c13) (ms.length+1) (dY ms++m.cells.toList):=fY MQ.out fun g hg=>setRow_other (by have:=(MQ.out.lt g hg).1;omega);refine bm (results_cell_row rfl _ _ (w.heap.size+1+1) 28 _ (0,0) _ rfl (cV HZ.out) cJ rfl (by kernel_rfl)) rfl ⟨_,rfl,?_,?_,dv HB.out (by omega)⟩
  .rw[QN];exact Reads.iT ho (by simp;omega) (by have:=HL.out;simp;omega)
  obtain⟨g,cap,cur,h1,h2,h3,_⟩:=ho.2.resolve_left (by simp);exact⟨g,by rw[h1];rfl,by omega,cur,h3⟩
def rC(a b:List Int):Bool:=decide (a.length<b.length)||(decide (a.length=b.length)&&decide (jZ a b<0))
theorem Rg(xs ys:List Int)(v1 v2:ak)(w:ar)(h1:Reads w v1 xs.length (xs.map (aB ag)))(h2:Reads w v2 ys.length (ys.map (aB ag))) :
  bu aq 121 #[v1,v2] w fun e w'=>e=aF (aH (rC xs ys))/\w=w':=by
 obtain⟨p1,c1,rfl,_⟩:=aW h1;obtain⟨p2,c2,rfl,_⟩:=aW h2;have hC:=rK xs ys _ _ w h1 h2;have hL:rC xs ys=(decide (xs.length<ys.length)||(decide (xs.length=ys.length)&&decide (jZ xs ys<0))):=rfl;have zI:=DC xs ys;generalize jZ xs ys=c at *;generalize rC xs ys=r at *;generalize xs.length=na at *;generalize ys.length=nb at *;have HL:=aj hL;clear hL h1 h2
 by_cases h1:na<nb
 .have e1:decide (na<nb)=true:=by simp;omega
  have er:r=true:=by rw[HL.out,decide_eq_true h1];rfl
  subst er;have H1:=aj h1;clear h1 hC
  go_enter Tryz.func121,Tryz.ntmps121
  go_wp2
  go_ret
  exact⟨rfl,rfl⟩
 by_cases h2:na=nb
 .subst h2;have er:r=decide (c<0):=by rw[HL.out];simp
  subst er;clear h1 HL;have e1:decide (na<na)=false:=by simp
  have e9:(na==na)=true:=by simp
  go_enter Tryz.func121,Tryz.ntmps121
  go_wp2_with fail
  refine hC.mono ?_;rintro e w7 ⟨rfl,rfl⟩;go_wp2
  go_ret
  exact⟨rfl,rfl⟩
 have e1:decide (na<nb)=false:=by simp;omega
 have e2:decide ((na:Int)=(nb:Int))=false:=by simp;omega
 have e3:((na:Int)==(nb:Int))=false:=by simp;omega
 have e4:(na==nb)=false:=by simp;omega
 have er:r=false:=by rw[HL.out,decide_eq_false h1,decide_eq_false h2];rfl
 subst er;clear h1 h2 HL hC
 go_enter Tryz.func121,Tryz.ntmps121
 go_wp2
 go_ret
 exact⟨rfl,rfl⟩
abbrev VL:=ak × List Int
def sk(w:ar)(r:VL):Prop:=Reads w r.1 r.2.length (r.2.map (aB ag))
theorem sk.below{w w':ar}{r:VL}(h:sk w r)(hb:az w.heap.size w w'):sk w' r:=Reads.below h hb
def nK(first:VL)(more:List VL):VL:=more.foldl (fun b x=>if rC x.2 b.2 then x else b) first
theorem OM(first:VL)(more:List VL)(k:Nat)(hk:k<more.length):nK first (more.take (k+1))=if rC more[k].2 (nK first (more.take k)).2 then more[k] else nK first (more.take k):=by
 unfold nK;rw[bN hk,List.foldl_append];rfl
theorem tL:∀(more:List VL) (first:VL),nK first more=first\/nK first more∈more
 |[],first=>cK rfl
 |x::more,first=>by
  show nK (if rC x.2 first.2=true then x else first) more=first\/nK (if rC x.2 first.2=true then x else first) more∈x::more
  by_cases hl:rC x.2 first.2=true
  .rw[if_pos hl];rcases tL more x with h|h
   .rw[h];exact .inr (by simp)
   exact .inr (bW _ h)
  rw[if_neg hl];rcases tL more first with h|h
  .exact cK h
  exact .inr (bW _ h)
theorem Sb(first:VL)(more:List VL)(v:ak)(w:ar)(hf:sk w first)(hm:∀r∈more,sk w r)(hv:Reads w v more.length (more.map (·.1))) :
  bu aq 120 #[.func (.func 121) #[] #[],first.1,v] w fun e w'=>e=aF (nK first more).1/\az w.heap.size w w':=by
 have HSl:mS (∀r∈first::more,∃p n c,r.1=ae p n c):=aj fun r hr=>by
  have h1:sk w r:=by
   rcases List.mem_cons.1 hr with rfl|h
   .exact hf
   exact hm r h
  obtain⟨p,c,h2,_⟩:=aW h1;exact⟨p,_,c,h2⟩
 obtain⟨pf,nf,cf,YR⟩:=HSl.out first (by simp)
 rcases hv with⟨rfl,hn,_⟩|⟨g,off,cap,rfl,hn,hg,hc⟩
 .obtain rfl:=bf hn;clear hn;show bu aq 120 #[.func (.func 121) #[] #[],first.1,ae none 0 0] w fun e w'=>e=aF first.1/\az w.heap.size w w'
  rw[YR];clear YR
  go_enter Tryz.func120,Tryz.ntmps120
  go_wp2
  go_loopw [1,11] (fun b i wr=>i=ah ag 0/\b=ae pf nf cf/\az w.heap.size w wr) (fun _ _ _=>0)
  case atStart=>exact⟨rfl,rfl,au _ _⟩
  case round=>
   obtain⟨rfl,rfl,en⟩:=hrel;go_wp2
   go_ret
   exact⟨rfl,en⟩
 have HC:=aj hc;have HM:=aj hm;have HF:=aj hf;clear hc hm hf;generalize hL:more.length=L at *;have HL:=aj hL;clear hL;have HFv:=aj YR;rw[YR];clear YR
 go_enter Tryz.func120,Tryz.ntmps120
 go_wp2
 go_loopw [1,8,11] (fun b _ i wr=>∃k:Nat,k<=L/\i=ah ag k/\b=(nK first (more.take k)).1/\az w.heap.size w wr) (fun _ _ i _=>L-(intOf i).toNat)
 case atStart=>exact⟨0,by omega,rfl,HFv.out.symm,au _ _⟩
 case round=>
  obtain⟨k,hk,rfl,VQ,en⟩:=hrel
  by_cases hlt:k<L
  .have kD:k<more.length:=by rw[HL.out];exact hlt
   have hcell:wr.cell? ⟨g,off+k,none⟩=some more[k].1:=(en.cell (p:=⟨g,off+k,none⟩) hg).trans (HC.out k _ (by simp[kD]));have hx:=HM.out more[k] (List.getElem_mem kD);have hst:=OM first more k kD
   have Rz:sk w (nK first (more.take k)):=by
    rcases tL (more.take k) first with h|h
    .rw[h];exact HF.out
    exact HM.out _ (List.mem_of_mem_take h)
   generalize more[k]=x at *;generalize nK first (more.take k)=bst at *
   obtain⟨p1,c1,e1,_⟩:=aW hx;obtain⟨p2,c2,e2,_⟩:=aW Rz;rw[e2] at VQ;subst VQ;have hB:=Rg x.2 bst.2 x.1 bst.1 wr (hx.below en) (Rz.below en);rw[e1] at hcell;rw[e1,e2] at hB;have hsz:=en.size;have E1:=aj e1;have E2:=aj e2;clear hx Rz e1 e2;cases hr:rC x.2 bst.2
   all_goals
    rw[hr] at hst hB;have HR:=aj hr;have HST:=aj hst;clear hr hst
    go_wp2_with (go_at_call 121;refine hB.mono ?_;rintro e w2 ⟨rfl,rfl⟩)
    go_roundw
    case rel=>exact⟨k+1,by omega,by go_num,by rw[HST.out];first|exact E1.out.symm|exact E2.out.symm,en⟩
    case measure=>simp[intOf];omega
  obtain rfl:k=L:=by omega
  have tZ:more.take k=more:=dp (by rw[HL.out];exact ax _);rw[tZ] at VQ;have HBv:=aj VQ
  obtain⟨p1,n1,c1,e1⟩:=HSl.out (nK first more) (by
   rcases tL more first with h|h
   .rw[h];simp
   exact bW _ h)
  rw[e1] at VQ;subst VQ;have E1:=aj e1;clear e1 tZ;go_wp2
  go_ret
  exact⟨congrArg aP E1.out.symm,en⟩
def m9(ms:List Mk)(l:List Nat):List Mk:=l.filterMap fun i=>ms[i]?
theorem QY(ms:List Mk)(l:List Nat):(m9 ms l).length<=l.length:=List.length_filterMap_le _ _
theorem QX{ms:List Mk}{l:List Nat}{m:Mk}(h:m∈m9 ms l):m∈ms:=by
 obtain⟨i,_,hi⟩:=List.mem_filterMap.1 h;exact List.mem_of_getElem? hi
theorem NC(ms:List Mk)(l:List Nat)(j:Nat)(hj:j<ms.length):m9 ms (l++[j])=m9 ms l++[ms[j]]:=by
 unfold m9;rw[List.filterMap_append];simp[hj]
theorem KU(ms:List Mk)(l:List Nat)(h:∀i∈l,i<ms.length):(m9 ms l).length=l.length:=by
 induction l with
 |nil=>rfl
 |cons a l ih=>
  have ha:=h a (by simp);have:=ih fun i hi=>h i (by simp[hi])
  have e:m9 ms (a::l)=ms[a]::m9 ms l:=by
   unfold m9;rw[List.filterMap_cons];simp[ha]
  rw[e];simp[this]
theorem Ts{b:BB}{ms:List Mk}(h:lr b ms){n mask:Nat}(hn:n<=ms.length):lr b (m9 ms (dV n mask)):=
 ⟨fun m hm=>h.mem m (QX hm),by have:=QY ms (dV n mask);have:=qN n mask;have:=h.len;omega⟩
def mI(b:BB)(ml:List Mn)(ss:List Int)(ms:List Mk)(mask:Nat):Bool:=decide (bw b ml ss (m9 ms (dV ms.length mask))=[])
def Eu(b:BB)(ml:List Mn)(ss:List Int)(ms:List Mk)(M:Nat):List (List Int):=((aU M).filter (mI b ml ss ms)).map (uG ms.length)
theorem Q9(b:BB)(ml:List Mn)(ss:List Int)(ms:List Mk)(M:Nat):Eu b ml ss ms (M+1)=Eu b ml ss ms M++if mI b ml ss ms M then[uG ms.length M] else[]:=by
 unfold Eu;rw[List.range_succ,List.filter_append,fh];cases h:mI b ml ss ms M<;>simp[h]
def Vj(first:List Int)(more:List (List Int)):List Int:=more.foldl (fun b x=>if rC x b then x else b) first
theorem H7:∀(more:List VL) (first:VL),(nK first more).2=Vj first.2 (more.map (·.2))
 |[],_=>rfl
 |x::more,first=>by
  show(nK (if rC x.2 first.2=true then x else first) more).2=Vj (if rC x.2 first.2=true then x.2 else first.2) (more.map (·.2));rw[H7 more]
  by_cases h:rC x.2 first.2=true
  .rw[if_pos h,if_pos h]
  rw[if_neg h,if_neg h]
def qO(b:BB)(ml:List Mn)(ss:List Int)(ms:List Mk):List Int:=
 if bw b ml ss ms≠[] then[] else match Eu b ml ss ms (2 ^ ms.length) with|[]=>[]|f::r=>Vj f r
theorem RX(n:Nat):dV n (2 ^ n-1)=aU n:=by
 unfold dV;rw[List.filter_eq_self];intro i hi;rw[bP] at hi;rw[Nat.testBit_two_pow_sub_one];simp[hi]
theorem QW(ms:List Mk):m9 ms (aU ms.length)=ms:=by
 unfold m9;apply List.ext_getElem?;intro i
 have key:∀k,k<=ms.length->(aU k).filterMap (fun i=>ms[i]?)=ms.take k:=by
  intro k
  induction k with
  |zero=>simp
  |succ k ih=>
   intro hk;rw[List.range_succ,List.filterMap_append,ih (by omega),bN (by omega)];simp[show k<ms.length by omega]
 rw[key _ (ax _),List.take_length]
theorem ZH{b:BB}{ml:List Mn}{ss:List Int}{ms:List Mk}(h:bw b ml ss ms=[]):Eu b ml ss ms (2 ^ ms.length)≠[]:=by
 unfold Eu;intro h2;have h3:=List.map_eq_nil_iff.1 h2
 have h4:2 ^ ms.length-1∈(aU (2 ^ ms.length)).filter (mI b ml ss ms):=by
  rw[List.mem_filter];have:0<2 ^ ms.length:=Nat.two_pow_pos _;refine⟨bP.2 (by omega),?_⟩;unfold mI;rw[RX,QW];simp[h]
 rw[h3] at h4;cases h4
theorem ZU:(Tryz.prog.info? 25).map (fun i=>(i.zero,i.size,i.bytes))=some (some (ae none 0 0),1,24):=by kernel_rfl
theorem Ns(l:List Mk)(m:Mk):dY (l++[m])=dY l++m.cells.toList:=by simp[dY]
structure MT(ob mb:Nat)(bc:ak->Array ak)(V8 OV:ak)(k:Nat)(xs ys:List ak)(mc:Array ak)(wo:ar)(A B C:Bool)(w:ar):Prop where
 I0:A=false->w.ownsRow (ob+1) 3 1 V8 k xs
 zl:B=false->w.ownsRow (ob+1) 81 3 OV k ys
 ZI:C=false->w.heap[ob]?=some (aw (bc OV) 119 (0,0))
 VJ:w.heap[mb]?=some (aw mc 81 (0,0))
 below:az ob wo w
 size:ob+1<=w.heap.size
section
variable{ob mb:Nat}{bc:ak->Array ak}{V8 OV:ak}{k:Nat}{xs ys:List ak}{mc:Array ak}{wo w1 w2:ar}{A B C A' B' C':Bool}
theorem MT.next(hA:A'=false->A=false)(hB:B'=false->B=false)(hC:C'=false->C=false)(h:MT ob mb bc V8 OV k xs ys mc wo A B C w1)(hb:az w1.heap.size w1 w2):MT ob mb bc V8 OV k xs ys mc wo A' B' C' w2:=
 ⟨fun e=>cN (h.I0 (hA e)) hb,fun e=>cN (h.zl (hB e)) hb,fun e=>(hb.block _ (by have:=h.size;omega)).trans (h.ZI (hC e)),(hb.block _ (ai.1 h.VJ).1).trans h.VJ,h.below.trans (hb.mono (by have:=h.size;omega)),aO h.size hb.size⟩
theorem MT.ai0(h:MT ob mb bc V8 OV k xs ys mc wo A B C w1)(hA:A=false)(g:w1.grownBy w2 V8.ownBlock)(hB:B'=B)(hC:C'=C):MT ob mb bc V8 OV k xs ys mc wo true B' C' w2:=by
 subst hB;subst hC;have h8:=h.I0 hA;have hm:=(ai.1 h.VJ).1;refine⟨fun e=>(by cases e),fun e=>fY (h.zl e) fun q hq=>g.block q ((h.zl e).lt q hq).2 (zk (h.zl e) h8 (by decide) hq),fun e=>(g.block ob (by have:=h.size;omega) fun hq=>?_).trans (h.ZI e),(g.block mb hm (lH h8 h.VJ (by decide))).trans h.VJ,h.below.grown g (by have:=h.size;omega) fun q hq=>by have:=(h8.lt q hq).1;omega,aO h.size g.size⟩;have:=(h8.lt ob hq.symm).1;omega
theorem MT.ae9(h:MT ob mb bc V8 OV k xs ys mc wo A B C w1)(hB:B=false)(g:w1.grownBy w2 OV.ownBlock)(hm:some mb≠OV.ownBlock)(hA:A'=A)(hC:C'=C):MT ob mb bc V8 OV k xs ys mc wo A' true C' w2:=by
 subst hA;subst hC;have h14:=h.zl hB;have Uh:=(ai.1 h.VJ).1;refine⟨fun e=>fY (h.I0 e) fun q hq=>g.block q ((h.I0 e).lt q hq).2 (zk (h.I0 e) h14 (by decide) hq),fun e=>(by cases e),fun e=>(g.block ob (by have:=h.size;omega) fun hq=>?_).trans (h.ZI e),(g.block mb Uh hm).trans h.VJ,h.below.grown g (by have:=h.size;omega) fun q hq=>by have:=(h14.lt q hq).1;omega,aO h.size g.size⟩;have:=(h14.lt ob hq.symm).1;omega
theorem MT.drew(h:MT ob mb bc V8 OV k xs ys mc wo A B C w1):MT ob mb bc V8 OV k xs ys mc wo A B C w1.drew:=⟨h.I0,h.zl,h.ZI,h.VJ,h.below.drew,h.size⟩
theorem Vi{w:ar}{a b:Nat}{x y:Array ak}{t u:aZ}(h1:w.heap[a]?=some (aw x t (0,0)))(h2:w.heap[b]?=some (aw y u (0,0)))(h:t≠u):a≠b:=by
 rintro rfl;rw[h1] at h2;cases h2;exact h rfl
theorem MT.put(h:MT ob mb bc V8 OV k xs ys mc wo A B C w1)(hC:C=false)(hm:mb≠ob)(u:ak)(hA:A'=A)(hB:B'=B):MT ob mb bc V8 OV k xs ys mc wo A' B' true (w1.setCell ⟨ob,14,none⟩ u):=by
 subst hA;subst hB;have ho:=h.ZI hC;exact⟨fun e=>dn (h.I0 e) ho (by decide),fun e=>dn (h.zl e) ho (by decide),fun e=>(by cases e),(bt _ _ _ _ hm).trans h.VJ,h.below.setCell (p:=⟨ob,14,none⟩) (ax _) _,by simpa using h.size⟩
end
theorem VG(b:BB)(bq aK aA:ak)(ml:List Mn)(ss:List Int)(ms:List Mk)(w:ar)(hL:Laid w)(hB:cU b bq aK aA ml ss ms w) :
  bu aq 50 #[aR (b.cells bq aK aA)] w fun e w'=>∃v,e=aF (.tuple #[v,ah ag 0])/\Reads w' v (qO b ml ss ms).length ((qO b ml ss ms).map (aB ag))/\az w.heap.size w w':=by
 have cY:=hB.ok;have hk3:=hB.lg.len;obtain⟨i0,hi,hz0,hz1,hz2⟩:=j3 info3;obtain⟨i1,Au,NU,hy1,hy2⟩:=j3 Ji;obtain⟨i2,hi2,hx0,hx1,hx2⟩:=j3 ZU;obtain⟨pm,cm,rfl,_⟩:=aW hB.rm;obtain⟨pn,cn,rfl,_⟩:=aW hB.rs;obtain⟨pk,ck,rfl,_⟩:=aW hB.rk;have b1:az w.heap.size w (w.alloc (aw (b.cells (ae pm ml.length cm) (ae pn ss.length cn) (ae pk ms.length ck)) 28)):=(au _ _).alloc (ax _) _;have hk:=ay w (aw (b.cells (ae pm ml.length cm) (ae pn ss.length cn) (ae pk ms.length ck)) 28);have tO:=aj (eV b _ _ _ ml ss ms _ (hL.below b1) (hB.below b1))
 have HSo:mS (∀(k:ak) (l:List Mk) (r:Bool),decide (bw b ml ss l≠[])=r->lr b l->∀W,az w.heap.size w W->Reads W k l.length (dY l)->bu aq 119 #[aR (b.cells (ae pm ml.length cm) (ae pn ss.length cn) k)] W fun e w'=>e=aF (aH r)/\az W.heap.size W w'):=
  aj fun k l r hr hl W hW hk=>by
   have:=Kw b _ _ k ml ss l W ⟨hB.ok,hB.gZ,hB.mK,hl,hB.rm.below hW,hB.rs.below hW,hk⟩;rw[hr] at this;exact this
 obtain⟨r,hr⟩:∃r,decide (bw b ml ss ms≠[])=r:=⟨_,rfl⟩
 have HR0:=aj hr;clear hr;have HB:=aj hB;have yL:=aj b1;have HK:=aj hk;have HMo:=aj hB.lg;clear hL hB b1 hk;have HML:=aj (rfl:ml.length=ml.length);generalize ml.length=lm at *;generalize ss.length=ln at *;generalize hlk:ms.length=lk at *;have Zk:=aj hlk;clear hlk
 go_enter Tryz.func50,Tryz.ntmps50
 go_wp2_with (first
  |(go_at_call 71;refine tO.out.mono ?_;clear tO;rintro e w1 ⟨rfl,hb1⟩
    have qG:=(hb1.block w.heap.size (by simp)).trans HK.out;obtain⟨x0,x1,x2,x3,x4,x5,x6,x7,x8,x9,oh,og,o6,oA,oW⟩:=bT qG;have HK1:=aj qG;have hw1:w.heap.size<w1.heap.size:=(ai.1 qG).1;have px:mS (az w.heap.size w w1):=aj (yL.out.trans (hb1.mono (by simp)))
    clear qG hb1)
  |(go_at_call 119;refine(HSo.out _ ms r HR0.out HMo.out _ (px.out.alloc (by omega) _) (HB.out.rk.below (px.out.alloc (by omega) _))).mono ?_;rintro e w2 ⟨rfl,hb2⟩
    have hs2:=hb2.size;simp only[ej] at hs2;have hk2:=(hb2.block w.heap.size (by simp;omega)).trans ((aX w1 (aw (b.cells (ae pm lm cm) (ae pn ln cn) (ae pk lk ck)) 119) _ hw1).trans HK1.out);have hx2:=(hb2.block w1.heap.size (by simp)).trans (ay w1 (aw (b.cells (ae pm lm cm) (ae pn ln cn) (ae pk lk ck)) 119));have GG:=aj hk2;have HX2:=aj hx2;have pJ:mS (az w.heap.size w w2):=aj ((px.out.alloc (by omega) _).trans (hb2.mono (by simp;omega)));have z14:=aJ hk2 14 (ae pk lk ck) rfl;have f14:=dg hk2 14
    clear hk2 hx2 hb2 x0 x1 x2 x3 x4 x5 x6 x7 x8 x9 oh og o6 oA oW))
 .have hr1:r=true:=by assumption
  have HQ:mS (qO b ml ss ms=[]):=aj (by have:=HR0.out;rw[hr1] at this;unfold qO;rw[if_pos (by simpa using this)]);go_ret2;exact⟨_,rfl,by rw[HQ.out];exact cK ⟨rfl,rfl,rfl⟩,pJ.out⟩
 obtain rfl:r=false:=by assumption
 have HE:mS (bw b ml ss ms=[]):=aj (by have:=HR0.out;simpa using this);obtain⟨N,hN0⟩:∃N,N=2 ^ lk:=⟨_,rfl⟩
 have hN8:N<=8:=by
  have:lk=0\/lk=1\/lk=2\/lk=3:=by omega
  rcases this with h|h|h|h<;>subst h<;>omega
 have hN:wrap64 (2 ^ lk)=(N:Int):=by
  have:lk=0\/lk=1\/lk=2\/lk=3:=by omega
  rcases this with h|h|h|h<;>subst h<;>subst hN0<;>simp[wrap64]
 have HN0:=aj hN0
 have HBk:mS (∀w9,az w.heap.size w w9->∀(k:Nat) (hk:k<ms.length),∃g off,pk=some ⟨g,off,none⟩/\w9.cell? ⟨g,off+k*3,none⟩=some (ah ag ms[k].minute)/\w9.cell? ⟨g,off+k*3+1,none⟩=some (ah ag ms[k].lo)/\w9.cell? ⟨g,off+k*3+2,none⟩=some (ah ag ms[k].hi)):=aj fun w9 h9 k hk=>by
  rcases HB.out.rk.below h9 with⟨_,h0,_⟩|⟨g,off,cap,h0,_,_,h1⟩
  .omega
  cases h0;exact⟨g,off,rfl,wE h1 k hk⟩
 rw[hN];clear hN hN0
 go_loopw [6,7,8,9,10,11,25,34] (fun v6 _ _ _ _ _ i _ wr=>∃(M:Nat) (rows:List VL),M<=N/\i=ah ag M/\rows.map (·.2)=Eu b ml ss ms M/\wr.ownsRow w.heap.size 25 1 v6 rows.length (rows.map (·.1))/\(∀r∈rows,wr.ownsRow w.heap.size 3 1 r.1 r.2.length (r.2.map (aB ag)))/\wr.heap[w.heap.size]?=some (aw (b.cells (ae pm lm cm) (ae pn ln cn) (ae pk lk ck)) 28 (0,0))/\wr.heap[w1.heap.size]?=some (aw (b.cells (ae pm lm cm) (ae pn ln cn) (ae pk lk ck)) 119 (0,0))/\az w.heap.size w wr) (fun _ _ _ _ _ _ i _ _=>N-(intOf i).toNat)
 case atStart=>exact⟨0,[],iW _,by simp,rfl,dR _ _ _ _,by simp,GG.out,HX2.out,pJ.out⟩
 case round=>
  obtain⟨M,rows,hM,rfl,EH,Lq,PS,hkw,hxw,en⟩:=hrel;rename ar=>wo
  by_cases hlt:M<N
  .have HRw:=aj EH;have HO6:=aj Lq;have HOr:=aj PS;have HKw:=aj hkw;have HXw:=aj hxw;have xC:=aj en;have J8:=en.size;have Xk:=(ai.1 hkw).1;have hwx:=(ai.1 hxw).1;obtain⟨x0,x1,x2,x3,x4,x5,x6,x7,x8,x9,oh,og,o6,oA,oW⟩:=bT hxw;have g2:(wo.alloc (aw #[ah ag b.room,ah ag b.depth,ah ag b.least,ah ag b.minutes,ah ag b.cD,ah ag b.iL,ah ag b.eh,ah ag b.ie,ah ag b.ll,ah ag b.lm,ah ag b.pl,ah ag b.pm,ae pm lm cm,ae pn ln cn,ae none 0 0] 119)).heap[w.heap.size]?=some (aw (b.cells (ae pm lm cm) (ae pn ln cn) (ae pk lk ck)) 28 (0,0)):=(aX _ _ _ Xk).trans hkw;have z14:=aJ g2 14 (ae pk lk ck) rfl;have aiA:=dg g2 14;have hb2:az wo.heap.size wo (wo.alloc (aw #[ah ag b.room,ah ag b.depth,ah ag b.least,ah ag b.minutes,ah ag b.cD,ah ag b.iL,ah ag b.eh,ah ag b.ie,ah ag b.ll,ah ag b.lm,ah ag b.pl,ah ag b.pm,ae pm lm cm,ae pn ln cn,ae none 0 0] 119)):=(au _ _).alloc (ax _) _;have ho2:=ay wo (aw #[ah ag b.room,ah ag b.depth,ah ag b.least,ah ag b.minutes,ah ag b.cD,ah ag b.iL,ah ag b.eh,ah ag b.ie,ah ag b.ll,ah ag b.lm,ah ag b.pl,ah ag b.pm,ae pm lm cm,ae pn ln cn,ae none 0 0] 119);have ajB:=aj hb2;have ajo:=aj ho2;have adq:(wo.alloc (aw #[ah ag b.room,ah ag b.depth,ah ag b.least,ah ag b.minutes,ah ag b.cD,ah ag b.iL,ah ag b.eh,ah ag b.ie,ah ag b.ll,ah ag b.lm,ah ag b.pl,ah ag b.pm,ae pm lm cm,ae pn ln cn,ae none 0 0] 119)).heap.size=wo.heap.size+1:=by simp
   clear EH Lq PS hkw hxw en f14 g2 hb2 ho2;go_wp2
   go_loopw [8,10,11,34] (fun v8 _ _ i wr=>∃(j:Nat) (v14:ak),j<=lk/\i=ah ag j/\wr.ownsRow (wo.heap.size+1) 3 1 v8 (dV j M).length ((dV j M).map fun(i:Nat)=>aB ag (i:Int))/\wr.ownsRow (wo.heap.size+1) 81 3 v14 (dV j M).length (dY (m9 ms (dV j M)))/\wr.heap[wo.heap.size]?=some (aw (b.cells (ae pm lm cm) (ae pn ln cn) v14) 119 (0,0))/\az wo.heap.size wo wr) (fun _ _ _ i _=>lk-(intOf i).toNat)
   case atStart=>exact⟨0,ae none 0 0,iW _,by simp,dR _ _ _ _,dR _ _ _ _,ajo.out,ajB.out⟩
   case round=>
    obtain⟨j,v14,hj,rfl,Hr,A1,VO,yJ⟩:=hrel;have Z6:=yJ.size;have hcl:=qN j M;have hM5:M<512:=bA hlt (aO hN8 (by decide))
    by_cases MW:j<lk
    .have Ry:=wL M j hM5;have Js:j<ms.length:=by rw[Zk.out];exact MW
     obtain⟨g,off,rfl,c0,c1,c2⟩:=HBk.out wr (xC.out.trans (yJ.mono J8)) j Js;obtain⟨p8,c8,rfl⟩:=dA Hr;obtain⟨Tt,c14,rfl⟩:=dA A1;have Xq:=NC ms (dV j M) j Js;have afj:=aj Hr;have Vv:=aj A1;have HOj:=aj VO;have Sy:=aj yJ;have HPs:=aj Xq;have PQ:=(ai.1 VO).1;clear Hr A1 VO yJ Xq;generalize hmk:ms[j]=mk at *;cases hb:M.testBit j
     .have e1:dV (j+1) M=dV j M:=by rw[rI,hb];simp
      rw[hb] at Ry;have H1:=aj e1;clear e1;go_wp2;go_roundw
      case rel=>exact⟨j+1,ae Tt (dV j M).length c14,by omega,by simp,by rw[H1.out];exact afj.out.alloc _,by rw[H1.out];exact Vv.out.alloc _,(aX _ _ _ PQ).trans HOj.out,Sy.out.alloc (by omega) _⟩
      case measure=>simp[intOf];omega
     have e1:dV (j+1) M=dV j M++[j]:=by rw[rI,hb];simp
     rw[hb] at Ry;have H1:=aj e1;clear e1;have MV:∃xs,((dV j M).map fun(i:Nat)=>aB ag (i:Int))=xs:=⟨_,rfl⟩
     have hys:∃ys,dY (m9 ms (dV j M))=ys:=⟨_,rfl⟩
     obtain⟨xs,MV⟩:=MV;obtain⟨ys,hys⟩:=hys;have HXs:=aj MV;have HYs:=aj hys;generalize hk:(dV j M).length=k at *;have HKk:=aj hk;clear hk MV hys
     have HS0:mS (MT wo.heap.size wr.heap.size (fun v=>(b.cells (ae pm lm cm) (ae pn ln cn) v)) (ae p8 k c8) (ae Tt k c14) k xs ys mk.cells wo false false false (wr.alloc (aw mk.cells 81))):=
      aj ⟨fun _=>by have:=afj.out.alloc (aw mk.cells 81);rw[HXs.out] at this;exact this,fun _=>by have:=Vv.out.alloc (aw mk.cells 81);rw[HYs.out] at this;exact this,fun _=>(aX wr (aw mk.cells 81) _ PQ).trans HOj.out,ay _ _,Sy.out.alloc (by omega) _,by simp;omega⟩
     have adM:some wr.heap.size≠(ae Tt k c14:ak).ownBlock:=fun h=>by
      have:=(Vv.out.lt _ h.symm).2;omega
     have ahg:wr.heap.size≠wo.heap.size:=by omega
     go_wp2
     refine Ph.vq (late:=[(10,8,ae p8 k c8)]) (hlate:=⟨⟨rfl,rfl⟩,trivial⟩) (by kernel_rfl) [
     pV (ae p8 k c8),
      pV (ah ag j),
      fun v ds w9=>∃q,v=ae (some ⟨q,0,none⟩) 1 1/\w9.heap[q]?=some (aw #[ah ag j] 3 (0,0))/\some q≠(ae p8 k c8:ak).ownBlock,
      fun v ds w9=>∃p c,v=ae p (k+1) c/\w9.ownsRow (wo.heap.size+1) 3 1 v (k+1) (xs++[ah ag j]),
      pV (aS (some ⟨wo.heap.size,0,none⟩)),
      pV (aS (some ⟨wo.heap.size,14,none⟩)),
      pV (ae Tt k c14),
      pV (aR mk.cells),
      fun v ds w9=>∃q,v=ae (some ⟨q,0,none⟩) 1 1/\w9.heap[q]?=some (aw mk.cells 81 (0,0))/\some q≠(ae Tt k c14:ak).ownBlock,
      fun v ds w9=>∃p c,v=ae p (k+1) c/\w9.ownsRow (wo.heap.size+1) 81 3 v (k+1) (ys++mk.cells.toList),
      fun v ds w9=>∃p c,v=ae p (k+1) c/\w9.ownsRow (wo.heap.size+1) 3 1 v (k+1) (xs++[ah ag j]),
      pV (aS (some ⟨wo.heap.size,0,none⟩)),
      pV (aS (some ⟨wo.heap.size,14,none⟩)),
      fun v ds w9=>∃x,ds[1]?=some x/\w9.heap[wo.heap.size]?=some (aw (b.cells (ae pm lm cm) (ae pn ln cn) x) 119 (0,0))]
      (fun L w9=>MT wo.heap.size wr.heap.size (fun v=>(b.cells (ae pm lm cm) (ae pn ln cn) v)) (ae p8 k c8) (ae Tt k c14) k xs ys mk.cells wo (L 3) (L 9) (L 13) w9) [(9,pv wo.heap.size 0),(10,ah ag j),(11,pv wr.heap.size 0)] (by kernel_rfl) ?rst (fun L L2 w1 w2 SE h hb=>h.next (SE 3) (SE 9) (SE 13) hb) (HS0.out.drew) ⟨rfl,rfl,rfl,trivial⟩ ?reach ?rfin
     case rst=>
      refine⟨Ph.sV,Ph.sV,?_,?_,Ph.sV,Ph.sV,Ph.sV,Ph.sV,?_,?_,?_,Ph.sV,Ph.sV,?_,trivial⟩
      .rintro v ds L w1 w2 hS ⟨q,h1,h2,h3⟩ hb;exact⟨q,h1,(hb.block _ (ai.1 h2).1).trans h2,h3⟩
      .rintro v ds L w1 w2 hS ⟨p,c,h1,h2⟩ hb;exact⟨p,c,h1,cN h2 hb⟩
      .rintro v ds L w1 w2 hS ⟨q,h1,h2,h3⟩ hb;exact⟨q,h1,(hb.block _ (ai.1 h2).1).trans h2,h3⟩
      .rintro v ds L w1 w2 hS ⟨p,c,h1,h2⟩ hb;exact⟨p,c,h1,cN h2 hb⟩
      .rintro v ds L w1 w2 hS ⟨p,c,h1,h2⟩ hb;exact⟨p,c,h1,cN h2 hb⟩
      rintro v ds L w1 w2 hS ⟨x,h1,h2⟩ hb;exact⟨x,h1,(hb.block _ (ai.1 h2).1).trans h2⟩
     case reach=>
      refine⟨?_,?_,?_,?_,?_,?_,?_,?_,?_,?_,?_,?_,?_,?_,trivial⟩<;>rintro Lf ev w1 hn vK hS hc hg hf ⟨b9,Ss,b11,hlt⟩ hd
      .clear hd;have b8:=hlt.1 (hn 10 (by kernel_rfl));refine Ph.yv ?_ rfl;go_simp
      .clear hd;refine Ph.yv ?_ rfl;go_simp
      .have d1:ev (aM 45)=_:=hd.1 rfl;clear hd;refine Lag.Yields.value (v:=ae (some ⟨w1.heap.size,0,none⟩) 1 1) (w':=w1.alloc (aw #[ah ag j] 3)) ?_ ⟨⟨_,rfl,ay _ _,fun h=>absurd ((hS.I0 (hn 3 (by kernel_rfl))).lt _ h.symm).2 (Nat.lt_irrefl _)⟩,cK ((au _ _).alloc (ax _) _)⟩;go_simp
      .have d0:ev (aM 44)=_:=hd.1 rfl;obtain⟨q,e46,hq1,VN⟩:=hd.2.1 rfl;clear hd;replace e46:ev (aM 46)=_:=e46;have hown:=hS.I0 vK;refine Yields.uq (aM 44) (aM 46) 25 rfl (wo.heap.size+1) 3 i0 (ah ag 0) 1 8 Tryz.underlying25 hi hz0 hz1 hz2 rfl (by decide) (ae p8 k c8) k _ d0 hown ⟨q,0,none⟩ 1 1 [ah ag j] e46 rfl ?_ (by simp[cj]) (by unfold jM;omega) (by omega) hS.size ?_
       .intro n u hn;have h5:=aJ hq1 n u (by simpa using hn);have e:(⟨q,0,none⟩:Addr).add n=⟨q,n,none⟩:=by cases n<;>simp[k8]
        rw[e];exact h5
       intro v' w' hown' hgrow hnil;obtain⟨p',c',rfl⟩:=dA hown';refine⟨⟨p',c',rfl,hown'⟩,.inr ⟨hS.ai0 vK hgrow (by simp[Ph.upd]) (by simp[Ph.upd]),?_⟩⟩;intro t u ds hj hL hp
       match t,hp with
       |0,hp=>exact hp
       |1,hp=>exact hp
       |2,⟨q2,h1,h2,h3⟩=>exact⟨q2,h1,(hgrow.block q2 (ai.1 h2).1 h3).trans h2,h3⟩
       |3,_=>exact(hj rfl).elim
       |4,hp=>exact hp
       |5,hp=>exact hp
       |6,hp=>exact hp
       |7,hp=>exact hp
       |8,⟨q2,h1,h2,h3⟩=>exact⟨q2,h1,(hgrow.block q2 (ai.1 h2).1 (lH hown h2 (by decide))).trans h2,h3⟩
       |9,_=>rw[hn 9 (by kernel_rfl)] at hL;cases hL
       |10,_=>rw[hn 10 (by kernel_rfl)] at hL;cases hL
       |11,hp=>exact hp
       |12,hp=>exact hp
       |13,_=>rw[hn 13 (by kernel_rfl)] at hL;cases hL
       |t+14,_=>trivial
      .clear hd;refine Ph.yv ?_ rfl;go_simp
      .have d4:ev (aM 48)=_:=hd.1 rfl;clear hd;refine Ph.yv ?_ rfl;go_simp
      .have d5:ev (aM 49)=_:=hd.1 rfl;clear hd;have an3:=aJ (hS.ZI (hn 13 (by kernel_rfl))) 14 (ae Tt k c14) rfl;refine Ph.yv ?_ rfl;go_simp
      .clear hd;refine Lag.Yields.zy 81 _ rfl _ b11 81 _ (0,0) _ hS.VJ Tryz.underlying81 rfl (by kernel_rfl) ⟨rfl,cK (au _ _)⟩
      .have d7:ev (aM 51)=_:=hd.1 rfl;clear hd;refine Lag.Yields.value (v:=ae (some ⟨w1.heap.size,0,none⟩) 1 1) (w':=w1.alloc (aw mk.cells 81)) ?_ ⟨⟨_,rfl,ay _ _,fun h=>absurd ((hS.zl (hn 9 (by kernel_rfl))).lt _ h.symm).2 (Nat.lt_irrefl _)⟩,cK ((au _ _).alloc (ax _) _)⟩;go_simp
      .have d6:ev (aM 50)=_:=hd.1 rfl;obtain⟨q,e52,hq1,VN⟩:=hd.2.1 rfl;clear hd;replace e52:ev (aM 52)=_:=e52;have hown:=hS.zl vK;refine Yields.uq (aM 50) (aM 52) 26 rfl (wo.heap.size+1) 81 i1 (aR #[ah ag 0,ah ag 0,ah ag 0]) 3 24 BA Au NU hy1 hy2 rfl (by decide) (ae Tt k c14) k _ d6 hown ⟨q,0,none⟩ 1 1 mk.cells.toList e52 rfl ?_ (by simp[cj]) (by unfold jM;omega) (by omega) hS.size ?_
       .intro n u hn;have h5:=aJ hq1 n u (by simpa using hn);have e:(⟨q,0,none⟩:Addr).add n=⟨q,n,none⟩:=by cases n<;>simp[k8]
        rw[e];exact h5
       intro v' w' hown' hgrow hnil;obtain⟨p',c',rfl⟩:=dA hown';refine⟨⟨p',c',rfl,hown'⟩,.inr ⟨hS.ae9 vK hgrow adM (by simp[Ph.upd]) (by simp[Ph.upd]),?_⟩⟩;intro t u ds hj hL hp
       match t,hp with
       |0,hp=>exact hp
       |1,hp=>exact hp
       |2,⟨q2,h1,h2,h3⟩=>exact⟨q2,h1,(hgrow.block q2 (ai.1 h2).1 (lH hown h2 (by decide))).trans h2,h3⟩
       |3,⟨p,c,h1,h2⟩=>exact⟨p,c,h1,fY h2 fun g hg=>hgrow.block g (h2.lt g hg).2 (zk h2 hown (by decide) hg)⟩
       |4,hp=>exact hp
       |5,hp=>exact hp
       |6,hp=>exact hp
       |7,hp=>exact hp
       |8,⟨q2,h1,h2,h3⟩=>exact⟨q2,h1,(hgrow.block q2 (ai.1 h2).1 h3).trans h2,h3⟩
       |9,_=>exact(hj rfl).elim
       |10,_=>rw[hn 10 (by kernel_rfl)] at hL;cases hL
       |11,hp=>exact hp
       |12,hp=>exact hp
       |13,_=>rw[hn 13 (by kernel_rfl)] at hL;cases hL
       |t+14,_=>trivial
      .have d3:∃p c,(ev (aM 47))=ae p (k+1) c/\w1.ownsRow (wo.heap.size+1) 3 1 (ev (aM 47)) (k+1) (xs++[ah ag j]):=hd.1 rfl;clear hd;obtain⟨p,c,h1,h2⟩:=d3;refine Lag.Yields.value (v:=ev (aM 47)) (w':=w1) rfl ⟨⟨p,c,h1,h2⟩,cK (au _ _)⟩
      .clear hd;refine Ph.yv ?_ rfl;go_simp
      .have d11:ev (aM 54)=_:=hd.1 rfl;clear hd;refine Ph.yv ?_ rfl;go_simp
      have d12:ev (aM 55)=_:=hd.1 rfl;have d9:∃p c,(ev (aM 53))=ae p (k+1) c/\w1.ownsRow (wo.heap.size+1) 81 3 (ev (aM 53)) (k+1) (ys++mk.cells.toList):=hd.2.1 rfl;clear hd;obtain⟨p,c,h1,h2⟩:=d9;have tj:=hS.ZI vK;have c1:=aJ tj 14 (ae Tt k c14) rfl;have f1:=dg tj 14;refine Lag.Yields.skip (w':=w1.setCell ⟨wo.heap.size,14,none⟩ (ev (aM 53))) ?_ ⟨⟨_,rfl,dh _ tj⟩,.inr ⟨hS.put vK ahg (ev (aM 53)) (by simp[Ph.upd]) (by simp[Ph.upd]),?_⟩⟩
      .rw[h1];go_simp
      .intro t u ds hj hL hp
       match t,hp with
       |0,hp=>exact hp
       |1,hp=>exact hp
       |2,⟨q2,g1,g2,g3⟩=>exact⟨q2,g1,(bt _ _ _ _ (Vi g2 tj (by decide))).trans g2,g3⟩
       |3,⟨p2,c2,g1,g2⟩=>exact⟨p2,c2,g1,dn g2 tj (by decide)⟩
       |4,hp=>exact hp
       |5,hp=>exact hp
       |6,hp=>exact hp
       |7,hp=>exact hp
       |8,⟨q2,g1,g2,g3⟩=>exact⟨q2,g1,(bt _ _ _ _ (Vi g2 tj (by decide))).trans g2,g3⟩
       |9,⟨p2,c2,g1,g2⟩=>exact⟨p2,c2,g1,dn g2 tj (by decide)⟩
       |10,⟨p2,c2,g1,g2⟩=>exact⟨p2,c2,g1,dn g2 tj (by decide)⟩
       |11,hp=>exact hp
       |12,hp=>exact hp
       |13,_=>exact(hj rfl).elim
       |t+14,_=>trivial
     case rfin=>
      intro a3 w3 hR;have hS:=hR.s;have e9:∃p c,(a3.tmps.getD 53 af)=ae p (k+1) c/\w3.ownsRow (wo.heap.size+1) 81 3 (a3.tmps.getD 53 af) (k+1) (ys++mk.cells.toList):=hR.val 9 (by decide);have JI:∃p c,(a3.tmps.getD 8 af)=ae p (k+1) c/\w3.ownsRow (wo.heap.size+1) 3 1 (a3.tmps.getD 8 af) (k+1) (xs++[ah ag j]):=hR.val 10 (by decide);have e13:∃x,([a3.tmps.getD 55 af,a3.tmps.getD 53 af,a3.tmps.getD 8 af,a3.tmps.getD 44 af,a3.tmps.getD 45 af,a3.tmps.getD 46 af,a3.tmps.getD 47 af,a3.tmps.getD 48 af,a3.tmps.getD 49 af,a3.tmps.getD 50 af,a3.tmps.getD 51 af,a3.tmps.getD 52 af,a3.tmps.getD 53 af,a3.tmps.getD 8 af]:List ak)[1]?=some x/\w3.heap[wo.heap.size]?=some (aw (b.cells (ae pm lm cm) (ae pn ln cn) x) 119 (0,0)):=hR.val 13 (by decide);have ha:=hR.lits 71 rfl;simp only[aU,cg,nD] at ha;rw[hR.kp 0 (by kernel_rfl),hR.kp 1 (by kernel_rfl),hR.kp 2 (by kernel_rfl),hR.kp 3 (by kernel_rfl),hR.kp 4 (by kernel_rfl),hR.kp 5 (by kernel_rfl),hR.kp 6 (by kernel_rfl),hR.kp 7 (by kernel_rfl),hR.kp 9 (by kernel_rfl),hR.kp 12 (by kernel_rfl),hR.kp 13 (by kernel_rfl),hR.kp 14 (by kernel_rfl),hR.kp 15 (by kernel_rfl),hR.kp 16 (by kernel_rfl),hR.kp 17 (by kernel_rfl),hR.kp 18 (by kernel_rfl),hR.kp 19 (by kernel_rfl),hR.kp 20 (by kernel_rfl),hR.kp 21 (by kernel_rfl),hR.kp 22 (by kernel_rfl),hR.kp 23 (by kernel_rfl),hR.kp 24 (by kernel_rfl),hR.kp 25 (by kernel_rfl),hR.kp 26 (by kernel_rfl),hR.kp 27 (by kernel_rfl),hR.kp 28 (by kernel_rfl),hR.kp 29 (by kernel_rfl),hR.kp 30 (by kernel_rfl),hR.kp 31 (by kernel_rfl),hR.kp 32 (by kernel_rfl),hR.kp 33 (by kernel_rfl),hR.kp 34 (by kernel_rfl),hR.kp 57 (by kernel_rfl),hR.kp 58 (by kernel_rfl),hR.kp 59 (by kernel_rfl),hR.kp 60 (by kernel_rfl),hR.kp 61 (by kernel_rfl),hR.kp 62 (by kernel_rfl),hR.kp 63 (by kernel_rfl),hR.kp 64 (by kernel_rfl),hR.kp 65 (by kernel_rfl),hR.kp 66 (by kernel_rfl),hR.kp 67 (by kernel_rfl),hR.kp 68 (by kernel_rfl),hR.kp 69 (by kernel_rfl),hR.kp 70 (by kernel_rfl)] at ha;simp only[kO,gp,gi] at ha;clear hR;obtain⟨p8n,c8n,e8,ho8⟩:=JI;obtain⟨p53,c53,e53,aad⟩:=e9;obtain⟨x,ex,tj⟩:=e13;have ex2:a3.tmps.getD 53 af=x:=bj ex;rw[e53] at ex2 aad;subst ex2;rw[e8] at ho8;rw[e8] at ha;generalize a3.tmps.getD=zz at ha;have pJ:=aj hS.below;have HOb:=aj tj;have HN8:=aj ho8;have ajw:=aj aad;clear e8 e53 ex ho8 aad tj hS;subst ha;go_wp2;go_roundw
      case rel=>
       refine⟨j+1,ae p53 (k+1) c53,by omega,by simp,?_,?_,HOb.out,pJ.out⟩
       .rw[H1.out,qa,fh,HKk.out,HXs.out];exact HN8.out
       rw[H1.out,qa,HKk.out,HPs.out,Ns,HYs.out];exact ajw.out
      case measure=>simp[intOf];omega
    obtain rfl:lk=j:=by omega
    rename ar=>wc;obtain⟨p8,c8,rfl⟩:=dA Hr;obtain⟨Tt,c14,rfl⟩:=dA A1;obtain⟨p6,c6,rfl⟩:=dA HO6.out;have hpl:(m9 ms (dV lk M)).length=(dV lk M).length:=KU ms _ fun i hi=>by rw[Zk.out];simp[dV] at hi;exact hi.1
    have Lv:=Ts HMo.out (n:=lk) (mask:=M) (by rw[Zk.out];exact ax _)
    have hrk:Reads wc (ae Tt (dV lk M).length c14) (m9 ms (dV lk M)).length (dY (m9 ms (dV lk M))):=by
     rw[hpl];exact Reads.iT A1 (by omega) (by rw[qf,hpl];omega)
    have hwc:az w.heap.size w wc:=xC.out.trans (yJ.mono J8);obtain⟨r2,hr2⟩:∃r2,decide (bw b ml ss (m9 ms (dV lk M))≠[])=r2:=⟨_,rfl⟩
    have hso:=HSo.out _ _ r2 hr2 Lv wc hwc hrk;have ad6:mI b ml ss ms M = !r2:=by unfold mI;rw[Zk.out,<-hr2];simp
    have Xt:=Q9 b ml ss ms M;rw[ad6] at Xt;have hcI:uG ms.length M=(dV lk M).map fun(i:Nat)=>(i:Int):=by rw[Zk.out];rfl
    rw[hcI] at Xt;obtain⟨y0,y1,y2,y3,y4,y5,y6,y7,y8,y9,M6,O9,O8,O7,Kf⟩:=bT VO;have Ub:wc.ownsRow w.heap.size 3 1 (ae p8 (dV lk M).length c8) (dV lk M).length ((dV lk M).map fun(i:Nat)=>aB ag (i:Int)):=ownsRow_base Hr (by omega);have aff:=aj hso;have HOd:=aj Xt;have HO8:=aj Ub;have HWc:=aj hwc;have Sy:=aj yJ
    have hrl:rows.length<=M:=by
     have h1:=congrArg List.length HRw.out;have h2:=py (mI b ml ss ms) (aU M);unfold Eu at h1;simp at h1 h2;omega
    clear hso Xt Ub Hr A1 hwc yJ VO Lv hrk hpl hcI ad6 x0 x1 x2 x3 x4 x5 x6 x7 x8 x9 oh og o6 oA oW z14 aiA;generalize dV lk M=C at *
    go_wp2_with (first
     |(go_at_call 119;refine aff.out.mono ?_;clear aff;rintro e w5 ⟨rfl,hb5⟩
       have HB5:=aj hb5;have hs5:=hb5.size;clear hb5 y0 y1 y2 y3 y4 y5 y6 y7 y8 y9 M6 O9 O8 O7 Kf)
     |(at_builtin
       have hQ1:∀(i:Nat) (u:ak),([ae p8 C.length c8]:List ak)[i]?=some u->(w5.alloc (aw #[ae p8 C.length c8] 25)).cell? ((⟨w5.heap.size,0,none⟩:Addr).add i)=some u:=fun i u hj=>by
        match i,hj with
        |0,hj=>simp at hj;subst hj;simp[k8]
       have Jl:az wo.heap.size wo w5:=Sy.out.trans (HB5.out.mono (by omega));have aaM:w5.ownsRow w.heap.size 25 1 (ae p6 rows.length c6) rows.length (rows.map (·.1)):=cN HO6.out Jl;have Yj:=aj aaM;refine wpList_append_own _ rfl _ _ 116 rfl w.heap.size 25 i2 (ae none 0 0) 1 24 Tryz.underlying116 hi2 hx0 hx1 hx2 rfl (by decide) (ae p6 rows.length c6) rows.length (rows.map (·.1)) rfl (aaM.alloc _) ⟨w5.heap.size,0,none⟩ 1 1 [ae p8 C.length c8] rfl rfl hQ1 (by simp[cj]) (by unfold jM;omega) (by omega) (by simp;omega) ?_;intro v' w7 Uc hgrow hnil
       obtain⟨p7,c7,rfl⟩:=dA Uc))
    .have e2:r2=false:=by simp_all
     subst e2;have Cq:∀q,(ae p6 rows.length c6:ak).ownBlock=some q->w.heap.size<=q:=fun q hq=>(Yj.out.lt q hq).1;have hb7:az w.heap.size w w7:=((xC.out.trans (Jl.mono J8)).alloc (by omega) _).grown hgrow (by simp;omega) Cq;have hn5:∀q,q<w5.heap.size->some q≠(ae p6 rows.length c6:ak).ownBlock->w7.heap[q]?=w5.heap[q]?:=fun q hq hne=>(hgrow.block q (by simp;omega) hne).trans (aX _ _ _ hq);have lZ:∀ {base size v n xs},w5.ownsRow base 3 size v n xs->w7.ownsRow base 3 size v n xs:=fun h=>fY h fun q hq=>hn5 q (h.lt q hq).2 (zk h Yj.out (by decide) hq);have hk5:=(Jl.block _ Xk).trans HKw.out;have hx5:=(Jl.block _ hwx).trans HXw.out;have hk7:=(hn5 _ (by omega) (lH Yj.out hk5 (by decide))).trans hk5;have hx7:=(hn5 _ (by omega) (lH Yj.out hx5 (by decide))).trans hx5
     have HR7:mS (∀r∈rows++[((ae p8 C.length c8:ak),C.map fun(i:Nat)=>(i:Int))],w7.ownsRow w.heap.size 3 1 r.1 r.2.length (r.2.map (aB ag))):=aj fun r hr=>by
      rcases List.mem_append.1 hr with h|h
      .exact lZ (cN (HOr.out r h) Jl)
      rw[List.mem_singleton] at h;subst h;simp only[fR,List.map_map];exact lZ (cN HO8.out HB5.out)
     have HB7:=aj hb7;have HK7:=aj hk7;have HX7:=aj hx7;have HO7:=aj Uc;clear hb7 hn5 lZ hk5 hx5 hk7 hx7 Uc hgrow hnil hQ1 aaM Jl Cq;go_roundw
     case rel=>
      refine⟨M+1,rows++[((ae p8 C.length c8:ak),C.map fun(i:Nat)=>(i:Int))],by omega,by simp,?_,?_,HR7.out,HK7.out,HX7.out,HB7.out⟩
      .rw[HOd.out,fh,HRw.out];rfl
      rw[qa,fh];exact HO7.out
     case measure=>simp[intOf];omega
    have e2:r2=true:=by simp_all
    subst e2;have Jl:az wo.heap.size wo w5:=Sy.out.trans (HB5.out.mono (by omega));have HW5:=aj Jl;clear Jl;go_roundw
    case rel=>
     refine⟨M+1,rows,by omega,by simp,?_,cN HO6.out HW5.out,fun r hr=>cN (HOr.out r hr) HW5.out,(HW5.out.block _ Xk).trans HKw.out,(HW5.out.block _ hwx).trans HXw.out,xC.out.trans (HW5.out.mono J8)⟩;rw[HOd.out,HRw.out];simp
    case measure=>simp[intOf];omega
  obtain rfl:N=M:=by omega
  rename ar=>wz;have hz:=en.size
  obtain⟨f,rest,rfl⟩:∃f rest,rows=f::rest:=by
   cases rows with
   |nil=>
    have h1:=ZH HE.out;rw[Zk.out,<-HN0.out] at h1;exact absurd EH.symm h1
   |cons f rest=>exact⟨f,rest,rfl⟩
  have hfr:∀r∈f::rest,sk wz r:=fun r hr=>Reads.iT (PS r hr) (by
   have h1:r.2∈Eu b ml ss ms N:=by rw[<-EH];exact List.mem_map_of_mem hr
   unfold Eu at h1;obtain⟨m,_,h2⟩:=List.mem_map.1 h1;rw[<-h2];unfold uG;have:=qN ms.length m;rw[fR,Zk.out] at *
   omega) (by simp)
  have hcl:qO b ml ss ms=(nK f rest).2:=by
   unfold qO;rw[if_neg (by simp[HE.out]),Zk.out,<-HN0.out,<-EH,H7];rfl
  have Rz:sk wz (nK f rest):=hfr _ (by
   rcases tL rest f with h|h
   .rw[h];simp
   exact bW _ h)
  have hrl:rest.length+1<=N:=by
   have h1:=congrArg List.length EH;have h2:=py (mI b ml ss ms) (aU N);unfold Eu at h1;simp at h1 h2;omega
  obtain⟨go,cap,rfl,hgo,Gi,hcell⟩:∃go cap,u6=ae (some ⟨go,0,none⟩) (rest.length+1) cap/\go<wz.heap.size/\rest.length+1<=cap/\∀j u,((f::rest).map (·.1))[j]?=some u->wz.cell? ⟨go,0+j,none⟩=some u:=by
   have h1:=Reads.iT Lq (by simp;omega) (by simp);rcases Lq.2 with⟨_,h0⟩|⟨g,cap,cur,rfl,_,hg,_⟩
   .simp at h0
   rcases h1 with⟨h2,_⟩|⟨g2,off,abp,h2,h3,h4,h5⟩
   .cases h2
   cases h2;exact⟨g,cap,rfl,h4,h3.2,h5⟩
  have HC0:mS (∀w,az wz.heap.size wz w->w.cell? ⟨go,0,none⟩=some f.1):=aj fun w hb=>(hb.cell (p:=⟨go,0,none⟩) hgo).trans (hcell 0 _ rfl)
  have Vu:mS (∀w,az wz.heap.size wz w->Reads w (ae (if cap=1 then some ⟨go,0,none⟩ else some ⟨go,1,none⟩) rest.length (cap-1)) rest.length (rest.map (·.1))):=aj fun w hb=>
   if h1:cap=1 then by
    have h0:rest=[]:=bf (by omega);subst h0;rw[if_pos h1];exact .inr ⟨go,0,cap-1,rfl,⟨by simp,by simp⟩,bA hgo hb.size,fun j u hj=>by simp at hj⟩
   else by
   rw[if_neg h1]
   exact .inr ⟨go,1,cap-1,rfl,by omega,bA hgo hb.size,fun j u hj=>(hb.cell (p:=⟨go,_,none⟩) hgo).trans (by
    have:=hcell (j+1) u (by simpa using hj)
    rwa [show 0+(j+1)=1+j by omega] at this)⟩
  have HBe:mS (∀W,az wz.heap.size wz W->bu aq 120 #[.func (.func 121) #[] #[],f.1,ae (if cap=1 then some ⟨go,0,none⟩ else some ⟨go,1,none⟩) rest.length (cap-1)] W fun e w'=>e=aF (nK f rest).1/\az W.heap.size W w'):=aj fun W hb=>
   Sb f rest _ W ((hfr f (by simp)).below hb) (fun r hr=>(hfr r (bW _ hr)).below hb) (Vu.out W hb)
  obtain⟨pf,cf,YR,_⟩:=aW (hfr f (by simp));obtain⟨pb,cb,VQ,_⟩:=aW Rz
  have HBm:mS (∀W,az wz.heap.size wz W->Reads W (ae pb (qO b ml ss ms).length cb) (qO b ml ss ms).length ((qO b ml ss ms).map (aB ag))):=aj fun W hb=>by
   have:=Rz.below hb;unfold sk at this;rw[VQ] at this;rw[hcl];exact this
  rw[YR] at HC0 HBe;rw[VQ,<-hcl] at HBe;generalize hcn:(qO b ml ss ms).length=cn at *;have HCn:=aj hcn;clear hcn;generalize f.2.length=fn at *;have HNz:=aj en;clear EH Lq PS hkw hxw en hfr hcl Rz hcell YR VQ Vu;generalize rest.length=Rn at *;have l2:(1:Int)<=(Rn:Int)+1:=by omega
  go_wp2
  refine bY (by kernel_rfl) [
  pV (ae (some ⟨go,0,none⟩) (Rn+1) cap),
   pV (pv go 0),
   pV (ae pf fn cf),
   pV (ae (some ⟨go,0,none⟩) (Rn+1) cap),
   pV (ae (if cap=1 then some ⟨go,0,none⟩ else some ⟨go,1,none⟩) Rn (cap-1)),
   pV (ae pb cn cb),
   pV (ae pb cn cb),
   pV (ah ag 0)]
   (fun w9=>az wz.heap.size wz w9) [(6,ae (some ⟨go,0,none⟩) (Rn+1) cap)] (by kernel_rfl) ?rst (fun w1 w2 h hb=>h.trans (hb.mono h.size)) ((au _ _).drew) ⟨rfl,trivial⟩ ?reach ?rfin
  case rst=>
   refine⟨sV,sV,sV,sV,sV,sV,sV,sV,trivial⟩
  case reach=>
   refine⟨?_,?_,?_,?_,?_,?_,?_,?_,trivial⟩<;>rintro ev w1 hS hc hg hf ⟨b6,-⟩ hd
   .clear hd;exact tV
   .have d0:ev (aM 65)=_:=hd.1 rfl;clear hd;exact tV
   .have d1:ev (aM 66)=_:=hd.1 rfl;clear hd;have z:=HC0.out w1 hS;exact tV
   .clear hd;exact tV
   .have d3:ev (aM 68)=_:=hd.1 rfl;clear hd;exact tV
   .have d2:ev (aM 67)=_:=hd.1 rfl;have d4:ev (aM 69)=_:=hd.2.1 rfl;clear hd;refine yc (HBe.out w1 hS) ?_ fun _=>rfl;go_simp
   .have d5:ev (aM 70)=_:=hd.1 rfl;clear hd;exact tV
   clear hd;exact tV
  case rfin=>
   intro a3 w3 hR;have hS:=hR.s;have e6:a3.tmps.getD 2 af=_:=hR.val 6 (by decide);have e7:a3.tmps.getD 3 af=_:=hR.val 7 (by decide);have ha:=hR.lits 71 rfl;simp only[aU,cg,nD] at ha;clear hR;rw[e6,e7] at ha;generalize a3.tmps.getD=zz at ha;have pJ:=aj hS;clear e6 e7 hS;subst ha;go_wp2;go_ret2;exact⟨_,rfl,by rw[HCn.out];exact HBm.out _ pJ.out,HNz.out.trans (pJ.out.mono (by omega))⟩
theorem Dr(b:BB)(bq aK aA:ak)(ml:List Mn)(ss:List Int)(ms:List Mk)(w:ar)(hL:Laid w)(hB:cU b bq aK aA ml ss ms w)(hne:bw b ml ss ms≠[])(cp:Nat)
  (hown:∀W,az w.heap.size w W->bu aq 164 #[aR (b.cells bq aK aA),pv cp 0] W fun e W'=>e=aF (ah ag 0)/\az W.heap.size W W') :
  bu aq 103 #[aR (b.cells bq aK aA),.func (.func 164) #[] #[pv cp 0]] w fun e w'=>∃v,e=aF (.tuple #[aR (b.open bq aK aA v),ah ag 0])/\gY w' w.heap.size v (bw b ml ss ms)/\az w.heap.size w w':=by
 have tO:mS (∀W,az w.heap.size w W->bu aq 71 #[aR (b.cells bq aK aA)] W fun e w'=>e=aF (ah ag 0)/\az W.heap.size W w'):=aj fun W hb=>eV b bq aK aA ml ss ms W (hL.below hb) (hB.below hb);have Vz:mS (∀W,az w.heap.size w W->bu aq 116 #[.func (.func 117) #[aR (b.cells bq aK aA)] #[]] W fun e w'=>∃v,e=aF v/\gY w' W.heap.size v (bw b ml ss ms)/\az W.heap.size W w'):=aj fun W hb=>oO b bq aK aA ml ss ms W (hB.below hb);have MQ:=aj hown;obtain⟨pm,cm,rfl,_⟩:=aW hB.rm;obtain⟨pn,cn,rfl,_⟩:=aW hB.rs;obtain⟨pk,ck,rfl,_⟩:=aW hB.rk;have kC:0<(bw b ml ss ms).length:=List.length_pos_iff.2 hne;clear hL hB hne hown;generalize bw b ml ss ms=all at *;generalize ml.length=lm at *;generalize ss.length=ln at *;generalize ms.length=lk at *;have b0:az w.heap.size w ((w.alloc (aw (b.cells (ae pm lm cm) (ae pn ln cn) (ae pk lk ck)) 28)).alloc (aw iu 122)):=((au _ _).alloc (ax _) _).alloc (by simp) _;have HT:mS (Two w (b.cells (ae pm lm cm) (ae pn ln cn) (ae pk lk ck)) 28 iu 122 ((w.alloc (aw (b.cells (ae pm lm cm) (ae pn ln cn) (ae pk lk ck)) 28)).alloc (aw iu 122))):=aj ⟨(Two.mk' w _ _ _ _).one,(Two.mk' w _ _ _ _).two,b0,by simp⟩;have Kc:=aj b0;clear b0
 go_enter Tryz.func103,Tryz.ntmps103
 go_wp2_with (first
  |(refine mg rfl 122 _ rfl _ rfl 122 _ (0,0) _ HL7.out jd rfl (by kernel_rfl) ?_)
  |(refine fO rfl 122 _ _ rfl _ _ rfl rfl 122 _ O4.out (by kernel_rfl) rfl (by simp[cj]) ?_)
  |(go_at_call 71;refine(tO.out _ Kc.out).mono ?_;clear tO;rintro e w1 ⟨rfl,hb1⟩
    have sw:=HT.out.next hb1;have oX:=aj sw
    obtain⟨x0,x1,x2,x3,x4,x5,x6,x7,x8,x9,oh,og,o6,oA,oW⟩:=bT sw.one
    clear sw hb1)
  |(go_at_call 164;refine(MQ.out _ (oX.out.below.alloc (by have:=oX.out.size;omega) _)).mono ?_;clear MQ;rintro e w2 ⟨rfl,hb2⟩
    have C2:=(oX.out.next ((au _ _).alloc (ax _) (aw (b.open (ae pm lm cm) (ae pn ln cn) (ae pk lk ck) (ae none 0 0)) 122))).next hb2;have GD:=aj C2
    have hk2:=(hb2.block w1.heap.size (by simp)).trans (ay w1 _);have GG:=aj hk2;have hs1:=oX.out.size;have hs2:=hb2.size;obtain⟨y0,y1,y2,y3,y4,y5,y6,y7,y8,y9,M6,O9,O8,O7,Kf,Il⟩:=jC hk2
    clear C2 hk2 hb2)
  |(go_at_call 116;refine(Vz.out _ GD.out.below).mono ?_;clear Vz;rintro e w3 ⟨v,rfl,jn,hb3⟩
    have FN:=GD.out.next hb3;have Qj:=aj FN;have MR:=aj jn
    simp only[ej] at hs2;have hk3:=(hb3.block w1.heap.size (by omega)).trans GG.out;have HK3:=aj hk3;have hs3:=hb3.size;clear y0 y1 y2 y3 y4 y5 y6 y7 y8 y9 M6 O9 O8 O7 Kf Il;have Il:=aJ hk3 15 _ rfl;have f7:=dg hk3 15;have pJ:=aj hb3
    obtain⟨gv,oP,rfl,EJ⟩:∃gv oP,v=ae (some ⟨gv,0,none⟩) all.length oP/\w2.heap.size<=gv:=by
     rcases jn.1.2 with⟨_,h0⟩|⟨g,cap,cur,rfl,hg,_⟩
     .omega
     exact⟨g,cap,rfl,hg⟩
    have HL7:mS ((w3.setCell ⟨w1.heap.size,15,none⟩ (ae (some ⟨gv,0,none⟩) all.length oP)).heap[w1.heap.size]?=some (aw (b.open (ae pm lm cm) (ae pn ln cn) (ae pk lk ck) (ae (some ⟨gv,0,none⟩) all.length oP)) 122 (0,0))):=aj (dh _ hk3);have O4:mS ((w3.setCell ⟨w1.heap.size,15,none⟩ (ae (some ⟨gv,0,none⟩) all.length oP)).heap[w.heap.size+1]?=some (aw iu 122 (0,0))):=aj ((bt _ _ _ _ (by show w.heap.size+1≠w1.heap.size;omega)).trans FN.two)
    clear FN hk3 hb3 jn))
 refine bm (results_cell_tmp (g:=w.heap.size+1) rfl rfl (run_loadVar_row _ _ 122 122 _ (0,0) _ (cV O4.out) jd rfl (by kernel_rfl))) rfl ⟨_,rfl,?_,?_⟩
 .have hs1:=oX.out.size;refine(MR.out.at_ fun g hg=>?_).base (by omega);have EM:g=gv:=by simpa [Value.ownBlock] using hg.symm
  subst EM;exact(setRow_other (by omega)).trans (bt _ _ _ _ (by show g≠w1.heap.size;omega))
 have hs1:=oX.out.size;exact dv (Qj.out.below.setCell (p:=⟨w1.heap.size,15,none⟩) (by show _<=w1.heap.size;omega) _) (by omega)
def gW:List Int->List Int->Bool
 |_,[]=>false
 |[],_::_=>true
 |x::xs,y::ys=>if x<y then true else if y<x then false else gW xs ys
theorem JH(xs ys:List Int)(k:Nat)(h1:k<xs.length)(h2:k<ys.length):gW (xs.drop k) (ys.drop k)=if xs[k]<ys[k] then true else if ys[k]<xs[k] then false else gW (xs.drop (k+1)) (ys.drop (k+1)):=by
 rw[dS h1,dS h2];rfl
theorem zO:∀(xs ys:List Int),(!gW xs ys && !gW ys xs)=decide (xs=ys)
 |[],[]=>rfl
 |[],_::_=>by simp[gW]
 |_::_,[]=>by simp[gW]
 |x::xs,y::ys=>by
  have ih:=zO xs ys;unfold gW
  by_cases h1:x<y
  .have:x≠y:=by omega
   simp[h1,this]
  by_cases h2:y<x
  .have:x≠y:=by omega
   simp[h2,this]
  have:x=y:=by omega
  subst this;simp only[Int.lt_irrefl,if_false,List.cons.injEq,true_and];exact ih
theorem CC(xs ys:List Int)(v1 v2:ak)(w:ar)(h1:Reads w v1 xs.length (xs.map (aB ag)))(h2:Reads w v2 ys.length (ys.map (aB ag))) :
  bu aq 46 #[v1,v2] w fun e w'=>e=aF (aH (gW xs ys))/\az w.heap.size w w':=by
 obtain⟨p1,c1,rfl,hb1⟩:=aW h1;obtain⟨p2,c2,rfl,hb2⟩:=aW h2
 have cell:∀ {zs:List Int} {p:Option Addr} {c:Nat},Reads w (ae p zs.length c) zs.length (zs.map (aB ag))->∀k (hk:k<zs.length),∃g off,p=some ⟨g,off,none⟩/\g<w.heap.size/\w.cell? ⟨g,off+k,none⟩=some (ah ag zs[k]):=by
  rintro zs p c (⟨h,_⟩|⟨g,off,cap,h,_,hg,hc⟩) k hk
  .cases zs with
   |nil=>simp at hk
   |cons z zs=>simp at h
  cases h;exact⟨g,off,rfl,hg,hc k _ (by simp[hk])⟩
 have Ql:=aj (cell h1);have HC2:=aj (cell h2);clear cell h1 h2
 go_enter Tryz.func46,Tryz.ntmps46
 go_wp2
 go_loopw [5] (fun i wr=>∃k:Nat,k<=ys.length/\k<=xs.length/\i=ah ag k/\gW xs ys=gW (xs.drop k) (ys.drop k)/\az w.heap.size w wr) (fun i _=>ys.length-(intOf i).toNat)
 case atStart=>exact⟨0,by omega,by omega,rfl,by simp,au _ _⟩
 case round=>
  obtain⟨k,hk2,qG,rfl,he,en⟩:=hrel;have hsz:=en.size;have HE:=aj he;have xC:=aj en;clear he en
  by_cases hlt:k<ys.length
  .obtain⟨g2,o2,hp2,hg2,hc2⟩:=HC2.out k hlt;have HY:mS (∀w9,az wr.heap.size wr w9->w9.cell? ⟨g2,o2+k,none⟩=some (ah ag ys[k])):=aj fun w9 h9=>((xC.out.trans (h9.mono hsz)).cell (p:=⟨g2,o2+k,none⟩) hg2).trans hc2
   by_cases hx:k<xs.length
   .obtain⟨g1,o1,hp1,hg1,hc1⟩:=Ql.out k hx;have HX:mS (∀w9,az wr.heap.size wr w9->w9.cell? ⟨g1,o1+k,none⟩=some (ah ag xs[k])):=aj fun w9 h9=>((xC.out.trans (h9.mono hsz)).cell (p:=⟨g1,o1+k,none⟩) hg1).trans hc1;have hst:=JH xs ys k hx hlt;subst hp1;subst hp2;clear hc1 hc2 Ql HC2;generalize xs[k]=x at *;generalize ys[k]=y at *;generalize uE:xs.length=n1 at *;generalize yK:ys.length=n2 at *;have HN1:=aj uE;have HN2:=aj yK;have Sx:=aj hst;clear uE yK hst;have hge:decide ((n1:Int)<=(k:Int))=false:=decide_eq_false (by omega);have aas:decide (n1<=k)=false:=decide_eq_false (by omega);obtain⟨lt,C7⟩:∃lt,decide (x<y)=lt:=⟨_,rfl⟩
    go_wp2
    refine Gd.bY (by kernel_rfl) [
    pV (ah ag k),
     pV (ae (some ⟨g1,o1,none⟩) n1 c1),
     pV (ah ag n1),
     pV (aH false),
     pV (aH false),
     pV (ae (some ⟨g1,o1,none⟩) n1 c1),
     pV (ah ag k),
     pV (aS (some ⟨g1,o1+k,none⟩)),
     pV (ah ag x),
     pV (ae (some ⟨g2,o2,none⟩) n2 c2),
     pV (ah ag k),
     pV (aS (some ⟨g2,o2+k,none⟩)),
     pV (ah ag y),
     pV (aH lt),
     pV (aH lt)]
     (fun w9=>az wr.heap.size wr w9) [(0,ae (some ⟨g1,o1,none⟩) n1 c1),(1,ae (some ⟨g2,o2,none⟩) n2 c2),(5,ah ag k)] (by kernel_rfl) ?rst (fun w1 w2 h hb=>h.trans (hb.mono h.size)) ((au _ _).drew) ⟨rfl,rfl,rfl,trivial⟩ ?reach ?rfin
    case rst=>
     refine⟨sV,sV,sV,sV,sV,sV,sV,sV,sV,sV,sV,sV,sV,sV,sV,trivial⟩
    case reach=>
     refine⟨?_,?_,?_,?_,?_,?_,?_,?_,?_,?_,?_,?_,?_,?_,?_,trivial⟩<;>rintro ev w1 hS hc hg hf ⟨b0,b1,b5,-⟩ hd
     .clear hd;exact tV
     .clear hd;exact tV
     .have d1:ev (aM 13)=_:=hd.1 rfl;clear hd;exact tV
     .have d0:ev (aM 12)=_:=hd.1 rfl;have d2:ev (aM 14)=_:=hd.2.1 rfl;clear hd;exact tV
     .have d3:ev (aM 15)=_:=hd.1 rfl;clear hd;exact tV
     .have d4:ev (aM 16)=_:=hd.1 rfl;clear hd;refine gL d4 ?_;exact tV
     .have d4:ev (aM 16)=_:=hd.1 rfl;clear hd;refine gL d4 ?_;exact tV
     .have d5:ev (aM 17)=_:=hd.1 rfl;have d6:ev (aM 18)=_:=hd.2.1 rfl;have d4:ev (aM 16)=_:=hd.2.2.1 rfl;clear hd;refine gL d4 ?_;exact tV
     .have d7:ev (aM 19)=_:=hd.1 rfl;have d4:ev (aM 16)=_:=hd.2.1 rfl;clear hd;refine gL d4 ?_;have z:=HX.out w1 hS;exact tV
     .have d4:ev (aM 16)=_:=hd.1 rfl;clear hd;refine gL d4 ?_;exact tV
     .have d4:ev (aM 16)=_:=hd.1 rfl;clear hd;refine gL d4 ?_;exact tV
     .have d9:ev (aM 21)=_:=hd.1 rfl;have d10:ev (aM 22)=_:=hd.2.1 rfl;have d4:ev (aM 16)=_:=hd.2.2.1 rfl;clear hd;refine gL d4 ?_;exact tV
     .have d11:ev (aM 23)=_:=hd.1 rfl;have d4:ev (aM 16)=_:=hd.2.1 rfl;clear hd;refine gL d4 ?_;have z:=HY.out w1 hS;exact tV
     .have d8:ev (aM 20)=_:=hd.1 rfl;have d12:ev (aM 24)=_:=hd.2.1 rfl;have d4:ev (aM 16)=_:=hd.2.2.1 rfl;clear hd;refine gL d4 ?_;refine yv ?_ rfl;rw[<-C7];go_simp
     have d4:ev (aM 16)=_:=hd.1 rfl;have d13:ev (aM 25)=_:=hd.2.1 rfl;clear hd;exact tV
    case rfin=>
     intro a3 w3 hR;have hS:=hR.s;have FU:a3.tmps.getD 26 af=_:=hR.val 14 (by decide);have ha:=hR.lits 36 rfl;simp only[aU,cg,nD] at ha;rw[hR.kp 0 (by kernel_rfl),hR.kp 1 (by kernel_rfl),hR.kp 2 (by kernel_rfl),hR.kp 3 (by kernel_rfl),hR.kp 4 (by kernel_rfl),hR.kp 5 (by kernel_rfl)] at ha;simp only[kO,gp,gi] at ha;clear hR;rw[FU] at ha;generalize a3.tmps.getD=zz at ha;have pJ:=aj hS;clear FU hS;subst ha;cases lt
     .have h3:¬x<y:=by simpa using C7
      obtain⟨gt,aap⟩:∃gt,decide (y<x)=gt:=⟨_,rfl⟩
      go_wp2
      refine Gd.bY (by kernel_rfl) [
      pV (ae (some ⟨g1,o1,none⟩) n1 c1),
       pV (ah ag k),
       pV (aS (some ⟨g1,o1+k,none⟩)),
       pV (ah ag x),
       pV (ae (some ⟨g2,o2,none⟩) n2 c2),
       pV (ah ag k),
       pV (aS (some ⟨g2,o2+k,none⟩)),
       pV (ah ag y),
       pV (aH gt)]
       (fun w9=>az w3.heap.size w3 w9) [(0,ae (some ⟨g1,o1,none⟩) n1 c1),(1,ae (some ⟨g2,o2,none⟩) n2 c2),(5,ah ag k)] (by kernel_rfl) ?rst (fun w1 w2 h hb=>h.trans (hb.mono h.size)) ((au _ _).drew) ⟨rfl,rfl,rfl,trivial⟩ ?reach ?rfin
      case rst=>
       refine⟨sV,sV,sV,sV,sV,sV,sV,sV,sV,trivial⟩
      case reach=>
       refine⟨?_,?_,?_,?_,?_,?_,?_,?_,?_,trivial⟩<;>rintro ev w1 hS hc hg hf ⟨b0,b1,b5,-⟩ hd
       .clear hd;exact tV
       .clear hd;exact tV
       .have d0:ev (aM 27)=_:=hd.1 rfl;have d1:ev (aM 28)=_:=hd.2.1 rfl;clear hd;exact tV
       .have d2:ev (aM 29)=_:=hd.1 rfl;clear hd;have z:=HX.out w1 (pJ.out.trans (hS.mono pJ.out.size));exact tV
       .clear hd;exact tV
       .clear hd;exact tV
       .have d4:ev (aM 31)=_:=hd.1 rfl;have d5:ev (aM 32)=_:=hd.2.1 rfl;clear hd;exact tV
       .have d6:ev (aM 33)=_:=hd.1 rfl;clear hd;have z:=HY.out w1 (pJ.out.trans (hS.mono pJ.out.size));exact tV
       have d3:ev (aM 30)=_:=hd.1 rfl;have d7:ev (aM 34)=_:=hd.2.1 rfl;clear hd;refine yv ?_ rfl;rw[<-aap];go_simp
      case rfin=>
       intro a4 w4 hR;have hS:=hR.s;have e8:a4.tmps.getD 35 af=_:=hR.val 8 (by decide);have ha:=hR.lits 36 rfl;simp only[aU,cg,nD] at ha;rw[hR.kp 0 (by kernel_rfl),hR.kp 1 (by kernel_rfl),hR.kp 2 (by kernel_rfl),hR.kp 3 (by kernel_rfl),hR.kp 4 (by kernel_rfl),hR.kp 5 (by kernel_rfl)] at ha;simp only[kO,gp,gi] at ha;clear hR;rw[e8] at ha;generalize a4.tmps.getD=zz at ha;have HB4:=aj hS;clear e8 hS;subst ha;cases gt
       .have h4:¬y<x:=by simpa using aap
        have hs:=Sx.out;rw[if_neg (show ¬x<y by omega),if_neg (show ¬y<x by omega)] at hs;have HS:=aj hs;clear hs;go_wp2;go_roundw
        case rel=>exact⟨k+1,by omega,by omega,by go_num,by rw[HE.out,HS.out],xC.out.trans ((pJ.out.trans (HB4.out.mono pJ.out.size)).mono hsz)⟩
        case measure=>simp[intOf];omega
       have h4:y<x:=by simpa using aap
       have hs:=Sx.out;rw[if_neg (show ¬x<y by omega),if_pos (show y<x by omega)] at hs;have HS:=aj hs;clear hs;go_wp2
       go_ret
       exact⟨by rw[HE.out,HS.out];rfl,xC.out.trans ((pJ.out.trans (HB4.out.mono pJ.out.size)).mono hsz)⟩
     have h3:x<y:=by simpa using C7
     have hs:=Sx.out;rw[if_pos (show x<y by omega)] at hs;have HS:=aj hs;clear hs;go_wp2
     go_ret
     exact⟨by rw[HE.out,HS.out];rfl,xC.out.trans (pJ.out.mono hsz)⟩
   obtain rfl:xs.length=k:=by omega
   have hres:gW xs ys=true:=by
    rw[HE.out,List.drop_length,dS hlt];rfl
   have abE:=aj hres;clear hres hc2 HY Ql HC2;generalize uE:xs.length=n1 at *;generalize yK:ys.length=n2 at *;clear uE yK;have hge:decide ((n1:Int)<=(n1:Int))=true:=decide_eq_true (by omega);go_wp2
   refine Gd.bY (by kernel_rfl) [
   pV (ah ag n1),
    pV (ae p1 n1 c1),
    pV (ah ag n1),
    pV (aH true),
    pV (aH true),
    fun v ds w9=>True,
    fun v ds w9=>True,
    fun v ds w9=>True,
    fun v ds w9=>True,
    fun v ds w9=>True,
    fun v ds w9=>True,
    fun v ds w9=>True,
    fun v ds w9=>True,
    fun v ds w9=>True,
    pV (aH true)]
    (fun w9=>az wr.heap.size wr w9) [(0,ae p1 n1 c1),(1,ae p2 n2 c2),(5,ah ag n1)] (by kernel_rfl) ?rst (fun w1 w2 h hb=>h.trans (hb.mono h.size)) ((au _ _).drew) ⟨rfl,rfl,rfl,trivial⟩ ?reach ?rfin
   case rst=>
    refine⟨sV,sV,sV,sV,sV,fun _ _ _ _ _ h _=>h,fun _ _ _ _ _ h _=>h,fun _ _ _ _ _ h _=>h,fun _ _ _ _ _ h _=>h,fun _ _ _ _ _ h _=>h,fun _ _ _ _ _ h _=>h,fun _ _ _ _ _ h _=>h,fun _ _ _ _ _ h _=>h,fun _ _ _ _ _ h _=>h,sV,trivial⟩
   case reach=>
    refine⟨?_,?_,?_,?_,?_,?_,?_,?_,?_,?_,?_,?_,?_,?_,?_,trivial⟩<;>rintro ev w1 hS hc hg hf ⟨b0,b1,b5,-⟩ hd
    .clear hd;exact tV
    .clear hd;exact tV
    .have d1:ev (aM 13)=_:=hd.1 rfl;clear hd;exact tV
    .have d0:ev (aM 12)=_:=hd.1 rfl;have d2:ev (aM 14)=_:=hd.2.1 rfl;clear hd;exact tV
    .have d3:ev (aM 15)=_:=hd.1 rfl;clear hd;exact tV
    .have d4:ev (aM 16)=_:=hd.1 rfl;clear hd;refine⟨fun hgd=>absurd (d4.symm.trans hgd) (by simp),fun hgd=>⟨trivial,cK (au _ _)⟩⟩
    .have d4:ev (aM 16)=_:=hd.1 rfl;clear hd;refine⟨fun hgd=>absurd (d4.symm.trans hgd) (by simp),fun hgd=>⟨trivial,cK (au _ _)⟩⟩
    .have d4:ev (aM 16)=_:=hd.2.2.1 rfl;clear hd;refine⟨fun hgd=>absurd (d4.symm.trans hgd) (by simp),fun hgd=>⟨trivial,cK (au _ _)⟩⟩
    .have d4:ev (aM 16)=_:=hd.2.1 rfl;clear hd;refine⟨fun hgd=>absurd (d4.symm.trans hgd) (by simp),fun hgd=>⟨trivial,cK (au _ _)⟩⟩
    .have d4:ev (aM 16)=_:=hd.1 rfl;clear hd;refine⟨fun hgd=>absurd (d4.symm.trans hgd) (by simp),fun hgd=>⟨trivial,cK (au _ _)⟩⟩
    .have d4:ev (aM 16)=_:=hd.1 rfl;clear hd;refine⟨fun hgd=>absurd (d4.symm.trans hgd) (by simp),fun hgd=>⟨trivial,cK (au _ _)⟩⟩
    .have d4:ev (aM 16)=_:=hd.2.2.1 rfl;clear hd;refine⟨fun hgd=>absurd (d4.symm.trans hgd) (by simp),fun hgd=>⟨trivial,cK (au _ _)⟩⟩
    .have d4:ev (aM 16)=_:=hd.2.1 rfl;clear hd;refine⟨fun hgd=>absurd (d4.symm.trans hgd) (by simp),fun hgd=>⟨trivial,cK (au _ _)⟩⟩
    .have d4:ev (aM 16)=_:=hd.2.2.1 rfl;clear hd;refine⟨fun hgd=>absurd (d4.symm.trans hgd) (by simp),fun hgd=>⟨trivial,cK (au _ _)⟩⟩
    have d4:ev (aM 16)=_:=hd.1 rfl;clear hd;exact tV
   case rfin=>
    intro a3 w3 hR;have hS:=hR.s;have FU:a3.tmps.getD 26 af=_:=hR.val 14 (by decide);have ha:=hR.lits 36 rfl;simp only[aU,cg,nD] at ha;rw[hR.kp 0 (by kernel_rfl),hR.kp 1 (by kernel_rfl),hR.kp 2 (by kernel_rfl),hR.kp 3 (by kernel_rfl),hR.kp 4 (by kernel_rfl),hR.kp 5 (by kernel_rfl)] at ha;simp only[kO,gp,gi] at ha;clear hR;rw[FU] at ha;generalize a3.tmps.getD=zz at ha;have pJ:=aj hS;clear FU hS;subst ha;go_wp2
    go_ret
    exact⟨by rw[abE.out];rfl,xC.out.trans (pJ.out.mono hsz)⟩
  obtain rfl:ys.length=k:=by omega
  have hres:gW xs ys=false:=by
   rw[HE.out,List.drop_length];cases(xs.drop ys.length)<;>rfl
  have abE:=aj hres;clear hres Ql HC2;generalize uE:xs.length=n1 at *;generalize yK:ys.length=n2 at *;clear uE yK;go_wp2
  go_ret
  exact⟨by rw[abE.out];rfl,xC.out⟩
theorem yX(xs ys:List Int)(v1 v2:ak)(w:ar)(h1:Reads w v1 xs.length (xs.map (aB ag)))(h2:Reads w v2 ys.length (ys.map (aB ag))) :
  bu aq 22 #[v1,v2] w fun e w'=>e=aF (aH (decide (xs=ys)))/\az w.heap.size w w':=by
 have hA:∀W,az w.heap.size w W->bu aq 46 #[v1,v2] W fun e w'=>e=aF (aH (gW xs ys))/\az W.heap.size W w':=fun W hb=>CC xs ys v1 v2 W (h1.below hb) (h2.below hb);have hB:∀W,az w.heap.size w W->bu aq 46 #[v2,v1] W fun e w'=>e=aF (aH (gW ys xs))/\az W.heap.size W w':=fun W hb=>CC ys xs v2 v1 W (h2.below hb) (h1.below hb);obtain⟨p1,c1,rfl,_⟩:=aW h1;obtain⟨p2,c2,rfl,_⟩:=aW h2;rw[<-zO];generalize gW xs ys=r at *;generalize gW ys xs=s at *;generalize xs.length=n1 at *;generalize ys.length=n2 at *;have HA:=aj hA;have HB:=aj hB;clear hA hB h1 h2;cases r
 .go_enter Tryz.func22,Tryz.ntmps22
  go_wp2_with fail
  refine(HA.out w (au _ _)).mono ?_;rintro e w1 ⟨rfl,hb1⟩;have H1:=aj hb1;clear hb1
  go_wp2_with fail
  refine(HB.out w1 H1.out).mono ?_;rintro e w2 ⟨rfl,hb2⟩;have H2:=aj hb2;clear hb2;go_wp2
  go_ret
  exact⟨rfl,H1.out.trans (H2.out.mono H1.out.size)⟩
 go_enter Tryz.func22,Tryz.ntmps22
 go_wp2_with fail
 refine(HA.out w (au _ _)).mono ?_;rintro e w1 ⟨rfl,hb1⟩;have H1:=aj hb1;clear hb1;go_wp2
 go_ret
 exact⟨rfl,H1.out⟩
theorem gh(n l m:Int)(w:ar):bu aq 35 #[ah ag n,ah ag l,ah ag m] w fun e w'=>e=aF (aH (aV n l m))/\az w.heap.size w w':=by
 refine kP Tryz.func35 rfl rfl [(2,ah ag m),(1,ah ag l),(0,ah ag n)] ⟨kF rfl,kF rfl,kF rfl,trivial⟩ fun a hF=>?_;refine(fun h:∀W,az w.heap.size w W->bZ aq _ _ a W=>h w (au _ _)) ?_;intro W HB;refine jz ⟨[],[],[],[]⟩ [(6,aH false)] hF hF trivial trivial ?_;intro a W ho hF;replace HB:=HB.tr ho;clear ho;replace hF:=hF.tl;refine jz ⟨[],[],[],[]⟩ [(6,aH ((decide (l<=n))&&(decide (n<=m))))] hF hF trivial trivial ?_;intro a W ho hF;replace HB:=HB.tr ho;clear ho;refine fW ?_;show dE aq Tryz.f35 (fun e w'=>e=aP (aH (aV n l m))/\az w.heap.size w w') dP a W;exact bm (cH rfl _ _ _) hF.defers ⟨congrArg aP (((hF.g 0 rfl):a.eval (aM 6)=aH ((decide (l<=n))&&(decide (n<=m)))).trans (rfl)),HB⟩
def cA(lo hi l m:Int):Bool:=(decide (l<=lo)&&decide (lo<=hi))&&decide (hi<=m)
theorem rD(lo hi l m:Int)(w:ar):bu aq 147 #[aR #[ah ag lo,ah ag hi],ah ag l,ah ag m] w fun e w'=>e=aF (aH (cA lo hi l m))/\az w.heap.size w w':=by
 refine kP Tryz.func147 rfl rfl [(2,ah ag m),(1,ah ag l),(0,aR #[ah ag lo,ah ag hi])] ⟨kF rfl,kF rfl,kF rfl,trivial⟩ fun a hF=>?_;refine(fun h:∀W,az w.heap.size w W->bZ aq _ _ a W=>h w (au _ _)) ?_;intro W HB
 refine nI [fun v ds w9=>∃B,v=pv B 0/\w9.heap[B]?=some (aw #[ah ag lo,ah ag hi] 23 (0,0)),pV (aH false)]
  _ (by kernel_rfl) hF.size hF.base ?_ ?_ ?_
 .refine⟨?_,sV,trivial⟩
  .rintro v ds w1 w2 hS ⟨B,h1,h2⟩ hb;exact⟨B,h1,aG h2 hb⟩
 .refine⟨?_,?_,trivial⟩<;>rintro ev w1 hS hc hg hf ⟨-,-,b0,-⟩ hd
  .clear hd;refine Lag.Yields.value (v:=pv w1.heap.size 0) (w':=w1.alloc (aw #[ah ag lo,ah ag hi] 23)) ?_ ⟨⟨_,rfl,ay _ _⟩,cK ((au _ _).alloc (ax _) _)⟩;go_simp
  clear hd;exact tV
 intro a W hR;have ho:=hR.s;obtain⟨B3,e3,K3⟩:=hR.val 0 (by decide);replace e3:a.eval (aM 3)=aS (some ⟨B3,0,none⟩):=e3;replace HB:=HB.tr ho;replace hF:=((hR.fr hF (by kernel_rfl)).cons (t:=3) e3).cons (t:=6) (hR.val 1 (by decide));clear hR ho e3;replace hF:=hF.tl;refine jz ⟨[],[],[(B3,#[ah ag lo,ah ag hi])],[]⟩ [(6,aH (((decide (l<=lo))&&(decide (lo<=hi)))&&(decide (hi<=m))))] hF hF ⟨fun w1 hS=>⟨_,_,aG K3 hS⟩,trivial⟩ trivial ?_;intro a W ho hF;replace HB:=HB.tr ho;replace K3:=aG K3 ho;clear ho;refine fW ?_;show dE aq Tryz.f147 (fun e w'=>e=aP (aH (cA lo hi l m))/\az w.heap.size w w') dP a W;exact bm (cH rfl _ _ _) hF.defers ⟨congrArg aP (((hF.g 0 rfl):a.eval (aM 6)=aH (((decide (l<=lo))&&(decide (lo<=hi)))&&(decide (hi<=m)))).trans (rfl)),HB⟩
theorem rV(b:BB)(bq aK aA:ak)(n:Int)(w:ar):bu aq 134 #[aR (b.cells bq aK aA),ah ag n] w fun e w'=>e=aF (aH (aV n 1 b.minutes))/\az w.heap.size w w':=by
 refine kP Tryz.func134 rfl rfl [(1,ah ag n),(0,aR (b.cells bq aK aA))] ⟨kF rfl,kF rfl,trivial⟩ fun a hF=>?_;refine(fun h:∀W,az w.heap.size w W->bZ aq _ _ a W=>h w (au _ _)) ?_;intro W HB
 refine nI [fun v ds w9=>∃B,v=pv B 0/\w9.heap[B]?=some (aw (b.cells bq aK aA) 28 (0,0)),pV (aH false)]
  _ (by kernel_rfl) hF.size hF.base ?_ ?_ ?_
 .refine⟨?_,sV,trivial⟩
  .rintro v ds w1 w2 hS ⟨B,h1,h2⟩ hb;exact⟨B,h1,aG h2 hb⟩
 .refine⟨?_,?_,trivial⟩<;>rintro ev w1 hS hc hg hf ⟨-,b0,-⟩ hd
  .clear hd;refine Lag.Yields.value (v:=pv w1.heap.size 0) (w':=w1.alloc (aw (b.cells bq aK aA) 28)) ?_ ⟨⟨_,rfl,ay _ _⟩,cK ((au _ _).alloc (ax _) _)⟩;go_simp
  clear hd;exact tV
 intro a W hR;have ho:=hR.s;obtain⟨B2,e2,K2⟩:=hR.val 0 (by decide);replace e2:a.eval (aM 2)=aS (some ⟨B2,0,none⟩):=e2;replace HB:=HB.tr ho;replace hF:=((hR.fr hF (by kernel_rfl)).cons (t:=2) e2).cons (t:=4) (hR.val 1 (by decide));clear hR ho e2;replace hF:=hF.tl;refine jz ⟨[],[(3,aH (aV n 1 b.minutes))],[(B2,(b.cells bq aK aA))],[]⟩ [(4,aH (aV n 1 b.minutes))] hF hF ⟨fun w1 hS=>⟨_,_,aG K2 hS⟩,trivial⟩ ⟨fun w1 hS _=>gc (gh n 1 b.minutes w1),trivial⟩ ?_;intro a W ho hF;replace HB:=HB.tr ho;replace K2:=aG K2 ho;clear ho;refine fW ?_;show dE aq Tryz.f134 (fun e w'=>e=aP (aH (aV n 1 b.minutes))/\az w.heap.size w w') dP a W;exact bm (cH rfl _ _ _) hF.defers ⟨congrArg aP (((hF.g 0 rfl):a.eval (aM 4)=aH (aV n 1 b.minutes)).trans (rfl)),HB⟩
theorem S2{lo hi:Int}(h:cA lo hi 0 99=true):IntKind.i64.wrap (hi-lo)=hi-lo:=by
 unfold cA at h;simp at h;rw[a8];omega
def CO(b:BB):Bool:=(((!(aV b.room 1 99))||(!(aV b.depth 0 99)))||(!(aV b.least 0 99)))||(!(aV b.minutes 1 8))
def Fx(b:BB):Bool:=(((!(aV b.cD 0 99))||(!(aV b.iL 0 99)))||(!(aV b.ie 0 99)))||(!(aV b.eh 0 3))
def H9(b:BB):Bool:=((!(cA b.pl b.pm 1 b.minutes))||(!(cA b.ll b.lm 0 99)))||decide (b.lm-b.ll≥3)
def mD(b:BB):Int:=if CO b then 1 else if Fx b then 1 else if H9 b then 1 else 0
theorem Gs(b:BB)(bq aK aA:ak)(w:ar):bu aq 145 #[aR (b.cells bq aK aA)] w fun e w'=>e=aF (ah ag (mD b))/\az w.heap.size w w':=by
 refine kP Tryz.func145 rfl rfl [(0,aR (b.cells bq aK aA))] ⟨kF rfl,trivial⟩ fun a hF=>?_;refine(fun h:∀W,az w.heap.size w W->bZ aq _ _ a W=>h w (au _ _)) ?_;intro W HB
 refine nI [fun v ds w9=>∃B,v=pv B 0/\w9.heap[B]?=some (aw (b.cells bq aK aA) 28 (0,0)),pV (ah ag 0)]
  _ (by kernel_rfl) hF.size hF.base ?_ ?_ ?_
 .refine⟨?_,sV,trivial⟩
  .rintro v ds w1 w2 hS ⟨B,h1,h2⟩ hb;exact⟨B,h1,aG h2 hb⟩
 .refine⟨?_,?_,trivial⟩<;>rintro ev w1 hS hc hg hf ⟨b0,-⟩ hd
  .clear hd;refine Lag.Yields.value (v:=pv w1.heap.size 0) (w':=w1.alloc (aw (b.cells bq aK aA) 28)) ?_ ⟨⟨_,rfl,ay _ _⟩,cK ((au _ _).alloc (ax _) _)⟩;go_simp
  clear hd;exact tV
 intro a W hR;have ho:=hR.s;obtain⟨B1,e1,K1⟩:=hR.val 0 (by decide);replace e1:a.eval (aM 1)=aS (some ⟨B1,0,none⟩):=e1;replace HB:=HB.tr ho;replace hF:=((hR.fr hF (by kernel_rfl)).cons (t:=1) e1).cons (t:=2) (hR.val 1 (by decide));clear hR ho e1;refine eC ?_;refine jz ⟨[],[(2,aH (aV b.room 1 99)),(7,aH (aV b.depth 0 99)),(13,aH (aV b.least 0 99)),(19,aH (aV b.minutes 1 8))],[(B1,(b.cells bq aK aA))],[]⟩ [(24,aH ((((!(aV b.room 1 99))||(!(aV b.depth 0 99)))||(!(aV b.least 0 99)))||(!(aV b.minutes 1 8))))] hF hF ⟨fun w1 hS=>⟨_,_,aG K1 hS⟩,trivial⟩ ⟨fun w1 hS _=>gc (gh b.room 1 99 w1),fun w1 hS _=>gc (gh b.depth 0 99 w1),fun w1 hS _=>gc (gh b.least 0 99 w1),fun w1 hS _=>gc (gh b.minutes 1 8 w1),trivial⟩ ?_;intro a W ho hF;replace HB:=HB.tr ho;replace K1:=aG K1 ho;clear ho;refine bO (t:=((((!(aV b.room 1 99))||(!(aV b.depth 0 99)))||(!(aV b.least 0 99)))||(!(aV b.minutes 1 8)))) (hF.g 0 rfl) (fun Jw=>?_) (fun Jw=>?_)
 .skip
  replace hF:=hF.tl;replace hF:=hF.tl;refine jz ⟨[],[],[],[]⟩ [(2,ah ag 1)] hF hF trivial trivial ?_;intro a W ho hF;replace HB:=HB.tr ho;replace K1:=aG K1 ho;clear ho;refine fW ?_;show dE aq Tryz.f145 (fun e w'=>e=aP (ah ag (mD b))/\az w.heap.size w w') dP a W;exact bm (cH rfl _ _ _) hF.defers ⟨congrArg aP (((hF.g 0 rfl):a.eval (aM 2)=ah ag 1).trans (by unfold mD;rw[if_pos (show CO b=true from Jw)])),HB⟩
 skip
 replace hF:=hF.tl;refine eI ?_;show bZ aq _ _ _ _;refine eC ?_;refine jz ⟨[],[(2,aH (aV b.cD 0 99)),(7,aH (aV b.iL 0 99)),(13,aH (aV b.ie 0 99)),(19,aH (aV b.eh 0 3))],[(B1,(b.cells bq aK aA))],[]⟩ [(46,aH ((((!(aV b.cD 0 99))||(!(aV b.iL 0 99)))||(!(aV b.ie 0 99)))||(!(aV b.eh 0 3))))] hF hF ⟨fun w1 hS=>⟨_,_,aG K1 hS⟩,trivial⟩ ⟨fun w1 hS _=>gc (gh b.cD 0 99 w1),fun w1 hS _=>gc (gh b.iL 0 99 w1),fun w1 hS _=>gc (gh b.ie 0 99 w1),fun w1 hS _=>gc (gh b.eh 0 3 w1),trivial⟩ ?_;intro a W ho hF;replace HB:=HB.tr ho;replace K1:=aG K1 ho;clear ho;refine bO (t:=((((!(aV b.cD 0 99))||(!(aV b.iL 0 99)))||(!(aV b.ie 0 99)))||(!(aV b.eh 0 3)))) (hF.g 0 rfl) (fun XA=>?_) (fun XA=>?_)
 .skip
  replace hF:=hF.tl;replace hF:=hF.tl;refine jz ⟨[],[],[],[]⟩ [(2,ah ag 1)] hF hF trivial trivial ?_;intro a W ho hF;replace HB:=HB.tr ho;replace K1:=aG K1 ho;clear ho;refine fW ?_;show dE aq Tryz.f145 (fun e w'=>e=aP (ah ag (mD b))/\az w.heap.size w w') dP a W;exact bm (cH rfl _ _ _) hF.defers ⟨congrArg aP (((hF.g 0 rfl):a.eval (aM 2)=ah ag 1).trans (by unfold mD;rw[if_neg (by rw[show CO b=_ from Jw];simp),if_pos (show Fx b=true from XA)])),HB⟩
 skip
 replace hF:=hF.tl;refine eI ?_;show bZ aq _ _ _ _;refine eC ?_
 refine nI [pV (aS (some ⟨B1,10,none⟩)),pV (aR #[ah ag b.pl,ah ag b.pm]),pV (aS (some ⟨B1,3,none⟩)),pV (ah ag b.minutes),pV (aH (cA b.pl b.pm 1 b.minutes)),pV (aH (!(cA b.pl b.pm 1 b.minutes))),pV (aH (!(cA b.pl b.pm 1 b.minutes))),pC (!(!(cA b.pl b.pm 1 b.minutes))) (aS (some ⟨B1,8,none⟩)),pC (!(!(cA b.pl b.pm 1 b.minutes))) (aR #[ah ag b.ll,ah ag b.lm]),pC (!(!(cA b.pl b.pm 1 b.minutes))) (aH (cA b.ll b.lm 0 99)),pC (!(!(cA b.pl b.pm 1 b.minutes))) (aH (!(cA b.ll b.lm 0 99))),pV (aH ((!(cA b.pl b.pm 1 b.minutes))||(!(cA b.ll b.lm 0 99)))),pV (aH ((!(cA b.pl b.pm 1 b.minutes))||(!(cA b.ll b.lm 0 99)))),pC (!((!(cA b.pl b.pm 1 b.minutes))||(!(cA b.ll b.lm 0 99)))) (aS (some ⟨B1,8,none⟩)),pC (!((!(cA b.pl b.pm 1 b.minutes))||(!(cA b.ll b.lm 0 99)))) (aS (some ⟨B1,9,none⟩)),pC (!((!(cA b.pl b.pm 1 b.minutes))||(!(cA b.ll b.lm 0 99)))) (ah ag b.lm),pC (!((!(cA b.pl b.pm 1 b.minutes))||(!(cA b.ll b.lm 0 99)))) (aS (some ⟨B1,8,none⟩)),pC (!((!(cA b.pl b.pm 1 b.minutes))||(!(cA b.ll b.lm 0 99)))) (aS (some ⟨B1,8,none⟩)),pC (!((!(cA b.pl b.pm 1 b.minutes))||(!(cA b.ll b.lm 0 99)))) (ah ag b.ll),pC (!((!(cA b.pl b.pm 1 b.minutes))||(!(cA b.ll b.lm 0 99)))) (ah ag (b.lm-b.ll)),pC (!((!(cA b.pl b.pm 1 b.minutes))||(!(cA b.ll b.lm 0 99)))) (aH (decide ((b.lm-b.ll)≥3))),pV (aH (((!(cA b.pl b.pm 1 b.minutes))||(!(cA b.ll b.lm 0 99)))||(decide ((b.lm-b.ll)≥3))))]
  _ (by kernel_rfl) hF.size hF.base ?_ ?_ ?_
 .exact⟨sV,sV,sV,sV,sV,sV,sV,sC,sC,sC,sC,sV,sV,sC,sC,sC,sC,sC,sC,sC,sC,sV,trivial⟩
 .refine⟨?_,?_,?_,?_,?_,?_,?_,?_,?_,?_,?_,?_,?_,?_,?_,?_,?_,?_,?_,?_,?_,?_,trivial⟩<;>rintro ev w1 hS hc hg hf ⟨-,b1,-,-⟩ hd
  all_goals try
   try have d0:ev (aM _)=_:=hd.1 rfl
   clear hd;refine yw rfl ?_ rfl;go_simp;done
  all_goals try
   try have d0:ev (aM _)=_:=hd.1 rfl
   try have c0:_->ev (aM _)=_:=hd.1 rfl
   try have d1:ev (aM _)=_:=hd.2.1 rfl
   clear hd
   first|refine gC d0 mf fun hA=>?_|refine gC d1 mf fun hA=>?_
   try replace c0:=c0 hA
   refine yw rfl ?_ (fun _=>rfl);go_simp;done
  .have d0:ev (aM 47)=_:=hd.1 rfl;clear hd;have z10:=aJ (aG K1 hS) 10 _ rfl;have z11:=aJ (aG K1 hS) 11 _ rfl;exact tV
  .have d2:ev (aM 49)=_:=hd.1 rfl;clear hd;have z:=aJ (aG K1 hS) 3 _ rfl;exact tV
  .have d1:ev (aM 48)=_:=hd.1 rfl;have d3:ev (aM 50)=_:=hd.2.1 rfl;clear hd;refine yc (rD b.pl b.pm 1 b.minutes w1) ?_ (fun _=>rfl);go_simp
  .have d7:_->ev (aM 54)=_:=hd.1 rfl;have d6:ev (aM 53)=_:=hd.2.1 rfl;clear hd;refine gC d6 mf fun hA=>?_;have y7:=d7 hA;have z8:=aJ (aG K1 hS) 8 _ rfl;have z9:=aJ (aG K1 hS) 9 _ rfl;refine yv ?_ (fun _=>rfl);go_simp
  .have d8:_->ev (aM 55)=_:=hd.1 rfl;have d6:ev (aM 53)=_:=hd.2.1 rfl;clear hd;refine gC d6 mf fun hA=>?_;have y8:=d8 hA;refine yc (rD b.ll b.lm 0 99 w1) ?_ (fun _=>fun _=>rfl);go_simp
  .have d6:ev (aM 53)=_:=hd.1 rfl;have d10:_->ev (aM 57)=_:=hd.2.1 rfl;clear hd;exact yO rfl hc d6 (fun hq=>d10 (by simp[hq])) (rfl)
  .have d14:_->ev (aM 61)=_:=hd.1 rfl;have d12:ev (aM 59)=_:=hd.2.1 rfl;clear hd;refine gC d12 mf fun hA=>?_;have Kf:=d14 hA;have z:=aJ (aG K1 hS) 9 _ rfl;refine yv ?_ (fun _=>rfl);go_simp
  .have d17:_->ev (aM 64)=_:=hd.1 rfl;have d12:ev (aM 59)=_:=hd.2.1 rfl;clear hd;refine gC d12 mf fun hA=>?_;have y17:=d17 hA;have z:=aJ (aG K1 hS) 8 _ rfl;refine yv ?_ (fun _=>rfl);go_simp
  .have d15:_->ev (aM 62)=_:=hd.1 rfl;have d18:_->ev (aM 65)=_:=hd.2.1 rfl;have d12:ev (aM 59)=_:=hd.2.2.1 rfl;clear hd;refine gC d12 mf fun hA=>?_;have Il:=d15 hA;have y18:=d18 hA;have hw:=S2 (lo:=b.ll) (hi:=b.lm) (by revert hA;cases cA b.ll b.lm 0 99<;>simp);refine yv ?_ (fun _=>rfl);go_simp
  have d12:ev (aM 59)=_:=hd.1 rfl;have d20:_->ev (aM 67)=_:=hd.2.1 rfl;clear hd;exact yO rfl hc d12 (fun hq=>d20 (by simp[hq])) (rfl)
 intro a W hR;have ho:=hR.s;replace HB:=HB.tr ho;replace K1:=aG K1 ho;replace hF:=(hR.fr hF (by kernel_rfl)).cons (t:=68) (hR.val 21 (by decide));clear hR ho;refine bO (t:=(((!(cA b.pl b.pm 1 b.minutes))||(!(cA b.ll b.lm 0 99)))||(decide ((b.lm-b.ll)≥3)))) (hF.g 0 rfl) (fun aaB=>?_) (fun aaB=>?_)
 .skip
  replace hF:=hF.tl;replace hF:=hF.tl;refine jz ⟨[],[],[],[]⟩ [(2,ah ag 1)] hF hF trivial trivial ?_;intro a W ho hF;replace HB:=HB.tr ho;replace K1:=aG K1 ho;clear ho;refine fW ?_;show dE aq Tryz.f145 (fun e w'=>e=aP (ah ag (mD b))/\az w.heap.size w w') dP a W;exact bm (cH rfl _ _ _) hF.defers ⟨congrArg aP (((hF.g 0 rfl):a.eval (aM 2)=ah ag 1).trans (by unfold mD;rw[if_neg (by rw[show CO b=_ from Jw];simp),if_neg (by rw[show Fx b=_ from XA];simp),if_pos (show H9 b=true from aaB)])),HB⟩
 skip
 replace hF:=hF.tl;refine eI ?_;show bZ aq _ _ _ _;replace hF:=hF.tl;refine jz ⟨[],[],[],[]⟩ [(2,ah ag 0)] hF hF trivial trivial ?_;intro a W ho hF;replace HB:=HB.tr ho;replace K1:=aG K1 ho;clear ho;refine fW ?_;show dE aq Tryz.f145 (fun e w'=>e=aP (ah ag (mD b))/\az w.heap.size w w') dP a W;exact bm (cH rfl _ _ _) hF.defers ⟨congrArg aP (((hF.g 0 rfl):a.eval (aM 2)=ah ag 0).trans (by unfold mD;rw[if_neg (by rw[show CO b=_ from Jw];simp),if_neg (by rw[show Fx b=_ from XA];simp),if_neg (by rw[show H9 b=_ from aaB];simp)])),HB⟩
def nR(b:BB)(pl:List Int)(i:Nat):Int:=if !(aV (pl.getD i 0) 1 b.minutes) then 6 else if 0<i/\pl.getD i 0<=pl.getD (i-1) 0 then 7 else 0
def jJ(b:BB)(pl:List Int):Int:=(((aU pl.length).map (nR b pl)).find? fun h=>h !=0).getD (if (pl.length:Int)>b.eh then 8 else 0)
theorem tu(f:Nat->Int):∀(n:Nat),(∀i,i<n->f i=0)->((aU n).map f).find? (fun h=>h !=0)=none:=by
 intro n h;rw[List.find?_eq_none];intro x hx;obtain⟨i,hi,rfl⟩:=List.mem_map.1 hx;simp[h i (bP.1 hi)]
theorem zM(f:Nat->Int)(n k:Nat)(hk:k<n)(h:∀i,i<k->f i=0)(h0:f k≠0):((aU n).map f).find? (fun h=>h !=0)=some (f k):=by
 have e:aU n=aU k++k::List.range' (k+1) (n-k-1):=by
  rw[mQ,mQ,show n=k+(1+(n-k-1)) by omega,<-List.range'_append_1,di,Nat.add_comm 1,List.range'_succ]
  congr 3
  omega
 have h1:(f k !=0)=true:=by simpa using h0
 rw[e,fh,List.find?_append,tu f k h,cZ,List.find?_cons,h1];rfl
theorem Reads.atK{w:ar}{p:Option Addr}{n c:Nat}{zs:List Int}(h:Reads w (ae p n c) n (zs.map (aB ag)))(k:Nat)(hk:k<zs.length):∃g off,p=some ⟨g,off,none⟩/\g<w.heap.size/\∀j (hj:j<zs.length),w.cell? ⟨g,off+j,none⟩=some (ah ag (zs.getD j 0)):=by
 rcases h with⟨_,_,h⟩|⟨g,off,cap,h,_,hg,hc⟩
 .rw[List.map_eq_nil_iff.1 h] at hk;simp at hk
 cases h;refine⟨g,off,rfl,hg,fun j hj=>hc j _ ?_⟩;simp[hj]
theorem Gr(b:BB)(bq aK aA:ak)(p1:Option Addr)(c1:Nat)(pl:List Int)(hlen:pl.length<=1000)(w:ar)(hv:Reads w (ae p1 pl.length c1) pl.length (pl.map (aB ag))):bu aq 107 #[aR (b.cells bq aK aA),ae p1 pl.length c1] w fun e w'=>e=aF (ah ag (jJ b pl))/\az w.heap.size w w':=by
 refine kP Tryz.func107 rfl rfl [(1,ae p1 pl.length c1),(0,aR (b.cells bq aK aA))] ⟨kF rfl,kF rfl,trivial⟩ fun a hF=>?_;refine(fun h:∀W,az w.heap.size w W->bZ aq _ _ a W=>h w (au _ _)) ?_;intro W HB;have HC:mS (∀k,k<pl.length->∃g off,p1=some ⟨g,off,none⟩/\g<w.heap.size/\∀j (hj:j<pl.length),w.cell? ⟨g,off+j,none⟩=some (ah ag (pl.getD j 0))):=aj fun k hk=>hv.atK k hk;clear hv
 refine nI [fun v ds w9=>∃B,v=pv B 0/\w9.heap[B]?=some (aw (b.cells bq aK aA) 28 (0,0)),pV (ah ag 0)]
  _ (by kernel_rfl) hF.size hF.base ?_ ?_ ?_
 .refine⟨?_,sV,trivial⟩
  .rintro v ds w1 w2 hS ⟨B,h1,h2⟩ hb;exact⟨B,h1,aG h2 hb⟩
 .refine⟨?_,?_,trivial⟩<;>rintro ev w1 hS hc hg hf ⟨-,b0,-⟩ hd
  .clear hd;refine Lag.Yields.value (v:=pv w1.heap.size 0) (w':=w1.alloc (aw (b.cells bq aK aA) 28)) ?_ ⟨⟨_,rfl,ay _ _⟩,cK ((au _ _).alloc (ax _) _)⟩;go_simp
  clear hd;exact tV
 intro a W hR;have ho:=hR.s;obtain⟨B2,e2,K2⟩:=hR.val 0 (by decide);replace e2:a.eval (aM 2)=aS (some ⟨B2,0,none⟩):=e2;replace HB:=HB.tr ho;replace hF:=((hR.fr hF (by kernel_rfl)).cons (t:=2) e2).cons (t:=4) (hR.val 1 (by decide));clear hR ho e2;refine eC ?_;refine jz ⟨[],[],[],[]⟩ [(5,ah ag 0)] hF hF trivial trivial ?_;intro a W ho hF;replace HB:=HB.tr ho;replace K2:=aG K2 ho;clear ho;refine wp_block ?_;refine wp_loop (fun a W=>∃k:Nat,k<=pl.length/\(∀i,i<k->nR b pl i=0)/\ij 38 a [(5,ah ag (k:Nat)),(2,aS (some ⟨B2,0,none⟩)),(1,ae p1 pl.length c1),(0,aR (b.cells bq aK aA))]/\W.heap[B2]?=some (aw (b.cells bq aK aA) 28 (0,0))/\az w.heap.size w W) (fun a _=>pl.length-(intOf (a.eval (aM 5))).toNat) ⟨0,iW _,fun i hi=>by omega,⟨hF.size,hF.defers,(by obtain⟨b5,-,b2,b1,b0,-⟩:=hF.base;exact⟨b5,b2,b1,b0,trivial⟩)⟩,K2,HB⟩ ?_;clear hF K2 HB
 try clear a
 try clear W
 rintro a W ⟨k,hk,hpre,hF,K2,HB⟩;have hk5:a.eval (aM 5)=ah ag (k:Nat):=(hF.g 0 rfl)
 refine eC ?_;refine jz ⟨[],[],[],[]⟩ [(9,aH (decide ((k:Int)<(pl.length:Int))))] hF hF trivial trivial ?_;intro a W ho hF;replace HB:=HB.tr ho;replace K2:=aG K2 ho;clear ho;refine bO (t:=(decide ((k:Int)<(pl.length:Int)))) (hF.g 0 rfl) (fun Rw=>?_) (fun Rw=>?_)
 .skip
  replace hF:=hF.tl;have hlt:k<pl.length:=by simpa using Rw
  obtain⟨g,off,rfl,hg,hcell⟩:=HC.out k hlt;have hW:w.heap.size<=W.heap.size:=HB.size;obtain⟨x,hx⟩:∃x,pl.getD k 0=x:=⟨_,rfl⟩
  have CX:∀w9,az w.heap.size w w9->w9.cell? ⟨g,off+k,none⟩=some (ah ag x):=fun w9 h9=>(h9.cell (p:=⟨g,off+k,none⟩) hg).trans (by rw[<-hx];exact hcell k hlt);rcases k with _|j
  .skip
   have Cx:mS (∀w9,az W.heap.size W w9->w9.cell? ⟨g,off,none⟩=some (ah ag x)):=aj fun w9 h9=>CX w9 (HB.trans (h9.mono hW));refine eI ?_;show bZ aq _ _ _ _;refine eC ?_;refine wp_block ?_;refine eC ?_;refine P9 (by kernel_rfl) ⟨[],[(3,aS (some ⟨g,off,none⟩)),(4,ah ag x),(5,aH (aV x 1 b.minutes))],[(B2,(b.cells bq aK aA))],[]⟩ [(18,aH (!(aV x 1 b.minutes)))] hF ⟨fun w1 hS=>⟨_,_,aG K2 hS⟩,trivial⟩ ⟨fun w1 hS _=>gs (eE 25 (ae (some ⟨g,off,none⟩) pl.length c1) (ah ag ((0:Nat):Int))) (by go_simp),fun w1 hS _=>gl (Cx.out w1 hS),fun w1 hS _=>gc (rV b bq aK aA x w1),trivial⟩ ?_;intro a W ho hF;replace HB:=HB.tr ho;replace K2:=aG K2 ho;replace hW:=aO hW ho.size;replace Cx:=aj fun w9 (h9:az W.heap.size W w9)=>Cx.out w9 (ho.trans (h9.mono ho.size));clear ho;refine bO (t:=(!(aV x 1 b.minutes))) (hF.g 0 rfl) (fun A4=>?_) (fun A4=>?_)
   .skip
    replace hF:=hF.tl
    have hres:jJ b pl=6:=by
     have h6:nR b pl 0=6:=by unfold nR;rw[hx];simp at A4;simp[A4]
     unfold jJ;rw[zM _ _ 0 hlt hpre (by rw[h6];decide),h6];rfl
    refine jz ⟨[],[],[],[]⟩ [(4,ah ag 6)] hF hF trivial trivial ?_;intro a W ho hF;replace HB:=HB.tr ho;replace K2:=aG K2 ho;replace hW:=aO hW ho.size;replace Cx:=aj fun w9 (h9:az W.heap.size W w9)=>Cx.out w9 (ho.trans (h9.mono ho.size));clear ho;refine fW ?_;show dE aq Tryz.f107 (fun e w'=>e=aP (ah ag (jJ b pl))/\az w.heap.size w w') dP a W;exact bm (cH rfl _ _ _) hF.defers ⟨congrArg aP (((hF.g 0 rfl):a.eval (aM 4)=ah ag 6).trans (congrArg _ hres.symm)),HB⟩
   skip
   replace hF:=hF.tl;refine eI ?_;show bZ aq _ _ _ _;refine P9 (by kernel_rfl) ⟨[(2,false)],[(1,aH false)],[],[]⟩ [(32,aH false)] hF trivial ⟨fun w1 hS _=>ge (congrArg Value.bool (show(decide ((((0:Nat):Int):Int)>(0:Int)))=false from decide_eq_false (by omega))),trivial⟩ ?_;intro a W ho hF;replace HB:=HB.tr ho;replace K2:=aG K2 ho;replace hW:=aO hW ho.size;replace Cx:=aj fun w9 (h9:az W.heap.size W w9)=>Cx.out w9 (ho.trans (h9.mono ho.size));clear ho;refine wp_cond (t:=false) (hF.g 0 rfl) ?_;show bZ aq _ _ _ _;replace hF:=hF.tl;have hz:nR b pl 0=0:=by unfold nR;rw[hx];simp at A4;simp[A4]
   refine eI ?_;show bZ aq _ _ _ _;have q7:=hF;replace hF:=hF.tl;refine Mj ⟨[],[(1,ah ag (((0:Nat):Int)+1))],[],[]⟩ [(5,ah ag (((0:Nat):Int)+1))] q7 hF trivial ⟨fun w1 hS _=>ge (congrArg (aB ag) (show IntKind.i64.wrap (((0:Nat):Int)+1)=(((0:Nat):Int)+1) by rw[a8];omega)),trivial⟩ ?_;intro a W ho hF;clear q7;replace HB:=HB.tr ho;replace K2:=aG K2 ho;replace hW:=aO hW ho.size;replace Cx:=aj fun w9 (h9:az W.heap.size W w9)=>Cx.out w9 (ho.trans (h9.mono ho.size));clear ho;refine⟨⟨0+1,by omega,?_,⟨hF.size,hF.defers,hF.base⟩,K2,HB⟩,?_⟩
   .intro i hi
    by_cases hik:i<0
    .exact hpre i hik
    obtain rfl:i=0:=by omega
    exact hz
   rw[show a.eval (aM 5)=ah ag (((0:Nat):Int)+1) from(hF.g 0 rfl)];simp only[hk5];simp[intOf];omega
  skip
  have Cx:mS (∀w9,az W.heap.size W w9->w9.cell? ⟨g,off+(j+1),none⟩=some (ah ag x)):=aj fun w9 h9=>CX w9 (HB.trans (h9.mono hW));obtain⟨y,hy⟩:∃y,pl.getD j 0=y:=⟨_,rfl⟩
  have Cy:mS (∀w9,az W.heap.size W w9->w9.cell? ⟨g,off+j,none⟩=some (ah ag y)):=aj fun w9 h9=>((HB.trans (h9.mono hW)).cell (p:=⟨g,off+j,none⟩) hg).trans (by rw[<-hy];exact hcell j (by omega));refine eI ?_;show bZ aq _ _ _ _;refine eC ?_;refine wp_block ?_;refine eC ?_;refine P9 (by kernel_rfl) ⟨[],[(3,aS (some ⟨g,off+(j+1),none⟩)),(4,ah ag x),(5,aH (aV x 1 b.minutes))],[(B2,(b.cells bq aK aA))],[]⟩ [(18,aH (!(aV x 1 b.minutes)))] hF ⟨fun w1 hS=>⟨_,_,aG K2 hS⟩,trivial⟩ ⟨fun w1 hS _=>gs (eE 25 (ae (some ⟨g,off,none⟩) pl.length c1) (ah ag ((j+1:Nat):Int))) (by have Au:¬((pl.length:Int)<=(j:Int)+1):=(by omega);have hi2:0<=(j:Int)+1:=(by omega);go_simp),fun w1 hS _=>gl (Cx.out w1 hS),fun w1 hS _=>gc (rV b bq aK aA x w1),trivial⟩ ?_;intro a W ho hF;replace HB:=HB.tr ho;replace K2:=aG K2 ho;replace hW:=aO hW ho.size;replace Cx:=aj fun w9 (h9:az W.heap.size W w9)=>Cx.out w9 (ho.trans (h9.mono ho.size));replace Cy:=aj fun w9 (h9:az W.heap.size W w9)=>Cy.out w9 (ho.trans (h9.mono ho.size));clear ho;refine bO (t:=(!(aV x 1 b.minutes))) (hF.g 0 rfl) (fun A4=>?_) (fun A4=>?_)
  .skip
   replace hF:=hF.tl
   have hres:jJ b pl=6:=by
    have h6:nR b pl (j+1)=6:=by unfold nR;rw[hx];simp at A4;simp[A4]
    unfold jJ;rw[zM _ _ (j+1) hlt hpre (by rw[h6];decide),h6];rfl
   refine jz ⟨[],[],[],[]⟩ [(4,ah ag 6)] hF hF trivial trivial ?_;intro a W ho hF;replace HB:=HB.tr ho;replace K2:=aG K2 ho;replace hW:=aO hW ho.size;replace Cx:=aj fun w9 (h9:az W.heap.size W w9)=>Cx.out w9 (ho.trans (h9.mono ho.size));replace Cy:=aj fun w9 (h9:az W.heap.size W w9)=>Cy.out w9 (ho.trans (h9.mono ho.size));clear ho;refine fW ?_;show dE aq Tryz.f107 (fun e w'=>e=aP (ah ag (jJ b pl))/\az w.heap.size w w') dP a W;exact bm (cH rfl _ _ _) hF.defers ⟨congrArg aP (((hF.g 0 rfl):a.eval (aM 4)=ah ag 6).trans (congrArg _ hres.symm)),HB⟩
  skip
  replace hF:=hF.tl;refine eI ?_;show bZ aq _ _ _ _;refine P9 (by kernel_rfl) ⟨[(2,true)],[(1,aH true),(5,aS (some ⟨g,off+(j+1),none⟩)),(6,ah ag x),(9,ah ag (j:Int)),(10,aS (some ⟨g,off+j,none⟩)),(11,ah ag y)],[],[]⟩ [(32,aH (decide (x<=y)))] hF trivial ⟨fun w1 hS _=>ge (congrArg Value.bool (show(decide ((((j+1:Nat):Int):Int)>(0:Int)))=true from decide_eq_true (by omega))),fun w1 hS _=>gs (eE 25 (ae (some ⟨g,off,none⟩) pl.length c1) (ah ag ((j+1:Nat):Int))) (by have Au:¬((pl.length:Int)<=(j:Int)+1):=(by omega);have hi2:0<=(j:Int)+1:=(by omega);go_simp),fun w1 hS _=>gl (Cx.out w1 hS),fun w1 hS _=>ge (congrArg (aB ag) (show IntKind.i64.wrap (((j+1:Nat):Int)-1)=(j:Int) by rw[a8];omega)),fun w1 hS _=>gs (eE 25 (ae (some ⟨g,off,none⟩) pl.length c1) (ah ag (j:Int))) (by have Au:¬(pl.length<=j):=(by omega);go_simp),fun w1 hS _=>gl (Cy.out w1 hS),trivial⟩ ?_;intro a W ho hF;replace HB:=HB.tr ho;replace K2:=aG K2 ho;replace hW:=aO hW ho.size;replace Cx:=aj fun w9 (h9:az W.heap.size W w9)=>Cx.out w9 (ho.trans (h9.mono ho.size));replace Cy:=aj fun w9 (h9:az W.heap.size W w9)=>Cy.out w9 (ho.trans (h9.mono ho.size));clear ho;refine bO (t:=(decide (x<=y))) (hF.g 0 rfl) (fun LH=>?_) (fun LH=>?_)
  .skip
   replace hF:=hF.tl
   have hres:jJ b pl=7:=by
    have h7:nR b pl (j+1)=7:=by unfold nR;rw[hx,show((j+1)-1)=j from rfl,hy];simp at A4 LH;simp[A4,LH]
    unfold jJ;rw[zM _ _ (j+1) hlt hpre (by rw[h7];decide),h7];rfl
   refine jz ⟨[],[],[],[]⟩ [(4,ah ag 7)] hF hF trivial trivial ?_;intro a W ho hF;replace HB:=HB.tr ho;replace K2:=aG K2 ho;replace hW:=aO hW ho.size;replace Cx:=aj fun w9 (h9:az W.heap.size W w9)=>Cx.out w9 (ho.trans (h9.mono ho.size));replace Cy:=aj fun w9 (h9:az W.heap.size W w9)=>Cy.out w9 (ho.trans (h9.mono ho.size));clear ho;refine fW ?_;show dE aq Tryz.f107 (fun e w'=>e=aP (ah ag (jJ b pl))/\az w.heap.size w w') dP a W;exact bm (cH rfl _ _ _) hF.defers ⟨congrArg aP (((hF.g 0 rfl):a.eval (aM 4)=ah ag 7).trans (congrArg _ hres.symm)),HB⟩
  skip
  replace hF:=hF.tl;have hz:nR b pl (j+1)=0:=by unfold nR;rw[hx,show((j+1)-1)=j from rfl,hy];simp at A4 LH;simp[A4];omega
  refine eI ?_;show bZ aq _ _ _ _;have q7:=hF;replace hF:=hF.tl;refine Mj ⟨[],[(1,ah ag (((j+1:Nat):Int)+1))],[],[]⟩ [(5,ah ag (((j+1:Nat):Int)+1))] q7 hF trivial ⟨fun w1 hS _=>ge (congrArg (aB ag) (show IntKind.i64.wrap (((j+1:Nat):Int)+1)=(((j+1:Nat):Int)+1) by rw[a8];omega)),trivial⟩ ?_;intro a W ho hF;clear q7;replace HB:=HB.tr ho;replace K2:=aG K2 ho;replace hW:=aO hW ho.size;replace Cx:=aj fun w9 (h9:az W.heap.size W w9)=>Cx.out w9 (ho.trans (h9.mono ho.size));replace Cy:=aj fun w9 (h9:az W.heap.size W w9)=>Cy.out w9 (ho.trans (h9.mono ho.size));clear ho;refine⟨⟨(j+1)+1,by omega,?_,⟨hF.size,hF.defers,hF.base⟩,K2,HB⟩,?_⟩
  .intro i hi
   by_cases hik:i<(j+1)
   .exact hpre i hik
   obtain rfl:i=(j+1):=by omega
   exact hz
  rw[show a.eval (aM 5)=ah ag (((j+1:Nat):Int)+1) from(hF.g 0 rfl)];simp only[hk5];simp[intOf];omega
 skip
 replace hF:=hF.tl;refine wp_exit ?_;have zG:k=pl.length:=by simp at Rw;omega
 rw[zG] at hpre;show bZ aq _ _ a W;show bZ aq _ _ _ _;refine eC ?_;refine jz ⟨[],[],[(B2,(b.cells bq aK aA))],[]⟩ [(37,aH (decide ((pl.length:Int)>b.eh)))] hF hF ⟨fun w1 hS=>⟨_,_,aG K2 hS⟩,trivial⟩ trivial ?_;intro a W ho hF;replace HB:=HB.tr ho;replace K2:=aG K2 ho;clear ho;refine bO (t:=(decide ((pl.length:Int)>b.eh))) (hF.g 0 rfl) (fun XC=>?_) (fun XC=>?_)
 .skip
  replace hF:=hF.tl;have hres:jJ b pl=8:=by unfold jJ;rw[tu _ _ hpre];simp at XC;simp[XC]
  refine jz ⟨[],[],[],[]⟩ [(4,ah ag 8)] hF hF trivial trivial ?_;intro a W ho hF;replace HB:=HB.tr ho;replace K2:=aG K2 ho;clear ho;refine fW ?_;show dE aq Tryz.f107 (fun e w'=>e=aP (ah ag (jJ b pl))/\az w.heap.size w w') dP a W;exact bm (cH rfl _ _ _) hF.defers ⟨congrArg aP (((hF.g 0 rfl):a.eval (aM 4)=ah ag 8).trans (congrArg _ hres.symm)),HB⟩
 skip
 replace hF:=hF.tl;have hres:jJ b pl=0:=by unfold jJ;rw[tu _ _ hpre];simp at XC;simp;omega
 refine eI ?_;show bZ aq _ _ _ _;refine jz ⟨[],[],[],[]⟩ [(4,ah ag 0)] hF hF trivial trivial ?_;intro a W ho hF;replace HB:=HB.tr ho;replace K2:=aG K2 ho;clear ho;refine fW ?_;show dE aq Tryz.f107 (fun e w'=>e=aP (ah ag (jJ b pl))/\az w.heap.size w w') dP a W;exact bm (cH rfl _ _ _) hF.defers ⟨congrArg aP (((hF.g 0 rfl):a.eval (aM 4)=ah ag 0).trans (congrArg _ hres.symm)),HB⟩
def XU(n:Int)(pl:List Int)(i:Nat):Int:=if !(aV (pl.getD i 0) 0 (n-1)) then 6 else if 0<i/\pl.getD i 0<=pl.getD (i-1) 0 then 7 else 0
def abo(n:Int)(pl:List Int):Int:=(((aU pl.length).map (XU n pl)).find? fun h=>h !=0).getD 0
end Go.Proofs.YtffladgmkiimjaaGreatDoor
