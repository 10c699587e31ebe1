/- LONE WALKS: Marked (88) of the reference. LONE WALKS: Earlier (46), Sa .. -/
import Derived.Test.YtffladgmkiimjaaGreatDoorW04
import Derived.Test.YtffladgmkiimjaaGreatDoorW01
import Derived.Test.YtffladgmkiimjaaGreatDoorW02
import Derived.Test.YtffladgmkiimjaaGreatDoorW00
import Derived.Test.YtffladgmkiimjaaGreatDoorW03
set_option linter.all false
set_option maxHeartbeats 100000000
set_option maxRecDepth 1000000
open Classical renaming byContradiction → eR
open Go renaming undef → af,Value → aj,World → ar,results_tmp → bU,Calls → bm,bodyPost_ret → bn,wp_cond_split → cB,bodyPost → dQ,wp_skip → fV,wp_seq → gp
open Go.Code renaming wp → cH
open Go.Ending renaming returned → aC,returned → aK
open Go.Exit renaming ret → ej
open Go.Instr renaming indexAt → j5
open Go.IntKind renaming i64 → ag,wrap_i64 → cD
open Go.Lib renaming hid → ai
open Go.Obj renaming cells → au
open Go.Operand renaming tmp → aJ
open Go.Proofs.Tryz renaming prog → aq,underlying28 → cG
open Go.RowKit renaming Below → az
open Go.RowKit.Below renaming heap_alloc → aS,refl → aw
open Go.Value renaming bool → aF,int → aG,agg → aO,slice → ae,int → ah,pointer → bp,oneCell' → cu
open Go.World renaming alloc_heap_new → ay
open List renaming range → aT,drop_eq_getElem_cons → dM,getD_cons_zero → fS,getD_cons_succ → fT,getElem_of_mem → jo,map → nA
open List.range renaming loop → bT
open Nat renaming le_trans → aN,le_refl → ax,zero_le → jS
open Option.some renaming inj → bg
open Or renaming inl → cF
namespace Go.Proofs.YtffladgmkiimjaaGreatDoor
open Go.RowKit Go.Lag
theorem PY(l:List Mk)(m:Mk):eu (l++[m])=eu l++m.cells.toList:=by simp[eu]
theorem Reads.src{w:ar}{v:aj}{n:Nat}{xs:List aj}(h:Reads w v n xs):Src w v n xs:=by
 rcases h with⟨h1,h2,h3⟩|⟨g,off,cap,h1,_,_,h4⟩
 ·exact cF ⟨h1,h2,h3⟩
 ·exact .inr ⟨⟨g,off,none⟩,cap,h1,fun j u hj=>by
   have:=h4 j u hj
   cases j<;>simpa [Addr.add] using this⟩
structure Pr(k:Nat)(bk mk:Array aj)(w0:ar)(C:Bool)(w:ar):Prop where
 one:w.heap[k]?=some (au bk 28 (0,0))
 two:w.heap[k+1]?=some (au mk 81 (0,0))
 three:w.heap[k+2]?=some (au #[ah ag 0,ah ag 0,ah ag 0,ah ag 0,ah ag 0,ah ag 0,ah ag 0,ah ag 0,ah ag 0,ah ag 0,ah ag 0,ah ag 0,ae none 0 0,ae none 0 0,ae none 0 0] 28 (0,0))
 four:C=false→w.heap[k+3]?=some (au bk 28 (0,0))
 below:az k w0 w
 size:k+4≤w.heap.size
section
variable{k:Nat}{bk mk:Array aj}{w0 w1 w2:ar}{C C':Bool}
theorem Pr.next(hC:C'=false→C=false)(h:Pr k bk mk w0 C w1)(hb:az w1.heap.size w1 w2):Pr k bk mk w0 C' w2:=by
 have hs:=h.size;exact⟨(hb.block _ (by omega)).trans h.one,(hb.block _ (by omega)).trans h.two,(hb.block _ (by omega)).trans h.three,fun e=>(hb.block _ (by omega)).trans (h.four (hC e)),h.below.trans (hb.mono (by omega)),aN hs hb.size⟩
theorem Pr.grown{row:Option Nat}(hC:C'=C)(h:Pr k bk mk w0 C w1)(g:w1.grownBy w2 row)(hr:∀q,row=some q→k+4≤q):Pr k bk mk w0 C' w2:=by
 subst hC;have hs:=h.size;have hn:∀q,q<k+4→some q≠row:=fun q hq e=>by have:=hr q e.symm;omega
 exact⟨(g.block _ (by omega) (hn _ (by omega))).trans h.one,(g.block _ (by omega) (hn _ (by omega))).trans h.two,(g.block _ (by omega) (hn _ (by omega))).trans h.three,fun e=>(g.block _ (by omega) (hn _ (by omega))).trans (h.four e),h.below.grown g (by omega) (fun q hq=>by have:=hr q hq;omega),aN hs g.size⟩
theorem Pr.put(h:Pr k bk mk w0 C w1)(u:aj)(i:Nat):Pr k bk mk w0 true (w1.setCell ⟨k+3,i,none⟩ u):=by
 have hn:∀q,q≠k+3→(w1.setCell ⟨k+3,i,none⟩ u).heap[q]?=w1.heap[q]?:=fun q hq=>Below.heap_setCell _ _ _ _ hq;exact⟨(hn _ (by omega)).trans h.one,(hn _ (by omega)).trans h.two,(hn _ (by omega)).trans h.three,fun e=>(by cases e),h.below.setCell (p:=⟨k+3,i,none⟩) (by show k≤k+3;omega) _,by simpa using h.size⟩
theorem Pr.drew(h:Pr k bk mk w0 C w1):Pr k bk mk w0 C w1.drew:=⟨h.one,h.two,h.three,h.four,h.below.drew,h.size⟩
end
theorem N1(b:BB)(men sent marks:aj)(hv:(∃p n c,men=ae p n c)∧(∃p n c,sent=ae p n c))(ms:List Mk)(hlen:ms.length≤20)(m:Mk)(w:ar)(hk:Reads w marks ms.length (eu ms)) :
  bm aq 88 #[aO (b.cells men sent marks),aO m.cells] w fun e w'=>∃k',e=aC (aO (b.cells men sent k'))∧Reads w' k' (ms++[m]).length (eu (ms++[m]))∧(∃g,k'.ownBlock=some g∧w.heap.size≤g∧∃cs,w'.heap[g]?=some (au cs 81 (0,0)))∧az w.heap.size w w':=by
 obtain⟨i1,FN,OT,hy1,hy2⟩:=info_parts IV;obtain⟨⟨pm,nm,cm,rfl⟩,⟨pn,nn,cn,rfl⟩⟩:=hv;obtain⟨pk,ck,rfl,_⟩:=aR hk;have HL:=ai (rX ms);have o6:(((w.alloc (au (b.cells (ae pm nm cm) (ae pn nn cn) (ae pk ms.length ck)) 28)).alloc (au m.cells 81)).alloc (au #[ah ag 0,ah ag 0,ah ag 0,ah ag 0,ah ag 0,ah ag 0,ah ag 0,ah ag 0,ah ag 0,ah ag 0,ah ag 0,ah ag 0,ae none 0 0,ae none 0 0,ae none 0 0] 28)).heap.size=w.heap.size+3:=by simp
 have hb3:az w.heap.size w (((w.alloc (au (b.cells (ae pm nm cm) (ae pn nn cn) (ae pk ms.length ck)) 28)).alloc (au m.cells 81)).alloc (au #[ah ag 0,ah ag 0,ah ag 0,ah ag 0,ah ag 0,ah ag 0,ah ag 0,ah ag 0,ah ag 0,ah ag 0,ah ag 0,ah ag 0,ae none 0 0,ae none 0 0,ae none 0 0] 28)):=(((aw _ _).alloc (ax _) _).alloc (by simp) _).alloc (by simp;omega) _;have h0:(((w.alloc (au (b.cells (ae pm nm cm) (ae pn nn cn) (ae pk ms.length ck)) 28)).alloc (au m.cells 81)).alloc (au #[ah ag 0,ah ag 0,ah ag 0,ah ag 0,ah ag 0,ah ag 0,ah ag 0,ah ag 0,ah ag 0,ah ag 0,ah ag 0,ah ag 0,ae none 0 0,ae none 0 0,ae none 0 0] 28)).heap[w.heap.size]?=some (au (b.cells (ae pm nm cm) (ae pn nn cn) (ae pk ms.length ck)) 28 (0,0)):=(aS _ _ _ (by simp;omega)).trans ((aS _ _ _ (by simp)).trans (ay w _));have h1:(((w.alloc (au (b.cells (ae pm nm cm) (ae pn nn cn) (ae pk ms.length ck)) 28)).alloc (au m.cells 81)).alloc (au #[ah ag 0,ah ag 0,ah ag 0,ah ag 0,ah ag 0,ah ag 0,ah ag 0,ah ag 0,ah ag 0,ah ag 0,ah ag 0,ah ag 0,ae none 0 0,ae none 0 0,ae none 0 0] 28)).heap[w.heap.size+1]?=some (au m.cells 81 (0,0)):=(aS _ _ _ (by simp)).trans (by have:=ay (w.alloc (au (b.cells (ae pm nm cm) (ae pn nn cn) (ae pk ms.length ck)) 28)) (au m.cells 81);simpa using this);have h2:(((w.alloc (au (b.cells (ae pm nm cm) (ae pn nn cn) (ae pk ms.length ck)) 28)).alloc (au m.cells 81)).alloc (au #[ah ag 0,ah ag 0,ah ag 0,ah ag 0,ah ag 0,ah ag 0,ah ag 0,ah ag 0,ah ag 0,ah ag 0,ah ag 0,ah ag 0,ae none 0 0,ae none 0 0,ae none 0 0] 28)).heap[w.heap.size+2]?=some (au #[ah ag 0,ah ag 0,ah ag 0,ah ag 0,ah ag 0,ah ag 0,ah ag 0,ah ag 0,ah ag 0,ah ag 0,ah ag 0,ah ag 0,ae none 0 0,ae none 0 0,ae none 0 0] 28 (0,0)):=by have:=ay ((w.alloc (au (b.cells (ae pm nm cm) (ae pn nn cn) (ae pk ms.length ck)) 28)).alloc (au m.cells 81)) (au #[ah ag 0,ah ag 0,ah ag 0,ah ag 0,ah ag 0,ah ag 0,ah ag 0,ah ag 0,ah ag 0,ah ag 0,ah ag 0,ah ag 0,ae none 0 0,ae none 0 0,ae none 0 0] 28);simpa using this
 have h3:((((w.alloc (au (b.cells (ae pm nm cm) (ae pn nn cn) (ae pk ms.length ck)) 28)).alloc (au m.cells 81)).alloc (au #[ah ag 0,ah ag 0,ah ag 0,ah ag 0,ah ag 0,ah ag 0,ah ag 0,ah ag 0,ah ag 0,ah ag 0,ah ag 0,ah ag 0,ae none 0 0,ae none 0 0,ae none 0 0] 28)).alloc (au (b.cells (ae pm nm cm) (ae pn nn cn) (ae pk ms.length ck)) 28)).heap[w.heap.size+3]?=some (au (b.cells (ae pm nm cm) (ae pn nn cn) (ae pk ms.length ck)) 28 (0,0)):=by have:=ay (((w.alloc (au (b.cells (ae pm nm cm) (ae pn nn cn) (ae pk ms.length ck)) 28)).alloc (au m.cells 81)).alloc (au #[ah ag 0,ah ag 0,ah ag 0,ah ag 0,ah ag 0,ah ag 0,ah ag 0,ah ag 0,ah ag 0,ah ag 0,ah ag 0,ah ag 0,ae none 0 0,ae none 0 0,ae none 0 0] 28)) (au (b.cells (ae pm nm cm) (ae pn nn cn) (ae pk ms.length ck)) 28);rw[o6] at this;exact this
 have Ym:Hid (Pr w.heap.size (b.cells (ae pm nm cm) (ae pn nn cn) (ae pk ms.length ck)) m.cells w false ((((w.alloc (au (b.cells (ae pm nm cm) (ae pn nn cn) (ae pk ms.length ck)) 28)).alloc (au m.cells 81)).alloc (au #[ah ag 0,ah ag 0,ah ag 0,ah ag 0,ah ag 0,ah ag 0,ah ag 0,ah ag 0,ah ag 0,ah ag 0,ah ag 0,ah ag 0,ae none 0 0,ae none 0 0,ae none 0 0] 28)).alloc (au (b.cells (ae pm nm cm) (ae pn nn cn) (ae pk ms.length ck)) 28))):=
  ai ⟨(aS _ _ _ (by rw[o6];omega)).trans h0,(aS _ _ _ (by rw[o6];omega)).trans h1,(aS _ _ _ (by rw[o6];omega)).trans h2,fun _=>h3,hb3.alloc (by rw[o6];omega) _,by simp⟩
 have HRk:Hid (∀w9,az w.heap.size w w9→Src w9 (ae pk ms.length ck) ms.length (eu ms)):=ai fun w9 h9=>(hk.below h9).src;clear h0 h1 h2 h3 hb3 hk o6
 go_enter Tryz.func88,Tryz.ntmps88
 go_wp2
 refine Ph.bQ (by kernel_rfl) [
 fun v ds w9=>∃q,v=ae (some ⟨q,0,none⟩) 0 0∧w9.ownsRow (w.heap.size+4) 81 3 v 0 [],
  pV (bp (some ⟨w.heap.size,14,none⟩)),
  pV (ae pk ms.length ck),
  fun v ds w9=>∃p c,v=ae p ms.length c∧w9.ownsRow (w.heap.size+4) 81 3 v ms.length (eu ms)∧(ms.length=0→c=0),
  pV (aO m.cells),
  fun v ds w9=>∃q,v=ae (some ⟨q,0,none⟩) 1 1∧w9.ownsRow (w.heap.size+4) 81 3 v 1 m.cells.toList,
  fun v ds w9=>∃p c,v=ae p (ms.length+1) c∧w9.ownsRow (w.heap.size+4) 81 3 v (ms.length+1) (eu ms++m.cells.toList),
  pV (bp (some ⟨w.heap.size+1+1+1,14,none⟩)),
  fun v ds w9=>∃x,ds[1]?=some x∧w9.heap[w.heap.size+3]?=some (au (b.cells (ae pm nm cm) (ae pn nn cn) x) 28 (0,0))]
  (fun L w9=>Pr w.heap.size (b.cells (ae pm nm cm) (ae pn nn cn) (ae pk ms.length ck)) m.cells w (L 8) w9) [(2,bp (some ⟨w.heap.size,0,none⟩)),(3,bp (some ⟨w.heap.size+1,0,none⟩)),(5,bp (some ⟨w.heap.size+1+1+1,0,none⟩))] (by kernel_rfl) ?rst (fun L L2 w1 w2 RB h hb=>h.next (RB 8) hb) (Ym.out.drew) ⟨rfl,rfl,rfl,trivial⟩ ?reach ?rfin
 case rst=>
  refine⟨?_,Ph.sV,Ph.sV,?_,Ph.sV,?_,?_,Ph.sV,?_,trivial⟩
  ·rintro v ds L w1 w2 hS ⟨q,h1,h2⟩ hb;exact⟨q,h1,cX h2 hb⟩
  ·rintro v ds L w1 w2 hS ⟨p,c,h1,h2,h3⟩ hb;exact⟨p,c,h1,cX h2 hb,h3⟩
  ·rintro v ds L w1 w2 hS ⟨q,h1,h2⟩ hb;exact⟨q,h1,cX h2 hb⟩
  ·rintro v ds L w1 w2 hS ⟨p,c,h1,h2⟩ hb;exact⟨p,c,h1,cX h2 hb⟩
  ·rintro v ds L w1 w2 hS ⟨x,h1,h2⟩ hb;exact⟨x,h1,(hb.block _ (Array.getElem?_eq_some_iff.1 h2).1).trans h2⟩
 case reach=>
  refine⟨?_,?_,?_,?_,?_,?_,?_,?_,?_,trivial⟩<;>rintro Lf ev w1 hn vg hS hc hg hf ⟨b2,b3,b5,-⟩ hd
  ·clear hd;have hs4:=hS.size;refine Lag.Yields.value (v:=ae (some ⟨w1.heap.size,0,none⟩) 0 0) (w':=w1.alloc (au #[] 81)) ?_ ⟨⟨_,rfl,⟨by simp,.inr ⟨w1.heap.size,0,#[],rfl,hs4,ay _ _,ax _,jS _,by simp,by simp⟩⟩⟩,cF ((aw _ _).alloc (ax _) _)⟩;go_simp
  ·clear hd;refine Ph.yv ?_ rfl;go_simp
  ·have d1:ev (aJ 8)=_:=hd.1 rfl;clear hd;have c14:=aH hS.one 14 (ae pk ms.length ck) rfl;refine Ph.yv ?_ rfl;go_simp
  ·have d0:∃q,(ev (aJ 7))=ae (some ⟨q,0,none⟩) 0 0∧w1.ownsRow (w.heap.size+4) 81 3 (ev (aJ 7)) 0 []:=hd.1 rfl;have d2:ev (aJ 9)=_:=hd.2.1 rfl;clear hd;obtain⟨q,e7,hq⟩:=d0;rw[e7] at hq;obtain⟨g,c,cur,h1,h2,h3,_,_,h4,_⟩:=hq.2.resolve_left (by simp);cases h1;obtain rfl:cur = #[]:=Array.eq_empty_of_size_eq_zero (by simpa using h4);refine Lag.Yields.append_empty (aJ 7) (aJ 9) 26 rfl (w.heap.size+4) 81 i1 (aO #[ah ag 0,ah ag 0,ah ag 0]) 3 24 Tryz.underlying26 FN OT hy1 hy2 rfl (by decide) q e7 h3 h2 (ae pk ms.length ck) ms.length (eu ms) d2 (by have:=HL.out;omega) (HRk.out w1 hS.below) (GD ms) (by unfold maxLen;omega) (by omega) ?_;intro v' w' hown' hb' hz;obtain⟨p',c',rfl⟩:=dF hown';exact⟨⟨p',c',rfl,hown',fun h0=>by have:=hz h0;simp at this;exact this.2.2⟩,cF hb'⟩
  ·clear hd;have q:w1.heap[w.heap.size+1]?=some (au m.cells 81 (0,0)):=hS.two;refine Lag.Yields.yZ 81 _ rfl _ b3 81 _ (0,0) _ q Tryz.underlying81 rfl (by kernel_rfl) ⟨rfl,cF (aw _ _)⟩
  ·have d4:ev (aJ 11)=_:=hd.1 rfl;clear hd;have hs4:=hS.size;refine Lag.Yields.value (v:=ae (some ⟨w1.heap.size,0,none⟩) 1 1) (w':=w1.alloc (au m.cells 81)) ?_ ⟨⟨_,rfl,World.ownsRow_lit w1 m.cells 1 hs4 (by unfold maxLen;omega) rfl⟩,cF ((aw _ _).alloc (ax _) _)⟩;go_simp
  ·have d3:∃p c,(ev (aJ 10))=ae p ms.length c∧w1.ownsRow (w.heap.size+4) 81 3 (ev (aJ 10)) ms.length (eu ms)∧(ms.length=0→c=0):=hd.1 rfl;have d5:∃q,(ev (aJ 12))=ae (some ⟨q,0,none⟩) 1 1∧w1.ownsRow (w.heap.size+4) 81 3 (ev (aJ 12)) 1 m.cells.toList:=hd.2.1 rfl;clear hd;obtain⟨p,c,Nx,hown,hz⟩:=d3;obtain⟨q,Yd,hq⟩:=d5;have Qw:=HL.out;rw[Nx] at hown;have hown1:=hq;rw[Yd] at hq;obtain⟨g,c2,cur,h1,h2,h3,_,_,h4,h5⟩:=hq.2.resolve_left (by simp);cases h1
   have agl:cur=m.cells:=by
    apply Array.ext';have h6:cur.toList.length=3:=by simpa using h4
    rw[List.take_of_length_le (by omega)] at h5;exact h5
   subst agl;refine Lag.Yields.NT (aJ 10) (aJ 12) 26 rfl (w.heap.size+4) 81 i1 (aO #[ah ag 0,ah ag 0,ah ag 0]) 3 24 Tryz.underlying26 FN OT hy1 hy2 rfl (by decide) (ae p ms.length c) ms.length (eu ms) Nx hown (ae (some ⟨q,0,none⟩) 1 1) 1 m.cells.toList Yd rfl (.inr ⟨_,_,rfl,?_⟩) (by simp[cu]) (by unfold maxLen;omega) (by omega) hS.size ?_
   ·intro n u hn;have h5:=aH h3 n u (by simpa using hn);have e:(⟨q,0,none⟩:Addr).add n=⟨q,n,none⟩:=by cases n<;>simp[Addr.add]
    rw[e];exact h5
   intro v' w' hown' hgrow m7;obtain⟨p',c',rfl⟩:=dF hown';refine⟨⟨p',c',rfl,hown'⟩,.inr ⟨hS.grown (by simp[Ph.upd]) hgrow (fun q hq=>(hown.lt q hq).1),?_⟩⟩;intro t u ds hj hL hp
   match t,hp with
   |0,⟨q2,h1,h2⟩=>exact⟨q2,h1,m7 (jS _) h2⟩
   |1,hp=>exact hp
   |2,hp=>exact hp
   |3,⟨p2,c2,h1,h2,h3⟩=>exact⟨p2,c2,h1,m7 (ax _) h2,h3⟩
   |4,hp=>exact hp
   |5,⟨q2,h1,h2⟩=>
    refine⟨q2,h1,?_⟩
    by_cases h0:ms.length=0
    ·have hc:=hz h0;refine fY h2 fun g2 hg2=>hgrow.block g2 (h2.lt g2 hg2).2 fun Er=>?_;rw[h1] at h2;obtain⟨g3,c3,ama,k1,_,k3,_,_,k4,_⟩:=h2.2.resolve_left (by simp);cases k1;have e2:q2=g2:=by rw[h1] at hg2;exact bg hg2
     subst e2;rcases hown.2 with⟨k5,_⟩|⟨g4,c4,al9,k5,_,k6,_,_,k7,_⟩
     ·rw[k5] at Er;cases Er
     ·cases k5;have e4:q2=g4:=bg Er;subst e4;rw[k3] at k6;cases k6;omega
    ·exact m7 (by omega) h2
   |6,_=>exact(hj rfl).elim
   |7,hp=>exact hp
   |8,_=>rw[hn 8 (by kernel_rfl)] at hL;cases hL
   |t+9,_=>trivial
  ·clear hd;refine Ph.yv ?_ rfl;go_simp
  ·have d7:ev (aJ 14)=_:=hd.1 rfl;have d6:∃p c,(ev (aJ 13))=ae p (ms.length+1) c∧w1.ownsRow (w.heap.size+4) 81 3 (ev (aJ 13)) (ms.length+1) (eu ms++m.cells.toList):=hd.2.1 rfl;clear hd;obtain⟨p,c,h1,h2⟩:=d6;have sw:w1.heap[w.heap.size+1+1+1]?=some (au (b.cells (ae pm nm cm) (ae pn nn cn) (ae pk ms.length ck)) 28 (0,0)):=hS.four vg;have c1:=aH sw 14 (ae pk ms.length ck) rfl;have f1:=cM sw 14;refine Lag.Yields.skip (w':=w1.setCell ⟨w.heap.size+1+1+1,14,none⟩ (ev (aJ 13))) ?_ ⟨⟨_,rfl,cP _ sw⟩,.inr ⟨(hS.put (ev (aJ 13)) 14),?_⟩⟩
   ·rw[h1];go_simp
   ·intro t u ds hj hL hp
    match t,hp with
    |0,⟨q2,g1,g2⟩=>exact⟨q2,g1,di g2 sw (by decide)⟩
    |1,hp=>exact hp
    |2,hp=>exact hp
    |3,⟨p2,c2,g1,g2,g3⟩=>exact⟨p2,c2,g1,di g2 sw (by decide),g3⟩
    |4,hp=>exact hp
    |5,⟨q2,g1,g2⟩=>exact⟨q2,g1,di g2 sw (by decide)⟩
    |6,⟨p2,c2,g1,g2⟩=>exact⟨p2,c2,g1,di g2 sw (by decide)⟩
    |7,hp=>exact hp
    |8,_=>exact(hj rfl).elim
    |t+9,_=>trivial
 case rfin=>
  intro a3 w3 hR;have hS:=hR.s;have e6:∃p c,(a3.tmps.getD 13 af)=ae p (ms.length+1) c∧w3.ownsRow (w.heap.size+4) 81 3 (a3.tmps.getD 13 af) (ms.length+1) (eu ms++m.cells.toList):=hR.val 6 (by decide);have e8:∃x,([a3.tmps.getD 14 af,a3.tmps.getD 13 af,a3.tmps.getD 13 af,a3.tmps.getD 7 af,a3.tmps.getD 8 af,a3.tmps.getD 9 af,a3.tmps.getD 10 af,a3.tmps.getD 11 af,a3.tmps.getD 12 af,a3.tmps.getD 13 af]:List aj)[1]?=some x∧w3.heap[w.heap.size+3]?=some (au (b.cells (ae pm nm cm) (ae pn nn cn) x) 28 (0,0)):=hR.val 8 (by decide);have k4:a3.tmps.getD 4 af=bp (some ⟨w.heap.size+1+1,0,none⟩):=hR.kept (by kernel_rfl);have k5:a3.tmps.getD 5 af=bp (some ⟨w.heap.size+1+1+1,0,none⟩):=hR.kept (by kernel_rfl);have ha:=hR.lits 16 rfl;simp only[aT,bT,nA] at ha;clear hR;obtain⟨x,ex,sw⟩:=e8;have Ya:a3.tmps.getD 13 af=x:=bg ex;obtain⟨p13,c13,Yc,Zf⟩:=e6;rw[Yc] at Ya Zf;subst Ya;rw[k4,k5] at ha;generalize a3.tmps.getD=zz at ha;have HOb:Hid (w3.heap[w.heap.size+1+1+1]?=some (au (b.cells (ae pm nm cm) (ae pn nn cn) (ae p13 (ms.length+1) c13)) 28 (0,0))):=ai sw;have HZ:Hid (w3.heap[w.heap.size+1+1]?=some (au #[ah ag 0,ah ag 0,ah ag 0,ah ag 0,ah ag 0,ah ag 0,ah ag 0,ah ag 0,ah ag 0,ah ag 0,ah ag 0,ah ag 0,ae none 0 0,ae none 0 0,ae none 0 0] 28 (0,0))):=ai hS.three;have HB:=ai hS.below;have Fe:=ai Zf;clear Yc ex sw Zf hS k4 k5;subst ha
  go_wp2_with (first
   |(refine wpList_load_row rfl 28 _ rfl _ rfl 28 _ (0,0) _ HOb.out cG rfl (by kernel_rfl) ?_)
   |(refine wpList_store_row rfl 28 _ _ rfl _ _ rfl rfl 28 _ HZ.out (by kernel_rfl) rfl (by simp[cu]) ?_))
  have ho:(w3.setRow (w.heap.size+1+1) (b.cells (ae pm nm cm) (ae pn nn cn) (ae p13 (ms.length+1) c13))).ownsRow (w.heap.size+4) 81 3 (ae p13 (ms.length+1) c13) (ms.length+1) (eu ms++m.cells.toList):=fY Fe.out fun g hg=>setRow_other (by have:=(Fe.out.lt g hg).1;omega);refine bn (results_cell_row rfl _ _ (w.heap.size+1+1) 28 _ (0,0) _ rfl (cV HZ.out) cG rfl (by kernel_rfl)) rfl ⟨_,rfl,?_,?_,dA HB.out (by omega)⟩
  ·rw[PY];exact Reads.iW ho (by simp;omega) (by have:=HL.out;simp;omega)
  ·obtain⟨g,cap,cur,h1,h2,h3,_⟩:=ho.2.resolve_left (by simp);exact⟨g,by rw[h1];rfl,by omega,cur,h3⟩
def en:List Int→List Int→Bool
 |_,[]=>false
 |[],_::_=>true
 |x::xs,y::ys=>if x<y then true else if y<x then false else en xs ys
theorem Jf(xs ys:List Int)(k:Nat)(h1:k<xs.length)(h2:k<ys.length):en (xs.drop k) (ys.drop k)=if xs[k]<ys[k] then true else if ys[k]<xs[k] then false else en (xs.drop (k+1)) (ys.drop (k+1)):=by
 rw[dM h1,dM h2];rfl
theorem zr:∀(xs ys:List Int),(!en xs ys && !en ys xs)=decide (xs=ys)
 |[],[]=>rfl
 |[],_::_=>by simp[en]
 |_::_,[]=>by simp[en]
 |x::xs,y::ys=>by
  have ih:=zr xs ys;unfold en
  by_cases h1:x<y
  ·have:x≠y:=by omega
   simp[h1,this]
  ·by_cases h2:y<x
   ·have:x≠y:=by omega
    simp[h2,this]
   ·have:x=y:=by omega
    subst this;simp only[Int.lt_irrefl,if_false,List.cons.injEq,true_and];exact ih
theorem vo(xs ys:List Int)(v1 v2:aj)(w:ar)(h1:Reads w v1 xs.length (xs.map (aG ag)))(h2:Reads w v2 ys.length (ys.map (aG ag))) :
  bm aq 46 #[v1,v2] w fun e w'=>e=aC (aF (en xs ys))∧az w.heap.size w w':=by
 obtain⟨p1,c1,rfl,hb1⟩:=aR h1;obtain⟨p2,c2,rfl,hb2⟩:=aR h2
 have cell:∀ {zs:List Int} {p:Option Addr} {c:Nat},Reads w (ae p zs.length c) zs.length (zs.map (aG ag))→∀k (hk:k<zs.length),∃g off,p=some ⟨g,off,none⟩∧g<w.heap.size∧w.cell? ⟨g,off+k,none⟩=some (ah ag zs[k]):=by
  rintro zs p c (⟨h,_⟩|⟨g,off,cap,h,_,hg,hc⟩) k hk
  ·cases zs with
   |nil=>simp at hk
   |cons z zs=>simp at h
  ·cases h;exact⟨g,off,rfl,hg,hc k _ (by simp[hk])⟩
 have Pu:=ai (cell h1);have HC2:=ai (cell h2);clear cell h1 h2
 go_enter Tryz.func46,Tryz.ntmps46
 go_wp2
 go_loopw [5] (fun i wr=>∃k:Nat,k≤ys.length∧k≤xs.length∧i=ah ag k∧en xs ys=en (xs.drop k) (ys.drop k)∧az w.heap.size w wr) (fun i _=>ys.length-(intOf i).toNat)
 case atStart=>exact⟨0,by omega,by omega,rfl,by simp,aw _ _⟩
 case round=>
  obtain⟨k,hk2,qq,rfl,he,dX⟩:=hrel;have hsz:=dX.size;have HE:=ai he;have wZ:=ai dX;clear he dX
  by_cases hlt:k<ys.length
  ·obtain⟨g2,o2,hp2,hg2,hc2⟩:=HC2.out k hlt;have HY:Hid (∀w9,az wr.heap.size wr w9→w9.cell? ⟨g2,o2+k,none⟩=some (ah ag ys[k])):=ai fun w9 h9=>((wZ.out.trans (h9.mono hsz)).cell (p:=⟨g2,o2+k,none⟩) hg2).trans hc2
   by_cases hx:k<xs.length
   ·obtain⟨g1,o1,hp1,hg1,hc1⟩:=Pu.out k hx;have HX:Hid (∀w9,az wr.heap.size wr w9→w9.cell? ⟨g1,o1+k,none⟩=some (ah ag xs[k])):=ai fun w9 h9=>((wZ.out.trans (h9.mono hsz)).cell (p:=⟨g1,o1+k,none⟩) hg1).trans hc1;have hst:=Jf xs ys k hx hlt;subst hp1;subst hp2;clear hc1 hc2 Pu HC2;generalize xs[k]=x at *;generalize ys[k]=y at *;generalize uf:xs.length=n1 at *;generalize wa:ys.length=n2 at *;have HN1:=ai uf;have HN2:=ai wa;have UB:=ai hst;clear uf wa hst;have hge:decide ((n1:Int)≤(k:Int))=false:=decide_eq_false (by omega);have Zt:decide (n1≤k)=false:=decide_eq_false (by omega);obtain⟨lt,Cq⟩:∃lt,decide (x<y)=lt:=⟨_,rfl⟩
    go_wp2
    refine Gd.bQ (by kernel_rfl) [
    pV (ah ag k),
     pV (ae (some ⟨g1,o1,none⟩) n1 c1),
     pV (ah ag n1),
     pV (aF false),
     pV (aF false),
     pV (ae (some ⟨g1,o1,none⟩) n1 c1),
     pV (ah ag k),
     pV (bp (some ⟨g1,o1+k,none⟩)),
     pV (ah ag x),
     pV (ae (some ⟨g2,o2,none⟩) n2 c2),
     pV (ah ag k),
     pV (bp (some ⟨g2,o2+k,none⟩)),
     pV (ah ag y),
     pV (aF lt),
     pV (aF lt)]
     (fun w9=>az wr.heap.size wr w9) [(0,ae (some ⟨g1,o1,none⟩) n1 c1),(1,ae (some ⟨g2,o2,none⟩) n2 c2),(5,ah ag k)] (by kernel_rfl) ?rst (fun w1 w2 h hb=>h.trans (hb.mono h.size)) ((aw _ _).drew) ⟨rfl,rfl,rfl,trivial⟩ ?reach ?rfin
    case rst=>
     refine⟨sV,sV,sV,sV,sV,sV,sV,sV,sV,sV,sV,sV,sV,sV,sV,trivial⟩
    case reach=>
     refine⟨?_,?_,?_,?_,?_,?_,?_,?_,?_,?_,?_,?_,?_,?_,?_,trivial⟩<;>rintro ev w1 hS hc hg hf ⟨b0,b1,b5,-⟩ hd
     ·clear hd;exact tV
     ·clear hd;exact tV
     ·have d1:ev (aJ 13)=_:=hd.1 rfl;clear hd;exact tV
     ·have d0:ev (aJ 12)=_:=hd.1 rfl;have d2:ev (aJ 14)=_:=hd.2.1 rfl;clear hd;exact tV
     ·have d3:ev (aJ 15)=_:=hd.1 rfl;clear hd;exact tV
     ·have d4:ev (aJ 16)=_:=hd.1 rfl;clear hd;refine gL d4 ?_;exact tV
     ·have d4:ev (aJ 16)=_:=hd.1 rfl;clear hd;refine gL d4 ?_;exact tV
     ·have d5:ev (aJ 17)=_:=hd.1 rfl;have d6:ev (aJ 18)=_:=hd.2.1 rfl;have d4:ev (aJ 16)=_:=hd.2.2.1 rfl;clear hd;refine gL d4 ?_;exact tV
     ·have d7:ev (aJ 19)=_:=hd.1 rfl;have d4:ev (aJ 16)=_:=hd.2.1 rfl;clear hd;refine gL d4 ?_;have z:=HX.out w1 hS;exact tV
     ·have d4:ev (aJ 16)=_:=hd.1 rfl;clear hd;refine gL d4 ?_;exact tV
     ·have d4:ev (aJ 16)=_:=hd.1 rfl;clear hd;refine gL d4 ?_;exact tV
     ·have d9:ev (aJ 21)=_:=hd.1 rfl;have d10:ev (aJ 22)=_:=hd.2.1 rfl;have d4:ev (aJ 16)=_:=hd.2.2.1 rfl;clear hd;refine gL d4 ?_;exact tV
     ·have d11:ev (aJ 23)=_:=hd.1 rfl;have d4:ev (aJ 16)=_:=hd.2.1 rfl;clear hd;refine gL d4 ?_;have z:=HY.out w1 hS;exact tV
     ·have d8:ev (aJ 20)=_:=hd.1 rfl;have d12:ev (aJ 24)=_:=hd.2.1 rfl;have d4:ev (aJ 16)=_:=hd.2.2.1 rfl;clear hd;refine gL d4 ?_;refine yv ?_ rfl;rw[←Cq];go_simp
     ·have d4:ev (aJ 16)=_:=hd.1 rfl;have d13:ev (aJ 25)=_:=hd.2.1 rfl;clear hd;exact tV
    case rfin=>
     intro a3 w3 hR;have hS:=hR.s;have Fs:a3.tmps.getD 26 af=_:=hR.val 14 (by decide);have ha:=hR.lits 36 rfl;simp only[aT,bT,nA] at ha;rw[hR.kp 0 (by kernel_rfl),hR.kp 1 (by kernel_rfl),hR.kp 2 (by kernel_rfl),hR.kp 3 (by kernel_rfl),hR.kp 4 (by kernel_rfl),hR.kp 5 (by kernel_rfl)] at ha;simp only[ko,fT,fS] at ha;clear hR;rw[Fs] at ha;generalize a3.tmps.getD=zz at ha;have pw:=ai hS;clear Fs hS;subst ha;cases lt
     ·have h3:¬x<y:=by simpa using Cq
      obtain⟨gt,Zq⟩:∃gt,decide (y<x)=gt:=⟨_,rfl⟩
      go_wp2
      refine Gd.bQ (by kernel_rfl) [
      pV (ae (some ⟨g1,o1,none⟩) n1 c1),
       pV (ah ag k),
       pV (bp (some ⟨g1,o1+k,none⟩)),
       pV (ah ag x),
       pV (ae (some ⟨g2,o2,none⟩) n2 c2),
       pV (ah ag k),
       pV (bp (some ⟨g2,o2+k,none⟩)),
       pV (ah ag y),
       pV (aF gt)]
       (fun w9=>az w3.heap.size w3 w9) [(0,ae (some ⟨g1,o1,none⟩) n1 c1),(1,ae (some ⟨g2,o2,none⟩) n2 c2),(5,ah ag k)] (by kernel_rfl) ?rst (fun w1 w2 h hb=>h.trans (hb.mono h.size)) ((aw _ _).drew) ⟨rfl,rfl,rfl,trivial⟩ ?reach ?rfin
      case rst=>
       refine⟨sV,sV,sV,sV,sV,sV,sV,sV,sV,trivial⟩
      case reach=>
       refine⟨?_,?_,?_,?_,?_,?_,?_,?_,?_,trivial⟩<;>rintro ev w1 hS hc hg hf ⟨b0,b1,b5,-⟩ hd
       ·clear hd;exact tV
       ·clear hd;exact tV
       ·have d0:ev (aJ 27)=_:=hd.1 rfl;have d1:ev (aJ 28)=_:=hd.2.1 rfl;clear hd;exact tV
       ·have d2:ev (aJ 29)=_:=hd.1 rfl;clear hd;have z:=HX.out w1 (pw.out.trans (hS.mono pw.out.size));exact tV
       ·clear hd;exact tV
       ·clear hd;exact tV
       ·have d4:ev (aJ 31)=_:=hd.1 rfl;have d5:ev (aJ 32)=_:=hd.2.1 rfl;clear hd;exact tV
       ·have d6:ev (aJ 33)=_:=hd.1 rfl;clear hd;have z:=HY.out w1 (pw.out.trans (hS.mono pw.out.size));exact tV
       ·have d3:ev (aJ 30)=_:=hd.1 rfl;have d7:ev (aJ 34)=_:=hd.2.1 rfl;clear hd;refine yv ?_ rfl;rw[←Zq];go_simp
      case rfin=>
       intro a4 w4 hR;have hS:=hR.s;have e8:a4.tmps.getD 35 af=_:=hR.val 8 (by decide);have ha:=hR.lits 36 rfl;simp only[aT,bT,nA] at ha;rw[hR.kp 0 (by kernel_rfl),hR.kp 1 (by kernel_rfl),hR.kp 2 (by kernel_rfl),hR.kp 3 (by kernel_rfl),hR.kp 4 (by kernel_rfl),hR.kp 5 (by kernel_rfl)] at ha;simp only[ko,fT,fS] at ha;clear hR;rw[e8] at ha;generalize a4.tmps.getD=zz at ha;have HB4:=ai hS;clear e8 hS;subst ha;cases gt
       ·have h4:¬y<x:=by simpa using Zq
        have hs:=UB.out;rw[if_neg (show ¬x<y by omega),if_neg (show ¬y<x by omega)] at hs;have HS:=ai hs;clear hs;go_wp2;go_roundw
        case rel=>exact⟨k+1,by omega,by omega,by go_num,by rw[HE.out,HS.out],wZ.out.trans ((pw.out.trans (HB4.out.mono pw.out.size)).mono hsz)⟩
        case measure=>simp[intOf];omega
       ·have h4:y<x:=by simpa using Zq
        have hs:=UB.out;rw[if_neg (show ¬x<y by omega),if_pos (show y<x by omega)] at hs;have HS:=ai hs;clear hs;go_wp2
        go_ret
        exact⟨by rw[HE.out,HS.out];rfl,wZ.out.trans ((pw.out.trans (HB4.out.mono pw.out.size)).mono hsz)⟩
     ·have h3:x<y:=by simpa using Cq
      have hs:=UB.out;rw[if_pos (show x<y by omega)] at hs;have HS:=ai hs;clear hs;go_wp2
      go_ret
      exact⟨by rw[HE.out,HS.out];rfl,wZ.out.trans (pw.out.mono hsz)⟩
   ·obtain rfl:xs.length=k:=by omega
    have hres:en xs ys=true:=by
     rw[HE.out,List.drop_length,dM hlt];rfl
    have aaH:=ai hres;clear hres hc2 HY Pu HC2;generalize uf:xs.length=n1 at *;generalize wa:ys.length=n2 at *;clear uf wa;have hge:decide ((n1:Int)≤(n1:Int))=true:=decide_eq_true (by omega);go_wp2
    refine Gd.bQ (by kernel_rfl) [
    pV (ah ag n1),
     pV (ae p1 n1 c1),
     pV (ah ag n1),
     pV (aF true),
     pV (aF true),
     fun v ds w9=>True,
     fun v ds w9=>True,
     fun v ds w9=>True,
     fun v ds w9=>True,
     fun v ds w9=>True,
     fun v ds w9=>True,
     fun v ds w9=>True,
     fun v ds w9=>True,
     fun v ds w9=>True,
     pV (aF true)]
     (fun w9=>az wr.heap.size wr w9) [(0,ae p1 n1 c1),(1,ae p2 n2 c2),(5,ah ag n1)] (by kernel_rfl) ?rst (fun w1 w2 h hb=>h.trans (hb.mono h.size)) ((aw _ _).drew) ⟨rfl,rfl,rfl,trivial⟩ ?reach ?rfin
    case rst=>
     refine⟨sV,sV,sV,sV,sV,fun _ _ _ _ _ h _=>h,fun _ _ _ _ _ h _=>h,fun _ _ _ _ _ h _=>h,fun _ _ _ _ _ h _=>h,fun _ _ _ _ _ h _=>h,fun _ _ _ _ _ h _=>h,fun _ _ _ _ _ h _=>h,fun _ _ _ _ _ h _=>h,fun _ _ _ _ _ h _=>h,sV,trivial⟩
    case reach=>
     refine⟨?_,?_,?_,?_,?_,?_,?_,?_,?_,?_,?_,?_,?_,?_,?_,trivial⟩<;>rintro ev w1 hS hc hg hf ⟨b0,b1,b5,-⟩ hd
     ·clear hd;exact tV
     ·clear hd;exact tV
     ·have d1:ev (aJ 13)=_:=hd.1 rfl;clear hd;exact tV
     ·have d0:ev (aJ 12)=_:=hd.1 rfl;have d2:ev (aJ 14)=_:=hd.2.1 rfl;clear hd;exact tV
     ·have d3:ev (aJ 15)=_:=hd.1 rfl;clear hd;exact tV
     ·have d4:ev (aJ 16)=_:=hd.1 rfl;clear hd;refine⟨fun hgd=>absurd (d4.symm.trans hgd) (by simp),fun hgd=>⟨trivial,cF (aw _ _)⟩⟩
     ·have d4:ev (aJ 16)=_:=hd.1 rfl;clear hd;refine⟨fun hgd=>absurd (d4.symm.trans hgd) (by simp),fun hgd=>⟨trivial,cF (aw _ _)⟩⟩
     ·have d4:ev (aJ 16)=_:=hd.2.2.1 rfl;clear hd;refine⟨fun hgd=>absurd (d4.symm.trans hgd) (by simp),fun hgd=>⟨trivial,cF (aw _ _)⟩⟩
     ·have d4:ev (aJ 16)=_:=hd.2.1 rfl;clear hd;refine⟨fun hgd=>absurd (d4.symm.trans hgd) (by simp),fun hgd=>⟨trivial,cF (aw _ _)⟩⟩
     ·have d4:ev (aJ 16)=_:=hd.1 rfl;clear hd;refine⟨fun hgd=>absurd (d4.symm.trans hgd) (by simp),fun hgd=>⟨trivial,cF (aw _ _)⟩⟩
     ·have d4:ev (aJ 16)=_:=hd.1 rfl;clear hd;refine⟨fun hgd=>absurd (d4.symm.trans hgd) (by simp),fun hgd=>⟨trivial,cF (aw _ _)⟩⟩
     ·have d4:ev (aJ 16)=_:=hd.2.2.1 rfl;clear hd;refine⟨fun hgd=>absurd (d4.symm.trans hgd) (by simp),fun hgd=>⟨trivial,cF (aw _ _)⟩⟩
     ·have d4:ev (aJ 16)=_:=hd.2.1 rfl;clear hd;refine⟨fun hgd=>absurd (d4.symm.trans hgd) (by simp),fun hgd=>⟨trivial,cF (aw _ _)⟩⟩
     ·have d4:ev (aJ 16)=_:=hd.2.2.1 rfl;clear hd;refine⟨fun hgd=>absurd (d4.symm.trans hgd) (by simp),fun hgd=>⟨trivial,cF (aw _ _)⟩⟩
     ·have d4:ev (aJ 16)=_:=hd.1 rfl;clear hd;exact tV
    case rfin=>
     intro a3 w3 hR;have hS:=hR.s;have Fs:a3.tmps.getD 26 af=_:=hR.val 14 (by decide);have ha:=hR.lits 36 rfl;simp only[aT,bT,nA] at ha;rw[hR.kp 0 (by kernel_rfl),hR.kp 1 (by kernel_rfl),hR.kp 2 (by kernel_rfl),hR.kp 3 (by kernel_rfl),hR.kp 4 (by kernel_rfl),hR.kp 5 (by kernel_rfl)] at ha;simp only[ko,fT,fS] at ha;clear hR;rw[Fs] at ha;generalize a3.tmps.getD=zz at ha;have pw:=ai hS;clear Fs hS;subst ha;go_wp2
     go_ret
     exact⟨by rw[aaH.out];rfl,wZ.out.trans (pw.out.mono hsz)⟩
  ·obtain rfl:ys.length=k:=by omega
   have hres:en xs ys=false:=by
    rw[HE.out,List.drop_length];cases(xs.drop ys.length)<;>rfl
   have aaH:=ai hres;clear hres Pu HC2;generalize uf:xs.length=n1 at *;generalize wa:ys.length=n2 at *;clear uf wa;go_wp2
   go_ret
   exact⟨by rw[aaH.out];rfl,wZ.out⟩
theorem Ie(xs ys:List Int)(v1 v2:aj)(w:ar)(h1:Reads w v1 xs.length (xs.map (aG ag)))(h2:Reads w v2 ys.length (ys.map (aG ag))) :
  bm aq 22 #[v1,v2] w fun e w'=>e=aC (aF (decide (xs=ys)))∧az w.heap.size w w':=by
 have hA:∀W,az w.heap.size w W→bm aq 46 #[v1,v2] W fun e w'=>e=aC (aF (en xs ys))∧az W.heap.size W w':=fun W hb=>vo xs ys v1 v2 W (h1.below hb) (h2.below hb);have hB:∀W,az w.heap.size w W→bm aq 46 #[v2,v1] W fun e w'=>e=aC (aF (en ys xs))∧az W.heap.size W w':=fun W hb=>vo ys xs v2 v1 W (h2.below hb) (h1.below hb);obtain⟨p1,c1,rfl,_⟩:=aR h1;obtain⟨p2,c2,rfl,_⟩:=aR h2;rw[←zr];generalize en xs ys=r at *;generalize en ys xs=s at *;generalize xs.length=n1 at *;generalize ys.length=n2 at *;have HA:=ai hA;have HB:=ai hB;clear hA hB h1 h2;cases r
 ·go_enter Tryz.func22,Tryz.ntmps22
  go_wp2_with fail
  refine(HA.out w (aw _ _)).mono ?_;rintro e w1 ⟨rfl,hb1⟩;have H1:=ai hb1;clear hb1
  go_wp2_with fail
  refine(HB.out w1 H1.out).mono ?_;rintro e w2 ⟨rfl,hb2⟩;have H2:=ai hb2;clear hb2;go_wp2
  go_ret
  exact⟨rfl,H1.out.trans (H2.out.mono H1.out.size)⟩
 ·go_enter Tryz.func22,Tryz.ntmps22
  go_wp2_with fail
  refine(HA.out w (aw _ _)).mono ?_;rintro e w1 ⟨rfl,hb1⟩;have H1:=ai hb1;clear hb1;go_wp2
  go_ret
  exact⟨rfl,H1.out⟩
section
variable(b:BB)(men sent marks:aj)(ml:List Mn)(ss:List Int)(ms:List Mk)(w:ar)
theorem UA(hL:Laid w)(hB:cI b men sent marks ml ss ms w) :
  bm aq 33 #[aO (b.cells men sent marks)] w fun e w'=>e=aC (.tuple #[ah ag b.holds,ah ag 0])∧az w.heap.size w w':=by
 have b0:az w.heap.size w (w.alloc (au (b.cells men sent marks) 28)):=(aw _ _).alloc (ax _) _;have ur:=ai (eZ b men sent marks ml ss ms _ (hL.below b0) (hB.below b0));have cN:=hB.ok;have HOk:=ai cN;have JH:=ai b0;clear hL hB b0 cN
 go_enter Tryz.func33,Tryz.ntmps33
 go_wp2_with (first
  |(go_at_call 71;refine ur.out.mono ?_;clear ur;rintro e w1 ⟨rfl,hb1⟩
    have m8:=(hb1.block w.heap.size (by simp)).trans (ay w _);obtain⟨x0,x1,x2,x3,x4,x5,x6,x7,x8,x9,nX,nW,oU,oh,oP⟩:=bN m8
    have yo:=ai hb1;clear m8 hb1)
  |(go_at_call 115;refine(GY b HOk.out men sent marks _).mono ?_;rintro e w2 ⟨rfl,hb2⟩;have o7:=ai hb2;clear hb2))
 go_ret2;have h1:=JH.out.trans (yo.out.mono JH.out.size);exact⟨rfl,h1.trans (o7.out.mono h1.size)⟩
theorem aaO(hL:Laid w)(hB:cI b men sent marks ml ss ms w)(n:Int)(hn:0≤n∧n≤999) :
  bm aq 65 #[aO (b.cells men sent marks),ah ag n] w fun e w'=>e=aC (.tuple #[ah ag (b.Li n),ah ag 0])∧az w.heap.size w w':=by
 have b0:az w.heap.size w (w.alloc (au (b.cells men sent marks) 28)):=(aw _ _).alloc (ax _) _;have ur:=ai (eZ b men sent marks ml ss ms _ (hL.below b0) (hB.below b0));have cN:=hB.ok;have HOk:=ai cN;have JH:=ai b0;clear hL hB b0 cN
 go_enter Tryz.func65,Tryz.ntmps65
 go_wp2_with (first
  |(go_at_call 71;refine ur.out.mono ?_;clear ur;rintro e w1 ⟨rfl,hb1⟩
    have m8:=(hb1.block w.heap.size (by simp)).trans (ay w _);obtain⟨x0,x1,x2,x3,x4,x5,x6,x7,x8,x9,nX,nW,oU,oh,oP⟩:=bN m8
    have yo:=ai hb1;clear m8 hb1)
  |(go_at_call 138;refine(iR _ _ _ (by omega) (by omega) _).mono ?_;rintro e w' ⟨rfl,rfl⟩)
  |(go_at_call 139;refine(Jg b HOk.out men sent marks n hn _).mono ?_;rintro e w2 ⟨rfl,hb2⟩;have o7:=ai hb2;clear hb2))
 go_ret2;have h1:=JH.out.trans (yo.out.mono JH.out.size);exact⟨rfl,h1.trans (o7.out.mono h1.size)⟩
theorem Mc(hL:Laid w)(hB:cI b men sent marks ml ss ms w) :
  bm aq 42 #[aO (b.cells men sent marks)] w fun e w'=>e=aC (.tuple #[ah ag (aX b ml ss ms).length,ah ag 0])∧az w.heap.size w w':=by
 have b0:az w.heap.size w (w.alloc (au (b.cells men sent marks) 28)):=(aw _ _).alloc (ax _) _;have ur:=ai (eZ b men sent marks ml ss ms _ (hL.below b0) (hB.below b0));have HBk:=ai (hB.below b0);have JH:=ai b0;have hlen:=ju ss ms hB.ok hB.gX;clear hL hB b0
 go_enter Tryz.func42,Tryz.ntmps42
 go_wp2_with (first
  |(go_at_call 71;refine ur.out.mono ?_;clear ur;rintro e w1 ⟨rfl,hb1⟩
    have m8:=(hb1.block w.heap.size (by simp)).trans (ay w _);obtain⟨x0,x1,x2,x3,x4,x5,x6,x7,x8,x9,nX,nW,oU,oh,oP⟩:=bN m8
    have yo:=ai hb1;clear m8 hb1)
  |(go_at_call 116;refine(oI b men sent marks ml ss ms _ (HBk.out.below yo.out)).mono ?_;rintro e w2 ⟨v,rfl,iY,hb2⟩;have o7:=ai hb2
    obtain⟨p,cap,rfl,_⟩:=aR (iY.reads (by omega));clear hb2 iY))
 go_ret2;have h1:=JH.out.trans (yo.out.mono JH.out.size);exact⟨rfl,h1.trans (o7.out.mono h1.size)⟩
end
def ly(n:Int)(pl:List Int)(i:Nat):Int:=if !(aQ (pl.getD i 0) 0 (n-1)) then 6 else if 0<i∧pl.getD i 0≤pl.getD (i-1) 0 then 7 else 0
def lR(n:Int)(pl:List Int):Int:=(((aT pl.length).map (ly n pl)).find? fun h=>h !=0).getD 0
theorem NH(p1:Option Addr)(c1:Nat)(pl:List Int)(hlen:pl.length≤1000)(n:Int)(hn:0≤n∧n≤1000)(w:ar)(hv:Reads w (ae p1 pl.length c1) pl.length (pl.map (aG ag))):bm aq 49 #[ae p1 pl.length c1,ah ag n] w fun e w'=>e=aC (ah ag (lR n pl))∧az w.heap.size w w':=by
 refine calls_of_wp Tryz.func49 rfl ?_;have hF:=kY (args:=#[ae p1 pl.length c1,ah ag n]) (n:=34) (by simp) [(1,ah ag n),(0,ae p1 pl.length c1)] ⟨nw rfl,nw rfl,trivial⟩;rw[show Tryz.f49.ntmps=34 from rfl];generalize (⟨#[ae p1 pl.length c1,ah ag n]++Array.replicate (34-(#[ae p1 pl.length c1,ah ag n]:Array aj).size) af,[]⟩:Act)=a at *;refine(fun h:∀W,az w.heap.size w W→cH aq _ _ a W=>h w (aw _ _)) ?_;intro W HB;have HC:Hid (∀k,k<pl.length→∃g off,p1=some ⟨g,off,none⟩∧g<w.heap.size∧∀j (hj:j<pl.length),w.cell? ⟨g,off+j,none⟩=some (ah ag (pl.getD j 0))):=ai fun k hk=>hv.atK k hk;clear hv;refine kJ ⟨[],[],[],[]⟩ [(4,ah ag 0)] hF hF trivial trivial ?_;intro a W ho hF;replace HB:=HB.tr ho;clear ho;refine gp ?_;refine kJ ⟨[],[],[],[]⟩ [(5,ah ag 0)] hF hF trivial trivial ?_;intro a W ho hF;replace HB:=HB.tr ho;clear ho;refine wp_block ?_;refine wp_loop (fun a W=>∃k:Nat,k≤pl.length∧(∀i,i<k→ly n pl i=0)∧jg 34 a [(5,ah ag (k:Nat)),(1,ah ag n),(0,ae p1 pl.length c1)]∧az w.heap.size w W) (fun a _=>pl.length-(intOf (a.eval (aJ 5))).toNat) ⟨0,jS _,fun i hi=>by omega,⟨hF.size,hF.defers,(by obtain⟨b5,-,b1,b0,-⟩:=hF.base;exact⟨b5,b1,b0,trivial⟩)⟩,HB⟩ ?_;clear hF HB
 try clear a
 try clear W
 rintro a W ⟨k,hk,hpre,hF,HB⟩;have hk5:a.eval (aJ 5)=ah ag (k:Nat):=(hF.g 0 rfl)
 refine gp ?_;refine kJ ⟨[],[],[],[]⟩ [(9,aF (decide ((k:Int)<(pl.length:Int))))] hF hF trivial trivial ?_;intro a W ho hF;replace HB:=HB.tr ho;clear ho;refine cB (t:=(decide ((k:Int)<(pl.length:Int)))) (hF.g 0 rfl) (fun QE=>?_) (fun QE=>?_)
 ·skip
  replace hF:=hF.tl;have hlt:k<pl.length:=by simpa using QE
  obtain⟨g,off,rfl,hg,hcell⟩:=HC.out k hlt;have hW:w.heap.size≤W.heap.size:=HB.size;obtain⟨x,hx⟩:∃x,pl.getD k 0=x:=⟨_,rfl⟩
  have CX:∀w9,az w.heap.size w w9→w9.cell? ⟨g,off+k,none⟩=some (ah ag x):=fun w9 h9=>(h9.cell (p:=⟨g,off+k,none⟩) hg).trans (by rw[←hx];exact hcell k hlt);rcases k with _|j
  ·skip
   have Cx:Hid (∀w9,az W.heap.size W w9→w9.cell? ⟨g,off,none⟩=some (ah ag x)):=ai fun w9 h9=>CX w9 (HB.trans (h9.mono hW));refine fV ?_;show cH aq _ _ _ _;refine gp ?_;refine wp_block ?_;refine gp ?_;refine kJ ⟨[],[(2,bp (some ⟨g,off,none⟩)),(3,ah ag x),(5,ah ag (n-1)),(6,aF (aQ x 0 (n-1)))],[],[]⟩ [(19,aF (!(aQ x 0 (n-1))))] hF hF trivial ⟨fun w1 hS _=>gs (j5 25 (ae (some ⟨g,off,none⟩) pl.length c1) (ah ag ((0:Nat):Int))) (by go_simp),fun w1 hS _=>gl (Cx.out w1 hS),fun w1 hS _=>ge (congrArg (aG ag) (show IntKind.i64.wrap (n-1)=(n-1) by rw[cD];omega)),fun w1 hS _=>gc (fA x 0 (n-1) w1),trivial⟩ ?_;intro a W ho hF;replace HB:=HB.tr ho;replace hW:=aN hW ho.size;replace Cx:=ai fun w9 (h9:az W.heap.size W w9)=>Cx.out w9 (ho.trans (h9.mono ho.size));clear ho;refine cB (t:=(!(aQ x 0 (n-1)))) (hF.g 0 rfl) (fun uy=>?_) (fun uy=>?_)
   ·skip
    replace hF:=hF.tl
    have hres:lR n pl=6:=by
     have h6:ly n pl 0=6:=by unfold ly;rw[hx];simp at uy;simp[uy]
     unfold lR;rw[qY _ _ 0 hlt hpre (by rw[h6];decide),h6];rfl
    refine kJ ⟨[],[],[],[]⟩ [(4,ah ag 6)] hF hF trivial trivial ?_;intro a W ho hF;replace HB:=HB.tr ho;replace hW:=aN hW ho.size;replace Cx:=ai fun w9 (h9:az W.heap.size W w9)=>Cx.out w9 (ho.trans (h9.mono ho.size));clear ho;refine wp_ret ?_;show dQ aq Tryz.f49 (fun e w'=>e=aK (ah ag (lR n pl))∧az w.heap.size w w') ej a W;exact bn (bU rfl _ _ _) hF.defers ⟨congrArg aK (((hF.g 0 rfl):a.eval (aJ 4)=ah ag 6).trans (congrArg _ hres.symm)),HB⟩
   ·skip
    replace hF:=hF.tl;refine fV ?_;show cH aq _ _ _ _;refine He (by kernel_rfl) ⟨[(2,false)],[(1,aF false)],[],[]⟩ [(33,aF false)] hF trivial ⟨fun w1 hS _=>ge (congrArg Value.bool (show(decide ((((0:Nat):Int):Int)>(0:Int)))=false from decide_eq_false (by omega))),trivial⟩ ?_;intro a W ho hF;replace HB:=HB.tr ho;replace hW:=aN hW ho.size;replace Cx:=ai fun w9 (h9:az W.heap.size W w9)=>Cx.out w9 (ho.trans (h9.mono ho.size));clear ho;refine wp_cond (t:=false) (hF.g 0 rfl) ?_;show cH aq _ _ _ _;replace hF:=hF.tl;have hz:ly n pl 0=0:=by unfold ly;rw[hx];simp at uy;simp[uy]
    refine fV ?_;show cH aq _ _ _ _;have vP:=hF;replace hF:=hF.tl;refine Uf ⟨[],[(1,ah ag (((0:Nat):Int)+1))],[],[]⟩ [(5,ah ag (((0:Nat):Int)+1))] vP hF trivial ⟨fun w1 hS _=>ge (congrArg (aG ag) (show IntKind.i64.wrap (((0:Nat):Int)+1)=(((0:Nat):Int)+1) by rw[cD];omega)),trivial⟩ ?_;intro a W ho hF;clear vP;replace HB:=HB.tr ho;replace hW:=aN hW ho.size;replace Cx:=ai fun w9 (h9:az W.heap.size W w9)=>Cx.out w9 (ho.trans (h9.mono ho.size));clear ho;refine⟨⟨0+1,by omega,?_,⟨hF.size,hF.defers,hF.base⟩,HB⟩,?_⟩
    ·intro i hi
     by_cases hik:i<0
     ·exact hpre i hik
     ·obtain rfl:i=0:=by omega
      exact hz
    ·rw[show a.eval (aJ 5)=ah ag (((0:Nat):Int)+1) from(hF.g 0 rfl)];simp only[hk5];simp[intOf];omega
  ·skip
   have Cx:Hid (∀w9,az W.heap.size W w9→w9.cell? ⟨g,off+(j+1),none⟩=some (ah ag x)):=ai fun w9 h9=>CX w9 (HB.trans (h9.mono hW));obtain⟨y,hy⟩:∃y,pl.getD j 0=y:=⟨_,rfl⟩
   have Cy:Hid (∀w9,az W.heap.size W w9→w9.cell? ⟨g,off+j,none⟩=some (ah ag y)):=ai fun w9 h9=>((HB.trans (h9.mono hW)).cell (p:=⟨g,off+j,none⟩) hg).trans (by rw[←hy];exact hcell j (by omega));refine fV ?_;show cH aq _ _ _ _;refine gp ?_;refine wp_block ?_;refine gp ?_;refine kJ ⟨[],[(2,bp (some ⟨g,off+(j+1),none⟩)),(3,ah ag x),(5,ah ag (n-1)),(6,aF (aQ x 0 (n-1)))],[],[]⟩ [(19,aF (!(aQ x 0 (n-1))))] hF hF trivial ⟨fun w1 hS _=>gs (j5 25 (ae (some ⟨g,off,none⟩) pl.length c1) (ah ag ((j+1:Nat):Int))) (by have FN:¬((pl.length:Int)≤(j:Int)+1):=(by omega);have hi2:0≤(j:Int)+1:=(by omega);go_simp),fun w1 hS _=>gl (Cx.out w1 hS),fun w1 hS _=>ge (congrArg (aG ag) (show IntKind.i64.wrap (n-1)=(n-1) by rw[cD];omega)),fun w1 hS _=>gc (fA x 0 (n-1) w1),trivial⟩ ?_;intro a W ho hF;replace HB:=HB.tr ho;replace hW:=aN hW ho.size;replace Cx:=ai fun w9 (h9:az W.heap.size W w9)=>Cx.out w9 (ho.trans (h9.mono ho.size));replace Cy:=ai fun w9 (h9:az W.heap.size W w9)=>Cy.out w9 (ho.trans (h9.mono ho.size));clear ho;refine cB (t:=(!(aQ x 0 (n-1)))) (hF.g 0 rfl) (fun uy=>?_) (fun uy=>?_)
   ·skip
    replace hF:=hF.tl
    have hres:lR n pl=6:=by
     have h6:ly n pl (j+1)=6:=by unfold ly;rw[hx];simp at uy;simp[uy]
     unfold lR;rw[qY _ _ (j+1) hlt hpre (by rw[h6];decide),h6];rfl
    refine kJ ⟨[],[],[],[]⟩ [(4,ah ag 6)] hF hF trivial trivial ?_;intro a W ho hF;replace HB:=HB.tr ho;replace hW:=aN hW ho.size;replace Cx:=ai fun w9 (h9:az W.heap.size W w9)=>Cx.out w9 (ho.trans (h9.mono ho.size));replace Cy:=ai fun w9 (h9:az W.heap.size W w9)=>Cy.out w9 (ho.trans (h9.mono ho.size));clear ho;refine wp_ret ?_;show dQ aq Tryz.f49 (fun e w'=>e=aK (ah ag (lR n pl))∧az w.heap.size w w') ej a W;exact bn (bU rfl _ _ _) hF.defers ⟨congrArg aK (((hF.g 0 rfl):a.eval (aJ 4)=ah ag 6).trans (congrArg _ hres.symm)),HB⟩
   ·skip
    replace hF:=hF.tl;refine fV ?_;show cH aq _ _ _ _;refine He (by kernel_rfl) ⟨[(2,true)],[(1,aF true),(5,bp (some ⟨g,off+(j+1),none⟩)),(6,ah ag x),(9,ah ag (j:Int)),(10,bp (some ⟨g,off+j,none⟩)),(11,ah ag y)],[],[]⟩ [(33,aF (decide (x≤y)))] hF trivial ⟨fun w1 hS _=>ge (congrArg Value.bool (show(decide ((((j+1:Nat):Int):Int)>(0:Int)))=true from decide_eq_true (by omega))),fun w1 hS _=>gs (j5 25 (ae (some ⟨g,off,none⟩) pl.length c1) (ah ag ((j+1:Nat):Int))) (by have FN:¬((pl.length:Int)≤(j:Int)+1):=(by omega);have hi2:0≤(j:Int)+1:=(by omega);go_simp),fun w1 hS _=>gl (Cx.out w1 hS),fun w1 hS _=>ge (congrArg (aG ag) (show IntKind.i64.wrap (((j+1:Nat):Int)-1)=(j:Int) by rw[cD];omega)),fun w1 hS _=>gs (j5 25 (ae (some ⟨g,off,none⟩) pl.length c1) (ah ag (j:Int))) (by have FN:¬(pl.length≤j):=(by omega);go_simp),fun w1 hS _=>gl (Cy.out w1 hS),trivial⟩ ?_;intro a W ho hF;replace HB:=HB.tr ho;replace hW:=aN hW ho.size;replace Cx:=ai fun w9 (h9:az W.heap.size W w9)=>Cx.out w9 (ho.trans (h9.mono ho.size));replace Cy:=ai fun w9 (h9:az W.heap.size W w9)=>Cy.out w9 (ho.trans (h9.mono ho.size));clear ho;refine cB (t:=(decide (x≤y))) (hF.g 0 rfl) (fun Ww=>?_) (fun Ww=>?_)
    ·skip
     replace hF:=hF.tl
     have hres:lR n pl=7:=by
      have h7:ly n pl (j+1)=7:=by unfold ly;rw[hx,show((j+1)-1)=j from rfl,hy];simp at uy Ww;simp[uy,Ww]
      unfold lR;rw[qY _ _ (j+1) hlt hpre (by rw[h7];decide),h7];rfl
     refine kJ ⟨[],[],[],[]⟩ [(4,ah ag 7)] hF hF trivial trivial ?_;intro a W ho hF;replace HB:=HB.tr ho;replace hW:=aN hW ho.size;replace Cx:=ai fun w9 (h9:az W.heap.size W w9)=>Cx.out w9 (ho.trans (h9.mono ho.size));replace Cy:=ai fun w9 (h9:az W.heap.size W w9)=>Cy.out w9 (ho.trans (h9.mono ho.size));clear ho;refine wp_ret ?_;show dQ aq Tryz.f49 (fun e w'=>e=aK (ah ag (lR n pl))∧az w.heap.size w w') ej a W;exact bn (bU rfl _ _ _) hF.defers ⟨congrArg aK (((hF.g 0 rfl):a.eval (aJ 4)=ah ag 7).trans (congrArg _ hres.symm)),HB⟩
    ·skip
     replace hF:=hF.tl;have hz:ly n pl (j+1)=0:=by unfold ly;rw[hx,show((j+1)-1)=j from rfl,hy];simp at uy Ww;simp[uy];omega
     refine fV ?_;show cH aq _ _ _ _;have vP:=hF;replace hF:=hF.tl;refine Uf ⟨[],[(1,ah ag (((j+1:Nat):Int)+1))],[],[]⟩ [(5,ah ag (((j+1:Nat):Int)+1))] vP hF trivial ⟨fun w1 hS _=>ge (congrArg (aG ag) (show IntKind.i64.wrap (((j+1:Nat):Int)+1)=(((j+1:Nat):Int)+1) by rw[cD];omega)),trivial⟩ ?_;intro a W ho hF;clear vP;replace HB:=HB.tr ho;replace hW:=aN hW ho.size;replace Cx:=ai fun w9 (h9:az W.heap.size W w9)=>Cx.out w9 (ho.trans (h9.mono ho.size));replace Cy:=ai fun w9 (h9:az W.heap.size W w9)=>Cy.out w9 (ho.trans (h9.mono ho.size));clear ho;refine⟨⟨(j+1)+1,by omega,?_,⟨hF.size,hF.defers,hF.base⟩,HB⟩,?_⟩
     ·intro i hi
      by_cases hik:i<(j+1)
      ·exact hpre i hik
      ·obtain rfl:i=(j+1):=by omega
       exact hz
     ·rw[show a.eval (aJ 5)=ah ag (((j+1:Nat):Int)+1) from(hF.g 0 rfl)];simp only[hk5];simp[intOf];omega
 ·skip
  replace hF:=hF.tl;refine wp_exit ?_;have xI:k=pl.length:=by simp at QE;omega
  rw[xI] at hpre;have hres:lR n pl=0:=by unfold lR;rw[nR _ _ hpre];rfl
  show cH aq _ _ a W;show cH aq _ _ _ _;refine kJ ⟨[],[],[],[]⟩ [(4,ah ag 0)] hF hF trivial trivial ?_;intro a W ho hF;replace HB:=HB.tr ho;clear ho;refine wp_ret ?_;show dQ aq Tryz.f49 (fun e w'=>e=aK (ah ag (lR n pl))∧az w.heap.size w w') ej a W;exact bn (bU rfl _ _ _) hF.defers ⟨congrArg aK (((hF.g 0 rfl):a.eval (aJ 4)=ah ag 0).trans (congrArg _ hres.symm)),HB⟩
theorem KY{l:List Int}{i:Nat}(h:i<l.length):l.getD i 0=l[i]:=by simp[h]
theorem G4{f:Nat→Int}{n:Nat}{c:Int}(h:(((aT n).map f).find? fun h=>h !=0).getD c=0):(∀i,i<n→f i=0)∧c=0:=by
 cases e:((aT n).map f).find? (fun h=>h !=0) with
 |none=>
  rw[e] at h;rw[List.find?_eq_none] at e;refine⟨fun i hi=>?_,h⟩;have:=e _ (List.mem_map.2 ⟨i,List.mem_range.2 hi,rfl⟩);simpa using this
 |some x=>
  rw[e] at h;have:=List.find?_some e;simp at h this;exact absurd h this
theorem Rj{b:BB}(h:lX b=0):b.Ok:=by
 unfold lX at h;have h1:Ce b=false:=by cases e:Ce b<;>simp_all
 have h2:E5 b=false:=by cases e:E5 b<;>simp_all
 have h3:Hg b=false:=by cases e:Hg b<;>simp_all
 unfold Ce aQ at h1;unfold E5 aQ at h2;unfold Hg bW at h3;simp at h1 h2 h3;constructor<;>omega
theorem P7{b:BB}{ss:List Int}(h:jA b ss=0):fj b ss:=by
 unfold jA at h;obtain⟨h1,h2⟩:=G4 h
 have hc:(ss.length:Int)≤b.dc:=by
  refine Int.not_lt.1 fun h'=>?_;rw[if_pos h'] at h2;cases h2
 have hk:∀i (hi:i<ss.length),(1≤ss[i]∧ss[i]≤b.minutes)∧¬(0<i∧ss[i]≤ss.getD (i-1) 0):=by
  intro i hi;have:=h1 i hi;unfold nM at this;rw[KY hi] at this;cases e:aQ ss[i] 1 b.minutes with
  |false=>rw[e] at this;simp at this
  |true=>
   refine⟨gb.1 e,fun h'=>?_⟩;rw[e,if_neg (by simp),if_pos h'] at this;cases this
 refine⟨fun p hp=>?_,fun k qH=>?_,hc⟩
 ·obtain⟨i,hi,rfl⟩:=jo hp;exact(hk i hi).1
 ·have:=(hk (k+1) qH).2;rw[show k+1-1=k from rfl,KY (by omega)] at this;omega
theorem MW{b:BB}{ms:List Mk}(h:tk b ms=0):lH b ms:=by
 unfold tk at h
 have h3:(ms.length:Int)≤3:=by
  refine Int.not_lt.1 fun h'=>?_;rw[if_pos h'] at h;cases h
 rw[if_neg (by omega)] at h;obtain⟨h1,-⟩:=G4 h;refine⟨fun m hm=>?_,by omega⟩;obtain⟨i,hi,rfl⟩:=jo hm;have:=h1 i hi;unfold nP at this;rw[Kq ms i hi] at this;cases e:aQ ms[i].minute 1 b.minutes with
 |false=>rw[e] at this;simp at this
 |true=>
  rw[e,if_neg (by simp)] at this;cases e2:bW ms[i].lo ms[i].hi 0 99 with
  |false=>rw[e2] at this;simp at this
  |true=>
   have e:=gb.1 e;unfold bW at e2;simp at e2;omega
theorem aaf{b:BB}{ml:List Mn}{ss:List Int}{ms:List Mk}(h:K8 b ml ss ms=true):b.Ok∧mR ml∧fj b ss∧lH b ms:=by
 unfold K8 at h;rw[Bool.and_eq_true] at h;have h:=h.2;unfold jM at h
 have h1:lX b=0:=by
  refine eR fun hn=>?_;rw[if_pos (by simpa using hn)] at h;simp at h;exact hn h
 rw[h1,if_neg (by simp)] at h
 have h2:nu ml=0:=by
  refine eR fun hn=>?_;rw[if_pos (by simpa using hn)] at h;simp at h;exact hn h
 rw[h2,if_neg (by simp)] at h
 have h3:jA b ss=0:=by
  refine eR fun hn=>?_;rw[if_pos (by simpa using hn)] at h;simp at h;exact hn h
 rw[h3,if_neg (by simp)] at h;exact⟨Rj h1,SQ h2,P7 h3,MW (by simpa using h)⟩
end Go.Proofs.YtffladgmkiimjaaGreatDoor
