/- LONE WALKS: Good (44). PLAIN LAWS: how well it is known; the greatest  .. -/
import Derived.Test.YtffladgmkiimjaaGreatDoorW14
import Derived.Test.YtffladgmkiimjaaGreatDoorW02
import Derived.WalkMore
import Derived.Test.YtffladgmkiimjaaGreatDoorW01
import Derived.Test.YtffladgmkiimjaaGreatDoorW12
import Derived.Test.YtffladgmkiimjaaGreatDoorW03
set_option linter.all false
set_option maxHeartbeats 100000000
set_option maxRecDepth 1000000
open Array renaming replicate → aT,getElem?_eq_some_iff → ak,replicate_zero → jV,replicate_succ → jW
open Go renaming Program → aI,undef → af,Value → aj,World → ar,bodyPost_ret → bg,Calls → bm,Oper → cz,Question → dA,Tmp → kz
open Go.Ending renaming returned → aF
open Go.IntKind renaming i64 → ag
open Go.Lib renaming hid → ai
open Go.Obj renaming cells → au
open Go.Operand renaming tmp → aK
open Go.Proofs.Tryz renaming underlying23 → AZ,prog → aq,underlying28 → cB
open Go.RowKit renaming Below → az
open Go.RowKit.Below renaming refl → aw
open Go.Value renaming int → aD,bool → aG,agg → aO,slice → ae,int → ah,tuple → cD,oneCell' → cj
open Go.World renaming alloc_heap_new → ay,size_alloc → dU
open List renaming range → aU,mem_range → bB,take_succ_eq_append_getElem → bN,range' → bS,take_of_length_le → cQ,length_pos_iff → cX,getElem_mem → cu,getD_cons_zero → fS,getD_cons_succ → fT,append_toArray → gY,cons_append → ie,nil_append → j5,length_cons → je,size_toArray → jv,push_toArray → jw,length_nil → nY,map → nt
open List.range renaming loop → bT
open Nat renaming reduceSub → Ct,reduceAdd → Cu,le_refl → ax,lt_of_lt_of_le → bz,zero_add → cZ
open Option.some renaming inj → bf
open Prod.mk renaming injEq → iq
namespace Go.Proofs.YtffladgmkiimjaaGreatDoor
open Go.RowKit Go.Lag
def pq(n L:Nat):Int:=if n=0 then 2 else if n=L then 1 else 0
def KF(b:BB)(all:List eA)(p:Nat):Nat:=all.countP fun a=>decide (b.bad (b.cM+a.used) p=0)
theorem K0{α:Type}(f:α→Bool)(l:List α){k:Nat}(h:k<l.length):(l.take (k+1)).countP f=(l.take k).countP f+(if f l[k] then 1 else 0):=by
 rw[bN h,List.countP_append,List.countP_singleton]
theorem O9(b:BB)(men sent marks:aj)(ml:List Mn)(ss:List Int)(ms:List Mk)(w:ar)(hL:Laid w)(hB:cH b men sent marks ml ss ms w)(hne:bn b ml ss ms≠[])(pl:List Int)(hp:js b pl)(lv:aj)(hl:Reads w lv pl.length (pl.map (aD ag))) :
  bm aq 44 #[aO (b.cells men sent marks),lv] w fun e w'=>e=aF (cD #[ah ag (pq (KF b (bn b ml ss ms) (bG pl)) (bn b ml ss ms).length),ah ag 0])∧az w.heap.size w w':=by
 have hlen:=jq ss ms hB.ok hB.gV;have kg:0<(bn b ml ss ms).length:=cX.2 hne;have cS:=hB.ok;have hao:=nO (ss:=ss) (ms:=ms) hB.ok hB.gV;have xq:=cS.minutes;have oW:∀s∈pl,1≤s∧s≤8:=fun s h=>by have:=hp.mem s h;omega
 have Qh:bG pl<512:=mS pl oW;obtain⟨pm,cm,rfl,_⟩:=aR hB.rm;obtain⟨pn,cn,rfl,_⟩:=aR hB.rs;obtain⟨pk,ck,rfl,_⟩:=aR hB.rk;obtain⟨pZ,qj,rfl,_⟩:=aR hl;have b1:az w.heap.size w (w.alloc (au (b.cells (ae pm ml.length cm) (ae pn ss.length cn) (ae pk ms.length ck)) 28)):=(aw _ _).alloc (ax _) _;have hk:=ay w (au (b.cells (ae pm ml.length cm) (ae pn ss.length cn) (ae pk ms.length ck)) 28)
 have Uj:Hid (∀W cp,az w.heap.size w W→W.heap[cp]?=some (au #[ae pZ pl.length qj] 25 (0,0))→bm aq 103 #[aO (b.cells (ae pm ml.length cm) (ae pn ss.length cn) (ae pk ms.length ck)),.func (.func 164) #[] #[pv cp 0]] W fun e w'=>∃v,e=aF (cD #[aO (b.open (ae pm ml.length cm) (ae pn ss.length cn) (ae pk ms.length ck) v),ah ag 0])∧gJ w' W.heap.size v (bn b ml ss ms)∧az W.heap.size W w'):=
  ai fun W cp Jo Td=>CB b _ _ _ ml ss ms W (hL.below Jo) (hB.below Jo) hne cp fun W' hb'=>by
   have hlt:=(ak.1 Td).1;exact CS b cS _ _ _ pl hp cp _ W' ((hb'.block _ hlt).trans Td) ((hl.below Jo).below hb')
 have Jp:=ai hl;have Ra:=ai hao;have WL:=ai oW;clear hL hB hl hao hp oW;generalize bn b ml ss ms=all at *;generalize ml.length=lm at *;generalize ss.length=ln at *;generalize ms.length=lk at *
 go_enter Tryz.func44,Tryz.ntmps44
 go_wp2
 refine bQ (by kernel_rfl) [
 pV (aO (b.cells (ae pm lm cm) (ae pn ln cn) (ae pk lk ck))),
  pV (ae pZ pl.length qj),
  fun v ds w9=>∃cp,v=.func (.func 164) #[] #[pv cp 0]∧w9.heap[cp]?=some (au #[ae pZ pl.length qj] 25 (0,0)),
  fun v ds w9=>∃gv cv,v=cD #[aO (b.open (ae pm lm cm) (ae pn ln cn) (ae pk lk ck) (ae (some ⟨gv,0,none⟩) all.length cv)),ah ag 0]∧gJ w9 w.heap.size (ae (some ⟨gv,0,none⟩) all.length cv) all,
  fun v ds w9=>∃gv cv,v=cD #[aO (b.open (ae pm lm cm) (ae pn ln cn) (ae pk lk ck) (ae (some ⟨gv,0,none⟩) all.length cv)),ah ag 0]∧gJ w9 w.heap.size (ae (some ⟨gv,0,none⟩) all.length cv) all,
  fun v ds w9=>∃gv cv,v=aO (b.open (ae pm lm cm) (ae pn ln cn) (ae pk lk ck) (ae (some ⟨gv,0,none⟩) all.length cv))∧gJ w9 w.heap.size (ae (some ⟨gv,0,none⟩) all.length cv) all,
  pV (ah ag 0),
  fun v ds w9=>∃k,∃z:Array aj,v=pv k 0∧w.heap.size+1≤k∧w9.heap[k]?=some (au z 122 (0,0))∧z.size=16,
  fun v ds w9=>∃k gv cv,ds[0]?=some (pv k 0)∧w.heap.size+1≤k∧w9.heap[k]?=some (au (b.open (ae pm lm cm) (ae pn ln cn) (ae pk lk ck) (ae (some ⟨gv,0,none⟩) all.length cv)) 122 (0,0))∧gJ w9 w.heap.size (ae (some ⟨gv,0,none⟩) all.length cv) all,
  pV (ah ag 0)]
  (fun w9=>w9.heap[w.heap.size]?=some (au (b.cells (ae pm lm cm) (ae pn ln cn) (ae pk lk ck)) 28 (0,0))∧az w.heap.size w w9) [(2,pv w.heap.size 0),(1,ae pZ pl.length qj)] (by kernel_rfl) ?rst (fun w1 w2 h hb=>⟨(hb.block _ (ak.1 h.1).1).trans h.1,h.2.trans (hb.mono h.2.size)⟩) (⟨hk,b1.drew⟩) ⟨rfl,rfl,trivial⟩ ?reach ?rfin
 case rst=>
  refine⟨sV,sV,?_,?_,?_,?_,sV,?_,?_,sV,trivial⟩
  ·rintro v ds w1 w2 hS ⟨cp,h1,h2⟩ hb;exact⟨cp,h1,(hb.block _ (ak.1 h2).1).trans h2⟩
  ·rintro v ds w1 w2 hS ⟨gv,cv,h1,h2⟩ hb;exact⟨gv,cv,h1,h2.at_ fun g hg=>hb.block g (h2.1.lt g hg).2⟩
  ·rintro v ds w1 w2 hS ⟨gv,cv,h1,h2⟩ hb;exact⟨gv,cv,h1,h2.at_ fun g hg=>hb.block g (h2.1.lt g hg).2⟩
  ·rintro v ds w1 w2 hS ⟨gv,cv,h1,h2⟩ hb;exact⟨gv,cv,h1,h2.at_ fun g hg=>hb.block g (h2.1.lt g hg).2⟩
  ·rintro v ds w1 w2 hS ⟨k,z,h1,h2,h3,h4⟩ hb;exact⟨k,z,h1,h2,(hb.block _ (ak.1 h3).1).trans h3,h4⟩
  ·rintro v ds w1 w2 hS ⟨k,gv,cv,h1,h0,h3,h2⟩ hb;exact⟨k,gv,cv,h1,h0,(hb.block _ (ak.1 h3).1).trans h3,h2.at_ fun g hg=>hb.block g (h2.1.lt g hg).2⟩
 case reach=>
  refine⟨?_,?_,?_,?_,?_,?_,?_,?_,?_,?_,trivial⟩<;>rintro ev w1 hS hc hg hf ⟨b2,b1,-⟩ hd
  ·clear hd;obtain⟨x0,x1,x2,x3,x4,x5,x6,x7,x8,x9,nS,nR,oO,n4,oK⟩:=bM hS.1;exact tV
  ·clear hd;exact tV
  ·have d1:ev (aK 13)=_:=hd.1 rfl;clear hd;refine Lag.Yields.call (f:=104) (args:=#[ae pZ pl.length qj]) ?_ (I8 _ _ _ _) ?_
   ·go_simp
   ·rintro e w2 ⟨rfl,rfl⟩;exact⟨_,rfl,⟨_,rfl,ay _ _⟩,.inl ((aw _ _).alloc (ax _) _)⟩
  ·have d0:ev (aK 12)=_:=hd.1 rfl;obtain⟨cp,Fb,yf⟩:=hd.2.1 rfl;clear hd;replace Fb:ev (aK 14)=_:=Fb;refine Lag.Yields.call (f:=103) (args:=#[aO (b.cells (ae pm lm cm) (ae pn ln cn) (ae pk lk ck)),.func (.func 164) #[] #[pv cp 0]]) ?_ (Uj.out w1 cp hS.2 yf) ?_
   ·go_simp
   ·rintro e w2 ⟨v,rfl,iU,hb⟩
    obtain⟨gv,cv,rfl⟩:∃gv cv,v=ae (some ⟨gv,0,none⟩) all.length cv:=by
     rcases iU.1.2 with⟨_,h0⟩|⟨g,cap,cur,rfl,_⟩
     ·omega
     ·exact⟨g,cap,rfl⟩
    exact⟨_,rfl,⟨gv,cv,rfl,iU.base hS.2.size⟩,.inl hb⟩
  ·exact yv rfl (hd.1 rfl)
  ·obtain⟨gv,cv,e11,iU⟩:=hd.1 rfl;clear hd;replace e11:ev (aK 11)=_:=e11;refine yv ?_ (⟨gv,cv,rfl,iU⟩);go_simp
  ·obtain⟨gv,cv,e11,iU⟩:=hd.1 rfl;clear hd;replace e11:ev (aK 11)=_:=e11;exact tV
  ·clear hd;refine Lag.Yields.value (v:=pv w1.heap.size 0) (w':=w1.alloc (au gU 122)) ?_ ⟨⟨_,_,rfl,(ak.1 hS.1).1,ay _ _,rfl⟩,.inl ((aw _ _).alloc (ax _) _)⟩;go_simp
  ·obtain⟨k,z,e6,qg,hk2,hz⟩:=hd.1 rfl;replace e6:ev (aK 6)=_:=e6;obtain⟨gv,cv,M8,iU⟩:=hd.2.1 rfl;clear hd;replace M8:ev (aK 16)=_:=M8;have CL:∀g cs t,w1.heap[g]?=some (au cs t (0,0))→t≠122→g≠k:=by rintro g cs t h1 h2 rfl;rw[hk2] at h1;cases h1;exact h2 rfl
   have D7:∀(v:aj),gJ w1 w.heap.size v all→gJ (w1.setRow k (b.open (ae pm lm cm) (ae pn ln cn) (ae pk lk ck) (ae (some ⟨gv,0,none⟩) all.length cv))) w.heap.size v all:=fun v ho=>ho.at_ fun g hg=>setRow_other (by
    obtain⟨cur,q1,_⟩:=ho.2 g hg
    exact CL g _ _ q1 (by decide))
   refine Lag.Yields.nC 122 _ _ rfl k _ e6 M8 122 z hk2 (by kernel_rfl) hz (by simp[cj]) ⟨⟨k,gv,cv,congrArg some e6,qg,cV hk2,D7 _ iU⟩,.inr ⟨⟨(setRow_other (by omega)).trans hS.1,dv hS.2 (by omega)⟩,?_⟩⟩;intro j u ds hj hp
   match j,hp with
   |0,hp=>exact hp
   |1,hp=>exact hp
   |2,⟨cp,h1,h2⟩=>exact⟨cp,h1,(setRow_other (CL _ _ _ h2 (by decide))).trans h2⟩
   |3,⟨Ef,Er,h1,h2⟩=>exact⟨Ef,Er,h1,D7 _ h2⟩
   |4,⟨Ef,Er,h1,h2⟩=>exact⟨Ef,Er,h1,D7 _ h2⟩
   |5,⟨Ef,Er,h1,h2⟩=>exact⟨Ef,Er,h1,D7 _ h2⟩
   |6,hp=>exact hp
   |7,⟨k',z',h1,h2,h3,h4⟩=>
    by_cases sI:k'=k
    ·subst sI;exact⟨k',_,h1,h2,cV h3,rfl⟩
    ·exact⟨k',z',h1,h2,(setRow_other sI).trans h3,h4⟩
   |8,_=>exact(hj rfl).elim
   |9,hp=>exact hp
   |j+10,_=>trivial
  ·have d6:ev (aK 17)=_:=hd.1 rfl;clear hd;refine yv (v:=ev (aK 17)) ?_ (d6);rfl
 case rfin=>
  intro a2 w2 hR;have hS:=hR.s;obtain⟨k,gv,cv,TJ,qg,hk2,iU⟩:=hR.val 8 (by decide);have e9:a2.tmps.getD 7 af=_:=hR.val 9 (by decide);have ha:=hR.lits 46 rfl;simp only[aU,bT,nt] at ha;rw[hR.kp 1 (by kernel_rfl),hR.kp 2 (by kernel_rfl)] at ha;simp only[ku,fT,fS] at ha;clear hR;have e6:a2.tmps.getD 6 af=pv k 0:=bf TJ;rw[e6,e9] at ha;generalize a2.tmps.getD=zz at ha;clear e6 TJ e9;subst ha;have sg:=hS.1;have rz:=hS.2;clear hS;have G9:=aH hk2 15 _ rfl;have BH:=iU.reads (by omega)
  have HC:Hid (∀j u,(rowOf all)[j]?=some u→w2.cell? ⟨gv,0+j,none⟩=some u):=ai (by
   rcases BH with⟨h0,_⟩|⟨g,off,cap,h0,_,_,h1⟩
   ·cases h0
   ·cases h0;exact h1)
  have BI:=(iU.1.lt gv rfl).2;have xu:=(ak.1 hk2).1;have HK:=ai hk2;have HB:=ai sg;have EZ:=ai rz;have LB:=ai iU;clear hk2 BH sg rz iU hk b1 Uj;generalize hL:all.length=L at *;have HL:=ai hL;clear hL;go_wp2
  go_loopw [8,10,24] (fun n _ i wr=>∃j:Nat,j≤L∧i=ah ag j∧n=ah ag ((all.take j).countP fun a=>decide (b.bad (b.cM+a.used) (bG pl)=0):Nat)∧az w2.heap.size w2 wr) (fun _ _ i _=>L-(intOf i).toNat)
  case atStart=>exact⟨0,by omega,rfl,rfl,aw _ _⟩
  case round=>
   obtain⟨j,hj,rfl,rfl,eh⟩:=hrel;have hsz:=eh.size
   have hcj:(all.take j).countP (fun a=>decide (b.bad (b.cM+a.used) (bG pl)=0))≤j:=by
    refine Nat.le_trans List.countP_le_length ?_;rw[List.length_take];omega
   by_cases hlt:j<L
   ·have IE:j<all.length:=by rw[HL.out];exact hlt
    obtain⟨c0,c1,c2,c3⟩:=Reads.cell (w:=wr) (cap:=cv) (n:=L) (fun i u hi=>(eh.cell (p:=⟨gv,0+i,none⟩) BI).trans (HC.out i u hi)) j IE;simp only[cZ] at c0 c1 c2 c3;have UD:(all.take (j+1)).countP (fun a=>decide (b.bad (b.cM+a.used) (bG pl)=0))=(all.take j).countP (fun a=>decide (b.bad (b.cM+a.used) (bG pl)=0))+(if b.bad (b.cM+all[j].used) (bG pl)=0 then 1 else 0):=by rw[K0 _ all IE];simp
    have Ti:=fun W=>Ja b cS (ae pm lm cm) (ae pn ln cn) (ae pk lk ck) all[j] (Ra.out _ (cu IE)) (bG pl) Qh W;have LC:=ai UD;have HBa:=ai Ti;have wS:=ai eh
    have FW:Hid (∀w9,az (wr.alloc (au all[j].cells 134)).heap.size (wr.alloc (au all[j].cells 134)) w9→w9.heap[k]?=some (au (b.open (ae pm lm cm) (ae pn ln cn) (ae pk lk ck) (ae (some ⟨gv,0,none⟩) L cv)) 122 (0,0))∧w9.heap[wr.heap.size]?=some (au all[j].cells 134 (0,0))∧Reads w9 (ae pZ pl.length qj) pl.length (pl.map (aD ag))):=ai fun w9 MW=>by
     have hs:(wr.alloc (au all[j].cells 134)).heap.size=wr.heap.size+1:=by simp
     have hb0:az wr.heap.size wr (wr.alloc (au all[j].cells 134)):=(aw _ _).alloc (ax _) _;have zM:=EZ.out.size;exact⟨(MW.block _ (by omega)).trans ((hb0.block _ (by omega)).trans ((eh.block _ xu).trans HK.out)),(MW.block _ (by omega)).trans (ay wr _),Jp.out.below (EZ.out.trans ((eh.mono zM).trans ((hb0.mono (by omega)).trans (MW.mono (by omega)))))⟩
    clear UD Ti eh;generalize all[j]=a at *;generalize yZ:b.bad (b.cM+a.used) (bG pl)=bd at *;obtain⟨r,hr⟩:∃r,(bd==0)=r:=⟨_,rfl⟩
    go_wp2
    refine bQ (by kernel_rfl) [
    pV (pv k 0),
     pV (aO (b.cells (ae pm lm cm) (ae pn ln cn) (ae pk lk ck))),
     pV (aO a.cells),
     pV (ae pZ pl.length qj),
     pV (ah ag (bG pl)),
     pV (ah ag bd),
     pV (aG r)]
     (fun w9=>az (wr.alloc (au a.cells 134)).heap.size (wr.alloc (au a.cells 134)) w9) [(1,ae pZ pl.length qj),(6,pv k 0),(10,pv wr.heap.size 0)] (by kernel_rfl) ?rst (fun w1 w2 h hb=>h.trans (hb.mono h.size)) ((aw _ _).drew) ⟨rfl,rfl,rfl,trivial⟩ ?reach ?rfin
    case rst=>
     refine⟨sV,sV,sV,sV,sV,sV,sV,trivial⟩
    case reach=>
     refine⟨?_,?_,?_,?_,?_,?_,?_,trivial⟩<;>rintro ev w1 hS hc hg hf ⟨b1,b6,T2,-⟩ hd
     ·clear hd;exact tV
     ·have d0:ev (aK 28)=_:=hd.1 rfl;clear hd;have q:=FW.out w1 hS;obtain⟨x0,x1,x2,x3,x4,x5,x6,x7,x8,x9,nS,nR,oO,n4,oK,x15⟩:=jo q.1;exact tV
     ·clear hd;have q:=FW.out w1 hS;obtain⟨y0,y1,y2,y3⟩:=pQ q.2.1;exact tV
     ·clear hd;exact tV
     ·have d3:ev (aK 31)=_:=hd.1 rfl;clear hd;have q:=FW.out w1 hS;refine yq (args:=#[ae pZ pl.length qj]) (kV pl WL.out _ _ q.2.2) ?_ fun _=>rfl;go_simp
     ·have d1:ev (aK 29)=_:=hd.1 rfl;have d2:ev (aK 30)=_:=hd.2.1 rfl;have d4:ev (aK 32)=_:=hd.2.2.1 rfl;clear hd;refine yc (HBa.out w1) ?_ fun _=>rfl;go_simp
     ·have d5:ev (aK 33)=_:=hd.1 rfl;clear hd;exact tV
    case rfin=>
     intro a3 w3 hR;have hS:=hR.s;have e6:a3.tmps.getD 34 af=_:=hR.val 6 (by decide);have ha:=hR.lits 46 rfl;simp only[aU,bT,nt] at ha;rw[hR.kp 0 (by kernel_rfl),hR.kp 1 (by kernel_rfl),hR.kp 2 (by kernel_rfl),hR.kp 3 (by kernel_rfl),hR.kp 4 (by kernel_rfl),hR.kp 5 (by kernel_rfl),hR.kp 6 (by kernel_rfl),hR.kp 7 (by kernel_rfl),hR.kp 8 (by kernel_rfl),hR.kp 9 (by kernel_rfl),hR.kp 11 (by kernel_rfl),hR.kp 12 (by kernel_rfl),hR.kp 13 (by kernel_rfl),hR.kp 14 (by kernel_rfl),hR.kp 15 (by kernel_rfl),hR.kp 16 (by kernel_rfl),hR.kp 17 (by kernel_rfl),hR.kp 18 (by kernel_rfl),hR.kp 19 (by kernel_rfl),hR.kp 20 (by kernel_rfl),hR.kp 21 (by kernel_rfl),hR.kp 22 (by kernel_rfl),hR.kp 23 (by kernel_rfl),hR.kp 24 (by kernel_rfl),hR.kp 38 (by kernel_rfl),hR.kp 39 (by kernel_rfl),hR.kp 40 (by kernel_rfl),hR.kp 41 (by kernel_rfl),hR.kp 42 (by kernel_rfl),hR.kp 43 (by kernel_rfl),hR.kp 44 (by kernel_rfl),hR.kp 45 (by kernel_rfl)] at ha;simp only[ku,fT,fS] at ha;clear hR;rw[e6] at ha;generalize a3.tmps.getD=zz at ha;have o9:=ai hS;clear e6 hS;subst ha;have hwr:az w2.heap.size wr w3:=((aw _ wr).alloc hsz _).trans (o9.out.mono (by simp;omega));have Z9:=ai hwr;clear hwr;generalize hc0:List.countP (fun a=>decide (b.bad (b.cM+a.used) (bG pl)=0)) (List.take j all)=cn0 at *;have HC0:=ai hc0;clear hc0;cases r
     ·go_wp2;go_roundw
      case rel=>
       refine⟨j+1,by omega,by simp,?_,wS.out.trans Z9.out⟩;rw[LC.out,if_neg (by intro h;rw[h] at hr;cases hr)];simp
      case measure=>simp[intOf];omega
     ·go_wp2;go_roundw
      case rel=>
       refine⟨j+1,by omega,by simp,?_,wS.out.trans Z9.out⟩;rw[LC.out,if_pos (by simpa using hr)];simp
      case measure=>simp[intOf];omega
   ·obtain rfl:j=L:=by omega
    have MI:all.take j=all:=cQ (by rw[HL.out];exact ax _);have hgn:(all.take j).countP (fun a=>decide (b.bad (b.cM+a.used) (bG pl)=0))=KF b all (bG pl):=by rw[MI];rfl
    obtain⟨gn,D9⟩:∃gn,KF b all (bG pl)=gn:=⟨_,rfl⟩
    rw[hgn,D9] at hcj;rw[hgn,D9];have HGn:=ai D9;clear D9;have wS:=ai eh;have z15:=aH ((eh.block _ xu).trans HK.out) 15 _ rfl;clear hgn MI eh;have ru:az w.heap.size w wr:=EZ.out.trans (wS.out.mono EZ.out.size);have Uk:=ai ru;clear ru
    by_cases h0:gn=0
    ·subst h0;have HQ:Hid (pq 0 j=2):=ai (by simp[pq]);go_wp2;go_ret2;exact⟨by rw[HGn.out,HL.out,HQ.out];rfl,Uk.out⟩
    ·have g0:((gn:Int)==0)=false:=by simp;omega
     by_cases h1:gn=j
     ·subst h1;have HQ:Hid (pq gn gn=1):=ai (by simp[pq,h0]);go_wp2;go_ret2;exact⟨by rw[HGn.out,HL.out,HQ.out];rfl,Uk.out⟩
     ·have g1:((gn:Int)==(j:Int))=false:=by simp;omega
      have HQ:Hid (pq gn j=0):=ai (by simp[pq,h0,h1]);go_wp2;go_ret2;exact⟨by rw[HGn.out,HL.out,HQ.out];rfl,Uk.out⟩
theorem Gq(ok:eA→Bool)(cS:∀a,ok a=true):∀(r:List Mn) (lH:Nat) (a:eA),(∀m∈r,m.lo≤m.hi)→leaves ok r lH a≠[]
 |[],lH,a,_=>by simp[leaves,cS]
 |m::r,lH,a,h=>by
  have h1:=h m (by simp);have hm:m.lo∈fM m.lo m.hi:=List.mem_map.2 ⟨0,bB.2 (by omega),by simp⟩;unfold leaves;intro he;rw[List.flatMap_eq_nil_iff] at he;exact Gq ok cS r (lH+1) _ (fun x hx=>h x (by simp[hx])) (he m.lo hm)
theorem FL{b:BB}(hb:b.Ok){ml:List Mn}(hm:wQ ml)(ss:List Int):bn b ml ss []≠[]:=by
 have h1:=hb.leak;have hmm:b.ll∈fM b.ll b.lm:=List.mem_map.2 ⟨0,bB.2 (by omega),by simp⟩;unfold bn;intro he;rw[List.flatMap_eq_nil_iff] at he;exact Gq _ (fun _=>rfl) ml 0 _ (fun m h=>by have:=hm.mem m h;omega) (he b.ll hmm)
end Go.Proofs.YtffladgmkiimjaaGreatDoor
namespace Go.Proofs.YtffladgmkiimjaaGreatDoor
open Go.RowKit Go.Lag
open Go.Conc
def XQ(lt:Nat→Nat→Bool)(acc:List Nat)(W:ar)(v:aj)(W':ar):Prop:=
 ∃(x:Nat) (r:List Nat) (lv:aj),(x::r).Perm acc∧v=cD #[lv,aG true,ah ag 0]∧Reads W' lv (gH (jA lt x r)).length ((gH (jA lt x r)).map (aD ag))∧Old W W'
noncomputable def RR:Code:=sR (sR (sR (sR (match Tryz.f95.body with|some c=>c|_=>.skip))))
theorem Dp{W W':ar}{v:aj}{n:Nat}{xs:List aj}(h:Reads W v n xs)(hb:az W.heap.size W W'):Reads W' v n xs:=h.below hb
theorem RV(g:FuncId)(lt:Nat→Nat→Bool)(KC:∀(first:Nat),first<512→∀(more:List Nat),(∀x∈more,x<512)→∀(v:aj) (w:ar),Reads w v more.length (more.map fun(p:Nat)=>aD ag (p:Int))→
   bm aq 160 #[.func (.func g) #[] #[],ah ag first,v] w fun e w'=>e=aF (ah ag (jA lt first more:Nat))∧az w.heap.size w w')
  (x:Nat) (r:List Nat) (hx:x<512) (hr:∀y∈r,y<512) (out:aj) (W:ar) (ho:Reads W out (x::r).length (ints (x::r))) (acc:List Nat) (hp:(x::r).Perm acc) (W0:ar) (hold:Old W0 W)
  (t0 t2 t7 t8 t10 t11 t12 t13 t14 t15 t16 t17 t18 t19:aj) :
  RR.wp aq (bodyPost aq Tryz.f95 fun e w'=>∃v,e=aF v∧XQ lt acc W0 v w')
   ⟨#[t0,.func (.func g) #[] #[],t2,af,ae none 0 0,aG false,ah ag 0,t7,t8,out,t10,t11,t12,t13,t14,t15,t16,t17,t18,t19,af,af,af,af,af,af,af,af,af,af,af],[]⟩ W:=by
 obtain⟨go,oo,cap,rfl,hlen,hgo,hcell⟩:∃go oo cap,out=ae (some ⟨go,oo,none⟩) (r.length+1) cap∧(r.length+1≤4294967296∧r.length+1≤cap)∧go<W.heap.size∧∀j u,(ints (x::r))[j]?=some u→W.cell? ⟨go,oo+j,none⟩=some u:=by
  rcases ho with⟨_,h,_⟩|h
  ·simp at h
  ·exact h
 have HC0:Hid (∀w,az W.heap.size W w→w.cell? ⟨go,oo,none⟩=some (ah ag x)):=ai fun w hb=>(hb.cell (p:=⟨go,oo,none⟩) hgo).trans (hcell 0 _ (by simp[ints]))
 have Ug:Hid (∀w,az W.heap.size W w→Reads w (ae (if cap=1 then some ⟨go,oo,none⟩ else some ⟨go,oo+1,none⟩) r.length (cap-1)) r.length (r.map fun(p:Nat)=>aD ag (p:Int))):=ai fun w hb=>
  if h1:cap=1 then by
   have h0:r=[]:=List.eq_nil_of_length_eq_zero (by omega);subst h0;rw[if_pos h1];exact .inr ⟨go,oo,cap-1,rfl,⟨by simp,by simp⟩,bz hgo hb.size,fun j u hj=>by simp at hj⟩
  else by
  rw[if_neg h1]
  exact .inr ⟨go,oo+1,cap-1,rfl,by omega,bz hgo hb.size,fun j u hj=>(hb.cell (p:=⟨go,_,none⟩) hgo).trans (by
   have:=hcell (j+1) u (by simpa [ints] using hj)
   rwa [show oo+(j+1)=oo+1+j by omega] at this)⟩
 have HBe:=ai KC;have HHx:=ai hr;have HPm:=ai hp;have HOl:=ai hold;clear KC hr hp hold hcell ho;generalize hM:r.length=M at *;have HM:=ai hM;clear hM;have hbl:jA lt x r<512:=zE lt r x hx HHx.out;have l1:((M:Int)+1==0)=false:=by simp;omega
 have l2:(1:Int)≤(M:Int)+1:=by omega
 simp only[RR,sR,Tryz.f95];go_wp2
 refine bQ (by kernel_rfl) [
 pV (.func (.func g) #[] #[]),
  pV (ae (some ⟨go,oo,none⟩) (M+1) cap),
  pV (pv go oo),
  pV (ah ag x),
  pV (ae (some ⟨go,oo,none⟩) (M+1) cap),
  pV ((ae (if cap=1 then some ⟨go,oo,none⟩ else some ⟨go,oo+1,none⟩) M (cap-1))),
  pV (ah ag (jA lt x r:Nat)),
  fun v ds w9=>Reads w9 v (gH (jA lt x r)).length ((gH (jA lt x r)).map (aD ag)),
  fun v ds w9=>Reads w9 v (gH (jA lt x r)).length ((gH (jA lt x r)).map (aD ag)),
  pV (aG true),
  pV (ah ag 0)]
  (fun w=>az W.heap.size W w) [(1,.func (.func g) #[] #[]),(9,ae (some ⟨go,oo,none⟩) (M+1) cap)] (by kernel_rfl) ?rst (fun w1 w2 h hb=>h.trans (hb.mono h.size)) ((aw _ _).drew) ⟨rfl,rfl,trivial⟩ ?reach ?rfin
 case rst=>
  refine⟨sV,sV,sV,sV,sV,sV,sV,?_,?_,sV,sV,trivial⟩
  ·rintro v ds w1 w2 hS h hb;exact Dp h hb
  ·rintro v ds w1 w2 hS h hb;exact Dp h hb
 case reach=>
  refine⟨?_,?_,?_,?_,?_,?_,?_,?_,?_,?_,?_,trivial⟩<;>rintro ev w1 hS hc hg hf ⟨b1,b9,-⟩ hd
  ·clear hd;exact tV
  ·clear hd;exact tV
  ·have d1:ev (aK 24)=_:=hd.1 rfl;clear hd;exact tV
  ·have d2:ev (aK 25)=_:=hd.1 rfl;clear hd;have z:=HC0.out w1 hS;exact tV
  ·clear hd;exact tV
  ·have d4:ev (aK 27)=_:=hd.1 rfl;clear hd;exact tV
  ·have d0:ev (aK 23)=_:=hd.1 rfl;have d3:ev (aK 26)=_:=hd.2.1 rfl;have d5:ev (aK 28)=_:=hd.2.2.1 rfl;clear hd;refine yc (args:=#[.func (.func g) #[] #[],ah ag x,(ae (if cap=1 then some ⟨go,oo,none⟩ else some ⟨go,oo+1,none⟩) M (cap-1))]) (HBe.out x hx r HHx.out _ _ (by have:=Ug.out w1 hS;rw[←HM.out] at this;rw[←HM.out];exact this)) ?_ fun _=>rfl;go_simp
  ·have d6:ev (aK 29)=_:=hd.1 rfl;clear hd;refine Lag.Yields.call (f:=99) (args:=#[ah ag (jA lt x r:Nat)]) ?_ (rX _ hbl _) ?_
   ·go_simp
   ·rintro e w2 ⟨v,rfl,h1,hb⟩;exact⟨_,rfl,h1,.inl hb⟩
  ·exact yv rfl (hd.1 rfl)
  ·clear hd;exact tV
  ·clear hd;exact tV
 case rfin=>
  intro a2 w2 hR;have hS:=hR.s;have e8:Reads w2 (a2.tmps.getD 4 af) (gH (jA lt x r)).length ((gH (jA lt x r)).map (aD ag)):=hR.val 8 (by decide);have e9:a2.tmps.getD 5 af=_:=hR.val 9 (by decide);have M9:a2.tmps.getD 6 af=_:=hR.val 10 (by decide);have ha:=hR.lits 31 rfl;simp only[aU,bT,nt] at ha;clear hR;rw[e9,M9] at ha;generalize a2.tmps.getD 4 af=lv at *;generalize a2.tmps.getD=zz at ha;have ahd:Hid (Old W w2):=ai (Old.of_below hS);have HE8:=ai e8;clear e8 e9 M9 hS;subst ha;go_wp2
  go_ret3
  exact⟨_,rfl,x,r,lv,HPm.out,rfl,HE8.out,HOl.out.trans ahd.out⟩
theorem nB{P:aI}(T:Quiet P){x y:Code}{Q:Exit→Act→ar→Prop}{a:Act}{W:ar}(hf:∀e a w,Q e a w→si e=true)(Q1:Act→ar→Prop)(hx:∀τ d,x.wp P (fun e a w=>e=.normal∧Q1 a w) a (dr W τ d))(hy:∀a w,Q1 a w→mP P y Q a w):mP P (.seq x y) Q a W:=
 Pa T (fun e a w _ h=>hf e a w h) fun τ d=>wp_mono (hx τ d) (by rintro e a w ⟨rfl,h⟩;exact hy a w h)
theorem vG{W W':ar}{τ:Nat→dA→Nat}{d:Nat}(h:Old W (dr W' τ d)):Old W W':=⟨h.os,h.output,h.size,h.block⟩
theorem DF{W W':ar}{τ:Nat→dA→Nat}{d:Nat}(h:Old (dr W τ d) W'):Old W W':=⟨h.os,h.output,h.size,h.block⟩
theorem mU{W W':ar}(τ:Nat→dA→Nat)(d:Nat)(h:Old W W'):Old W (dr W' τ d):=⟨h.os,h.output,h.size,h.block⟩
theorem Bx(b:BB)(men sent marks:aj)(w:ar):bm aq 122 #[aO (b.cells men sent marks)] w fun e w'=>e=aF (ah ag 0)∧az w.heap.size w w':=by
 go_enter Tryz.func122,Tryz.ntmps122
 go_wp2
 go_ret
 exact⟨rfl,(aw _ _).alloc (ax _) _⟩
structure Pk0(W:ar)(B:Nat)(cs:Array aj)(T:TypeId)(w:ar):Prop where
 old:Old W w
 blk:w.heap[B]?=some (au cs T (0,0))
structure Pk1(W:ar)(b:BB)(men sent marks:aj)(all:List eA)(B7:Nat)(v:aj)(w:ar):Prop where
 old:Old W w
 blk:w.heap[B7]?=some (au (b.open men sent marks v) 122 (0,0))
 own:gJ w W.heap.size v all
section
variable{b:BB}{men sent marks:aj}{ml:List Mn}{ss:List Int}{ms:List Mk}{W:ar}
theorem RX(g:FuncId)(lt:Nat→Nat→Bool)(hL:Laid W)(hB:cH b men sent marks ml ss ms W)(p1:Plain W men)(p2:Plain W sent)(p3:Plain W marks)(hne:bn b ml ss ms≠[])
  (xA:jS b (dp ss ms).toNat (bG ss) (bn b ml ss ms) 512≠[]) (hlt:∀x∈jS b (dp ss ms).toNat (bG ss) (bn b ml ss ms) 512,x<512)
  (KC:∀(first:Nat),first<512→∀(more:List Nat),(∀x∈more,x<512)→∀(v:aj) (w:ar),Reads w v more.length (more.map fun(p:Nat)=>aD ag (p:Int))→
   bm aq 160 #[.func (.func g) #[] #[],ah ag first,v] w fun e w'=>e=aF (ah ag (jA lt first more:Nat))∧az w.heap.size w w') :
  iQ aq 95 #[aO (b.cells men sent marks),.func (.func g) #[] #[]] W (XQ lt (jS b (dp ss ms).toNat (bG ss) (bn b ml ss ms) 512) W):=by
 refine kD quiet Tryz.func95 rfl ?hR ?body
 case hR=>
  rintro v W' τ d ⟨x,r,lv,h1,h2,h3,h4⟩;exact⟨x,r,lv,h1,h2,h3,vG h4⟩
 simp only[Tryz.ntmps95,jv,je,nY,Cu,Ct,jW,jV,jw,gY,j5,ie];refine nB quiet a8 (fun a w=>a=⟨#[aO (b.cells men sent marks),.func (.func g) #[] #[],pv W.heap.size 0,af,ae none 0 0,aG false,ah ag 0,af,af,af,af,af,af,af,af,af,af,af,af,af,af,af,af,af,af,af,af,af,af,af,af],[]⟩∧Pk0 W W.heap.size (b.cells men sent marks) 28 w) (fun τ d=>?_) ?_
 ·go_wp2;exact⟨DF (pI _ _),ay (dr W τ d) _⟩
 rintro a W1 ⟨rfl,⟨o1,x1⟩⟩;have kg:0<(bn b ml ss ms).length:=cX.2 hne;refine nB quiet a8 (fun a w=>∃(B7:Nat) (v t10 t11 t12 t13 t14:aj),a=⟨#[aO (b.cells men sent marks),.func (.func g) #[] #[],pv W.heap.size 0,af,ae none 0 0,aG false,ah ag 0,pv B7 0,ah ag 0,af,t10,t11,t12,t13,t14,af,af,af,af,af,af,af,af,af,af,af,af,af,af,af,af],[]⟩∧Pk1 W b men sent marks (bn b ml ss ms) B7 v w) (fun τ d=>?_) ?_
 ·have o1':Old W (dr W1 τ d):=mU τ d o1;obtain⟨c0,c1,c2,c3,c4,c5,c6,c7,c8,c9,c10,c11,c12,c13,c14⟩:=bM (w:=dr W1 τ d) x1;have HO:=ai (yI b men sent marks ml ss ms (dr W1 τ d) (hL.old o1') (hB.old o1') hne (fun W' _=>Bx b men sent marks W'));have HO1:=ai o1';obtain⟨pm,cm,rfl,_⟩:=aR hB.rm;obtain⟨pn,cn,rfl,_⟩:=aR hB.rs;obtain⟨pk,ck,rfl,_⟩:=aR hB.rk;clear hL hB p1 p2 p3 hne xA hlt KC o1 o1' x1;generalize bn b ml ss ms=all at *;generalize ml.length=lm at *;generalize ss.length=ln at *;generalize ms.length=lk at *;generalize hW1:dr W1 τ d=W2 at *
  go_wp2_with (first
   |(go_at_call 103;refine HO.out.mono ?_;clear HO;rintro e w3 ⟨v,rfl,iU,hb3⟩
     obtain⟨gv,oF,rfl⟩:∃gv oF,v=ae (some ⟨gv,0,none⟩) all.length oF:=by
      rcases iU.1.2 with⟨_,h0⟩|⟨g,cap,cur,rfl,_⟩
      ·omega
      ·exact⟨g,cap,rfl⟩
     have LB:=ai iU;have o9:=ai hb3;clear iU hb3))
  have o3:Old W w3:=HO1.out.trans (Old.of_below o9.out);exact⟨_,o3.trans (pI _ _),ay w3 _,(LB.out.base HO1.out.size).old (pI _ _)⟩
 rintro a W2 ⟨B7,v,t10,t11,t12,t13,t14,rfl,⟨o2,x2,iU⟩⟩;refine nB quiet a8 (fun a w=>a=⟨#[aO (b.cells men sent marks),.func (.func g) #[] #[],pv W.heap.size 0,af,ae none 0 0,aG false,ah ag 0,pv B7 0,ah ag 0,af,t10,t11,t12,t13,t14,ah ag 0,aG false,af,af,af,af,af,af,af,af,af,af,af,af,af,af],[]⟩∧Pk1 W b men sent marks (bn b ml ss ms) B7 v w) (fun τ d=>?_) ?_
 ·go_wp2;exact⟨mU _ _ o2,x2,iU⟩
 rintro a W3 ⟨rfl,⟨o3,x3,afd⟩⟩;clear o2 x2 iU;refine jC quiet (sJ quiet ?_);refine fQ (i:=0) (rest:=[1,2]) quiet rfl rfl fun τ d=>?_;refine wp_load_row 122 (aK 7) rfl B7 rfl 122 _ (0,0) _ (w:=dr W3 τ d) x3 Tryz.underlying122 rfl (by kernel_rfl) ?_;have OH:=hB.old (mU τ d o3);have ab1:gJ (dr W3 τ d) W.heap.size v (bn b ml ss ms):=afd;have hW1:1≤W.heap.size:=hL.lt;obtain⟨Y,hG⟩:=V6 (all:=v) (l:=bn b ml ss ms) OH (nO hB.ok hB.gV) (p1.old (mU τ d o3)) (p2.old (mU τ d o3)) (p3.old (mU τ d o3)) (PO ab1 hW1) (ab1.reads (by have:=jq ss ms hB.ok hB.gV;omega)) (Nat.le_trans hW1 o3.size);refine qG (i:=1) (rest:=[2]) quiet rfl rfl (f:=159) (args:=#[aO (b.open men sent marks v)]) (fun w=>by kernel_rfl) (Zv hG) ?_;rintro out W4 _ ⟨kq,hr,hperm,ho4⟩;have o4:Old W W4:=(mU τ d o3).trans ho4;refine fQ (i:=2) (rest:=[]) quiet rfl rfl fun τ1 d1=>?_;show en aq _ _ [] _ _
 have afg:kq≠[]:=by
  rintro rfl;exact xA hperm.symm.eq_nil
 obtain⟨x,r,rfl⟩:∃x r,kq=x::r:=by
  cases kq with
  |nil=>exact(afg rfl).elim
  |cons x r=>exact⟨x,r,rfl⟩
 have hx:=hlt x (hperm.subset (by simp));have hr2:∀y∈r,y<512:=fun y hy=>hlt y (hperm.subset (by simp[hy]));refine qF (l:=[]) quiet (fun e a w h=>by cases e<;>first|rfl|exact(h:False).elim) fun τ2 d2=>?_;refine ko quiet a8 fun τ3 d3=>xh ?_;have hend:=RV g lt KC x r hx hr2 out (dr (dr (dr W4 τ1 d1) τ2 d2) τ3 d3) hr _ hperm W ⟨o4.os,o4.output,o4.size,o4.block⟩ (aO (b.cells men sent marks)) (pv W.heap.size 0) (pv B7 0) (ah ag 0) t10 t11 t12 t13 t14 (ah ag 0) (aG false) af (aO (b.open men sent marks v)) out;exact hend
end
def O3(p:Nat)(W:ar)(v:aj)(W':ar):Prop:=
 ∃lv:aj,v=cD #[lv,aG true,ah ag 0]∧Reads W' lv (gH p).length ((gH p).map (aD ag))∧Old W W'
theorem TA{b:BB}{men sent marks:aj}{ml:List Mn}{ss:List Int}{ms:List Mk}{W:ar}(hL:Laid W)(hB:cH b men sent marks ml ss ms W)(p1:Plain W men)(p2:Plain W sent)(p3:Plain W marks)(hne:bn b ml ss ms≠[])
  (xA:jS b (dp ss ms).toNat (bG ss) (bn b ml ss ms) 512≠[]) (hlt:∀x∈jS b (dp ss ms).toNat (bG ss) (bn b ml ss ms) 512,x<512) (p:Nat)
  (hp:∀x r,(x::r).Perm (jS b (dp ss ms).toNat (bG ss) (bn b ml ss ms) 512)→jA rZ x r=p):iQ aq 20 #[aO (b.cells men sent marks)] W (O3 p W):=by
 refine kD quiet Tryz.func20 rfl ?hR ?body
 case hR=>
  rintro v W' τ d ⟨lv,h1,h2,h3⟩;exact⟨lv,h1,h2,vG h3⟩
 simp only[Tryz.ntmps20,jv,je,nY,Cu,Ct,jW,jV,jw,gY,j5,ie];refine nB quiet a8 (fun a w=>a=⟨#[aO (b.cells men sent marks),pv W.heap.size 0,ae none 0 0,aG false,ah ag 0,af,af,af,af,af],[]⟩∧Pk0 W W.heap.size (b.cells men sent marks) 28 w) (fun τ d=>?_) ?_
 ·go_wp2;exact⟨DF (pI _ _),ay (dr W τ d) _⟩
 rintro a W1 ⟨rfl,⟨o1,x1⟩⟩;refine jC quiet (sJ quiet ?_);refine fQ (i:=0) (rest:=[1,2,3,4,5,6,7]) quiet rfl rfl fun τ d=>?_;refine wp_load_row 28 (aK 1) rfl W.heap.size rfl 28 _ (0,0) _ (w:=dr W1 τ d) x1 cB rfl (by kernel_rfl) ?_;have o2:Old W (dr W1 τ d):=mU τ d o1;have Rh:=RX (W:=dr W1 τ d) 96 rZ (hL.old o2) (hB.old o2) (p1.old o2) (p2.old o2) (p3.old o2) hne xA hlt QT;refine qG (i:=1) (rest:=[2,3,4,5,6,7]) quiet rfl rfl (f:=95) (args:=#[aO (b.cells men sent marks),.func (.func 96) #[] #[]]) (fun w=>by kernel_rfl) Rh ?_;rintro out W3 _ ⟨x,r,lv,hperm,rfl,BH,o3⟩;rw[hp x r hperm] at BH;have o4:=o2.trans o3;refine fQ (i:=2) (rest:=[3,4,5,6,7]) quiet rfl rfl fun τ2 d2=>?_;show en aq _ _ [3,4,5,6,7] _ _;refine fQ (i:=3) (rest:=[4,5,6,7]) quiet rfl rfl fun τ3 d3=>?_;show en aq _ _ [4,5,6,7] _ _;refine fQ (i:=4) (rest:=[5,6,7]) quiet rfl rfl fun τ4 d4=>?_;show en aq _ _ [5,6,7] _ _;refine fQ (i:=5) (rest:=[6,7]) quiet rfl rfl fun τ5 d5=>?_;show en aq _ _ [6,7] _ _;refine fQ (i:=6) (rest:=[7]) quiet rfl rfl fun τ6 d6=>?_;show en aq _ _ [7] _ _;refine fQ (i:=7) (rest:=[]) quiet rfl rfl fun τ7 d7=>?_;show en aq _ _ [] _ _;refine qF (l:=[]) quiet (fun e a w h=>by cases e<;>first|rfl|exact(h:False).elim) fun τ8 d8=>?_;refine ko quiet a8 fun τ9 d9=>xh ?_;refine wp_ret ?_;refine bg (results_tmp3 rfl _ _ _) rfl ⟨_,rfl,lv,?_,BH,⟨o4.os,o4.output,o4.size,o4.block⟩⟩
 kernel_rfl
theorem SG{b:BB}{men sent marks:aj}{ml:List Mn}{ss:List Int}{ms:List Mk}{W:ar}(hL:Laid W)(hB:cH b men sent marks ml ss ms W)(p1:Plain W men)(p2:Plain W sent)(p3:Plain W marks)(hne:bn b ml ss ms≠[])
  (xA:jS b (dp ss ms).toNat (bG ss) (bn b ml ss ms) 512≠[]) (hlt:∀x∈jS b (dp ss ms).toNat (bG ss) (bn b ml ss ms) 512,x<512) (p:Nat)
  (hp:∀x r,(x::r).Perm (jS b (dp ss ms).toNat (bG ss) (bn b ml ss ms) 512)→jA rY x r=p):iQ aq 23 #[aO (b.cells men sent marks)] W (O3 p W):=by
 refine kD quiet Tryz.func23 rfl ?hR ?body
 case hR=>
  rintro v W' τ d ⟨lv,h1,h2,h3⟩;exact⟨lv,h1,h2,vG h3⟩
 simp only[Tryz.ntmps23,jv,je,nY,Cu,Ct,jW,jV,jw,gY,j5,ie];refine nB quiet a8 (fun a w=>a=⟨#[aO (b.cells men sent marks),pv W.heap.size 0,ae none 0 0,aG false,ah ag 0,af,af,af,af,af],[]⟩∧Pk0 W W.heap.size (b.cells men sent marks) 28 w) (fun τ d=>?_) ?_
 ·go_wp2;exact⟨DF (pI _ _),ay (dr W τ d) _⟩
 rintro a W1 ⟨rfl,⟨o1,x1⟩⟩;refine jC quiet (sJ quiet ?_);refine fQ (i:=0) (rest:=[1,2,3,4,5,6,7]) quiet rfl rfl fun τ d=>?_;refine wp_load_row 28 (aK 1) rfl W.heap.size rfl 28 _ (0,0) _ (w:=dr W1 τ d) x1 cB rfl (by kernel_rfl) ?_;have o2:Old W (dr W1 τ d):=mU τ d o1;have Rh:=RX (W:=dr W1 τ d) 102 rY (hL.old o2) (hB.old o2) (p1.old o2) (p2.old o2) (p3.old o2) hne xA hlt QS;refine qG (i:=1) (rest:=[2,3,4,5,6,7]) quiet rfl rfl (f:=95) (args:=#[aO (b.cells men sent marks),.func (.func 102) #[] #[]]) (fun w=>by kernel_rfl) Rh ?_;rintro out W3 _ ⟨x,r,lv,hperm,rfl,BH,o3⟩;rw[hp x r hperm] at BH;have o4:=o2.trans o3;refine fQ (i:=2) (rest:=[3,4,5,6,7]) quiet rfl rfl fun τ2 d2=>?_;show en aq _ _ [3,4,5,6,7] _ _;refine fQ (i:=3) (rest:=[4,5,6,7]) quiet rfl rfl fun τ3 d3=>?_;show en aq _ _ [4,5,6,7] _ _;refine fQ (i:=4) (rest:=[5,6,7]) quiet rfl rfl fun τ4 d4=>?_;show en aq _ _ [5,6,7] _ _;refine fQ (i:=5) (rest:=[6,7]) quiet rfl rfl fun τ5 d5=>?_;show en aq _ _ [6,7] _ _;refine fQ (i:=6) (rest:=[7]) quiet rfl rfl fun τ6 d6=>?_;show en aq _ _ [7] _ _;refine fQ (i:=7) (rest:=[]) quiet rfl rfl fun τ7 d7=>?_;show en aq _ _ [] _ _;refine qF (l:=[]) quiet (fun e a w h=>by cases e<;>first|rfl|exact(h:False).elim) fun τ8 d8=>?_;refine ko quiet a8 fun τ9 d9=>xh ?_;refine wp_ret ?_;refine bg (results_tmp3 rfl _ _ _) rfl ⟨_,rfl,lv,?_,BH,⟨o4.os,o4.output,o4.size,o4.block⟩⟩
 kernel_rfl
end Go.Proofs.YtffladgmkiimjaaGreatDoor
namespace Go.Proofs.YtffladgmkiimjaaGreatDoor
open Go.RowKit Go.Lag
theorem CZ(a b:Int)(w:ar):bm aq 94 #[ah ag a,ah ag b] w fun e w'=>e=aF (aO #[ah ag a,ah ag b])∧az w.heap.size w w':=by
 go_enter Tryz.func94,Tryz.ntmps94
 go_wp2;exact bg (results_cell_row rfl _ _ w.heap.size 23 #[ah ag a,ah ag b] (0,0) _ rfl (ay w _) AZ rfl (by kernel_rfl)) rfl ⟨rfl,(aw _ _).alloc (ax _) _⟩
theorem CC(a:Int)(w:ar):bm aq 86 #[ah ag a] w fun e w'=>e=aF (aO #[ah ag a,ah ag a])∧az w.heap.size w w':=by
 go_enter Tryz.func86,Tryz.ntmps86
 go_wp2_with (first
  |(go_at_call 94;refine(CZ a a _).mono ?_;rintro e w1 ⟨rfl,hb1⟩
    have hz:=(hb1.block w.heap.size (by simp)).trans (ay w (au #[ah ag 0,ah ag 0] 23));have HZ:=ai hz;have yg:=ai hb1
    clear hz hb1)
  |(refine wpList_store_row rfl 23 _ _ rfl _ _ rfl rfl 23 _ HZ.out (by kernel_rfl) rfl (by simp[cj]) ?_))
 exact bg (results_cell_row rfl _ _ w.heap.size 23 #[ah ag a,ah ag a] (0,0) _ rfl (cV HZ.out) AZ rfl (by kernel_rfl)) rfl ⟨rfl,dv (((aw _ _).alloc (ax _) _).trans (yg.out.mono (by simp))) (ax _)⟩
abbrev Sn:Array Value:=#[ah ag 0,ah ag 0,ah ag 0,ah ag 0,ah ag 0,ah ag 0,ah ag 0,ah ag 0,ah ag 0,ah ag 0,ah ag 0,ah ag 0,ae none 0 0,ae none 0 0,ae none 0 0]
def ex:BB:=⟨30,33,9,5,2,20,2,3,0,1,1,2⟩
def jQ:List Mn:=[⟨⟨#[97,110,110]⟩,3,4⟩,⟨⟨#[98,111]⟩,4,4⟩]
theorem KR(w:ar):bm aq 93 #[] w fun e w'=>∃g c,e=aF (aO (ex.cells (ae (some ⟨g,0,none⟩) 2 c) (ae none 0 0) (ae none 0 0)))∧Reads w' (ae (some ⟨g,0,none⟩) 2 c) 2 (fF jQ)∧w'.heap[g]?=some (au (fF jQ).toArray 79 (0,0))∧w.heap.size≤g∧az w.heap.size w w':=by
 have b0:az w.heap.size w (w.alloc (au Sn 28)):=(aw _ _).alloc (ax _) _;have h0:=ay w (au Sn 28);have Jq:=ai b0;have HH0:=ai h0;clear b0 h0
 go_enter Tryz.func93,Tryz.ntmps93
 go_wp2_with fail
 refine(CZ _ _ _).mono ?_;rintro e w1 ⟨rfl,hb1⟩;have H1:=ai hb1;clear hb1
 go_wp2_with fail
 refine(CZ _ _ _).mono ?_;rintro e w2 ⟨rfl,hb2⟩;have H2:=ai hb2;clear hb2
 go_wp2_with fail
 refine(CZ _ _ _).mono ?_;rintro e w3 ⟨rfl,hb3⟩;have H3:=ai hb3;clear hb3
 go_wp2_with fail
 refine(CC _ _).mono ?_;rintro e w4 ⟨rfl,hb4⟩
 have hb:az (w.heap.size+1) (w.alloc (au Sn 28)) w4:=by
  have h1:=H1.out;have h2:=H2.out;have h3:=H3.out;have s1:=h1.size;have s2:=h2.size;have s3:=h3.size;simp only[dU] at s1;exact((h1.mono (by simp)).trans (h2.mono (by omega))).trans ((h3.mono (by omega)).trans (hb4.mono (by omega)))
 have hs:=hb.size;simp only[dU] at hs;have hz:=(Below.heap_alloc w4 (au (fF jQ).toArray 79) w.heap.size (by omega)).trans ((hb.block w.heap.size (by omega)).trans HH0.out);have HZ:=ai hz;have HW:Hid (az w.heap.size w w4):=ai (Jq.out.trans (hb.mono (by omega)));clear hb hz hb4
 go_wp2_with (refine wpList_store_row rfl 28 _ _ rfl _ _ rfl rfl 28 _ HZ.out (by kernel_rfl) rfl (by simp[cj]) ?_)
 have hg:((w4.alloc (au (fF jQ).toArray 79)).setRow w.heap.size (ex.cells (ae (some ⟨w4.heap.size,0,none⟩) 2 2) (ae none 0 0) (ae none 0 0))).heap[w4.heap.size]?=some (au (fF jQ).toArray 79 (0,0)):=(setRow_other (by omega)).trans (ay w4 _);refine bg (results_cell_row rfl _ _ w.heap.size 28 (ex.cells (ae (some ⟨w4.heap.size,0,none⟩) 2 2) (ae none 0 0) (ae none 0 0)) (0,0) _ rfl (cV HZ.out) cB rfl (by kernel_rfl)) rfl ⟨w4.heap.size,2,rfl,?_,hg,by omega,dv (HW.out.alloc (by omega) _) (ax _)⟩
 exact .inr ⟨w4.heap.size,0,2,rfl,by omega,by rw[setRow_size];simp,fun j u hj=>by
  have:=aH hg j u (by simpa using hj)
  rw[cZ];exact this⟩
def CU(b:BB)(p:Nat)(s:Int × Bool)(a:eA):Int × Bool:=
 if b.bad (b.cM+a.used) p=0 then s else if s.2=false∨b.bad (b.cM+a.used) p<s.1 then(b.bad (b.cM+a.used) p,true) else s
def ud(b:BB)(all:List eA)(p:Nat):Int × Bool:=all.foldl (CU b p) (0,false)
theorem Nv(b:BB)(all:List eA)(p:Nat){j:Nat}(h:j<all.length):ud b (all.take (j+1)) p=CU b p (ud b (all.take j) p) all[j]:=by
 unfold ud;rw[bN h,List.foldl_append];rfl
theorem aam(b:BB)(men sent marks:aj)(ml:List Mn)(ss:List Int)(ms:List Mk)(w:ar)(hL:Laid w)(hB:cH b men sent marks ml ss ms w)(hne:bn b ml ss ms≠[])(pl:List Int)(hp:js b pl)(lv:aj)(hl:Reads w lv pl.length (pl.map (aD ag))) :
  bm aq 63 #[aO (b.cells men sent marks),lv] w fun e w'=>e=aF (cD #[ah ag (ud b (bn b ml ss ms) (bG pl)).1,aG (ud b (bn b ml ss ms) (bG pl)).2,ah ag 0])∧az w.heap.size w w':=by
 have hlen:=jq ss ms hB.ok hB.gV;have kg:0<(bn b ml ss ms).length:=cX.2 hne;have cS:=hB.ok;have hao:=nO (ss:=ss) (ms:=ms) hB.ok hB.gV;have xq:=cS.minutes;have oW:∀s∈pl,1≤s∧s≤8:=fun s h=>by have:=hp.mem s h;omega
 have Qh:bG pl<512:=mS pl oW;obtain⟨pm,cm,rfl,_⟩:=aR hB.rm;obtain⟨pn,cn,rfl,_⟩:=aR hB.rs;obtain⟨pk,ck,rfl,_⟩:=aR hB.rk;obtain⟨pZ,qj,rfl,_⟩:=aR hl;have b1:az w.heap.size w (w.alloc (au (b.cells (ae pm ml.length cm) (ae pn ss.length cn) (ae pk ms.length ck)) 28)):=(aw _ _).alloc (ax _) _;have hk:=ay w (au (b.cells (ae pm ml.length cm) (ae pn ss.length cn) (ae pk ms.length ck)) 28)
 have Uj:Hid (∀W cp,az w.heap.size w W→W.heap[cp]?=some (au #[ae pZ pl.length qj] 25 (0,0))→bm aq 103 #[aO (b.cells (ae pm ml.length cm) (ae pn ss.length cn) (ae pk ms.length ck)),.func (.func 164) #[] #[pv cp 0]] W fun e w'=>∃v,e=aF (cD #[aO (b.open (ae pm ml.length cm) (ae pn ss.length cn) (ae pk ms.length ck) v),ah ag 0])∧gJ w' W.heap.size v (bn b ml ss ms)∧az W.heap.size W w'):=
  ai fun W cp Jo Td=>CB b _ _ _ ml ss ms W (hL.below Jo) (hB.below Jo) hne cp fun W' hb'=>by
   have hlt:=(ak.1 Td).1;exact CS b cS _ _ _ pl hp cp _ W' ((hb'.block _ hlt).trans Td) ((hl.below Jo).below hb')
 have Jp:=ai hl;have Ra:=ai hao;have WL:=ai oW;clear hL hB hl hao hp oW;generalize bn b ml ss ms=all at *;generalize ml.length=lm at *;generalize ss.length=ln at *;generalize ms.length=lk at *
 go_enter Tryz.func63,Tryz.ntmps63
 go_wp2;refine wp_scope_straight ?_;go_wp2
 refine bQ (by kernel_rfl) [
 pV (aO (b.cells (ae pm lm cm) (ae pn ln cn) (ae pk lk ck))),
  pV (ae pZ pl.length qj),
  fun v ds w9=>∃cp,v=.func (.func 164) #[] #[pv cp 0]∧w9.heap[cp]?=some (au #[ae pZ pl.length qj] 25 (0,0)),
  fun v ds w9=>∃gv cv,v=cD #[aO (b.open (ae pm lm cm) (ae pn ln cn) (ae pk lk ck) (ae (some ⟨gv,0,none⟩) all.length cv)),ah ag 0]∧gJ w9 w.heap.size (ae (some ⟨gv,0,none⟩) all.length cv) all,
  fun v ds w9=>∃gv cv,v=cD #[aO (b.open (ae pm lm cm) (ae pn ln cn) (ae pk lk ck) (ae (some ⟨gv,0,none⟩) all.length cv)),ah ag 0]∧gJ w9 w.heap.size (ae (some ⟨gv,0,none⟩) all.length cv) all,
  fun v ds w9=>∃gv cv,v=aO (b.open (ae pm lm cm) (ae pn ln cn) (ae pk lk ck) (ae (some ⟨gv,0,none⟩) all.length cv))∧gJ w9 w.heap.size (ae (some ⟨gv,0,none⟩) all.length cv) all,
  pV (ah ag 0),
  fun v ds w9=>∃k,∃z:Array aj,v=pv k 0∧w.heap.size+1≤k∧w9.heap[k]?=some (au z 122 (0,0))∧z.size=16,
  fun v ds w9=>∃k gv cv,ds[0]?=some (pv k 0)∧w.heap.size+1≤k∧w9.heap[k]?=some (au (b.open (ae pm lm cm) (ae pn ln cn) (ae pk lk ck) (ae (some ⟨gv,0,none⟩) all.length cv)) 122 (0,0))∧gJ w9 w.heap.size (ae (some ⟨gv,0,none⟩) all.length cv) all,
  pV (ah ag 0)]
  (fun w9=>w9.heap[w.heap.size]?=some (au (b.cells (ae pm lm cm) (ae pn ln cn) (ae pk lk ck)) 28 (0,0))∧az w.heap.size w w9) [(2,pv w.heap.size 0),(1,ae pZ pl.length qj)] (by kernel_rfl) ?rst (fun w1 w2 h hb=>⟨(hb.block _ (ak.1 h.1).1).trans h.1,h.2.trans (hb.mono h.2.size)⟩) (⟨hk,b1.drew⟩) ⟨rfl,rfl,trivial⟩ ?reach ?rfin
 case rst=>
  refine⟨sV,sV,?_,?_,?_,?_,sV,?_,?_,sV,trivial⟩
  ·rintro v ds w1 w2 hS ⟨cp,h1,h2⟩ hb;exact⟨cp,h1,(hb.block _ (ak.1 h2).1).trans h2⟩
  ·rintro v ds w1 w2 hS ⟨gv,cv,h1,h2⟩ hb;exact⟨gv,cv,h1,h2.at_ fun g hg=>hb.block g (h2.1.lt g hg).2⟩
  ·rintro v ds w1 w2 hS ⟨gv,cv,h1,h2⟩ hb;exact⟨gv,cv,h1,h2.at_ fun g hg=>hb.block g (h2.1.lt g hg).2⟩
  ·rintro v ds w1 w2 hS ⟨gv,cv,h1,h2⟩ hb;exact⟨gv,cv,h1,h2.at_ fun g hg=>hb.block g (h2.1.lt g hg).2⟩
  ·rintro v ds w1 w2 hS ⟨k,z,h1,h2,h3,h4⟩ hb;exact⟨k,z,h1,h2,(hb.block _ (ak.1 h3).1).trans h3,h4⟩
  ·rintro v ds w1 w2 hS ⟨k,gv,cv,h1,h0,h3,h2⟩ hb;exact⟨k,gv,cv,h1,h0,(hb.block _ (ak.1 h3).1).trans h3,h2.at_ fun g hg=>hb.block g (h2.1.lt g hg).2⟩
 case reach=>
  refine⟨?_,?_,?_,?_,?_,?_,?_,?_,?_,?_,trivial⟩<;>rintro ev w1 hS hc hg hf ⟨b2,b1,-⟩ hd
  ·clear hd;obtain⟨x0,x1,x2,x3,x4,x5,x6,x7,x8,x9,nS,nR,oO,n4,oK⟩:=bM hS.1;exact tV
  ·clear hd;exact tV
  ·have d1:ev (aK 13)=_:=hd.1 rfl;clear hd;refine Lag.Yields.call (f:=104) (args:=#[ae pZ pl.length qj]) ?_ (I8 _ _ _ _) ?_
   ·go_simp
   ·rintro e w2 ⟨rfl,rfl⟩;exact⟨_,rfl,⟨_,rfl,ay _ _⟩,.inl ((aw _ _).alloc (ax _) _)⟩
  ·have d0:ev (aK 12)=_:=hd.1 rfl;obtain⟨cp,Fb,yf⟩:=hd.2.1 rfl;clear hd;replace Fb:ev (aK 14)=_:=Fb;refine Lag.Yields.call (f:=103) (args:=#[aO (b.cells (ae pm lm cm) (ae pn ln cn) (ae pk lk ck)),.func (.func 164) #[] #[pv cp 0]]) ?_ (Uj.out w1 cp hS.2 yf) ?_
   ·go_simp
   ·rintro e w2 ⟨v,rfl,iU,hb⟩
    obtain⟨gv,cv,rfl⟩:∃gv cv,v=ae (some ⟨gv,0,none⟩) all.length cv:=by
     rcases iU.1.2 with⟨_,h0⟩|⟨g,cap,cur,rfl,_⟩
     ·omega
     ·exact⟨g,cap,rfl⟩
    exact⟨_,rfl,⟨gv,cv,rfl,iU.base hS.2.size⟩,.inl hb⟩
  ·exact yv rfl (hd.1 rfl)
  ·obtain⟨gv,cv,e11,iU⟩:=hd.1 rfl;clear hd;replace e11:ev (aK 11)=_:=e11;refine yv ?_ (⟨gv,cv,rfl,iU⟩);go_simp
  ·obtain⟨gv,cv,e11,iU⟩:=hd.1 rfl;clear hd;replace e11:ev (aK 11)=_:=e11;exact tV
  ·clear hd;refine Lag.Yields.value (v:=pv w1.heap.size 0) (w':=w1.alloc (au gU 122)) ?_ ⟨⟨_,_,rfl,(ak.1 hS.1).1,ay _ _,rfl⟩,.inl ((aw _ _).alloc (ax _) _)⟩;go_simp
  ·obtain⟨k,z,e6,qg,hk2,hz⟩:=hd.1 rfl;replace e6:ev (aK 7)=_:=e6;obtain⟨gv,cv,M8,iU⟩:=hd.2.1 rfl;clear hd;replace M8:ev (aK 16)=_:=M8;have CL:∀g cs t,w1.heap[g]?=some (au cs t (0,0))→t≠122→g≠k:=by rintro g cs t h1 h2 rfl;rw[hk2] at h1;cases h1;exact h2 rfl
   have D7:∀(v:aj),gJ w1 w.heap.size v all→gJ (w1.setRow k (b.open (ae pm lm cm) (ae pn ln cn) (ae pk lk ck) (ae (some ⟨gv,0,none⟩) all.length cv))) w.heap.size v all:=fun v ho=>ho.at_ fun g hg=>setRow_other (by
    obtain⟨cur,q1,_⟩:=ho.2 g hg
    exact CL g _ _ q1 (by decide))
   refine Lag.Yields.nC 122 _ _ rfl k _ e6 M8 122 z hk2 (by kernel_rfl) hz (by simp[cj]) ⟨⟨k,gv,cv,congrArg some e6,qg,cV hk2,D7 _ iU⟩,.inr ⟨⟨(setRow_other (by omega)).trans hS.1,dv hS.2 (by omega)⟩,?_⟩⟩;intro j u ds hj hp
   match j,hp with
   |0,hp=>exact hp
   |1,hp=>exact hp
   |2,⟨cp,h1,h2⟩=>exact⟨cp,h1,(setRow_other (CL _ _ _ h2 (by decide))).trans h2⟩
   |3,⟨Ef,Er,h1,h2⟩=>exact⟨Ef,Er,h1,D7 _ h2⟩
   |4,⟨Ef,Er,h1,h2⟩=>exact⟨Ef,Er,h1,D7 _ h2⟩
   |5,⟨Ef,Er,h1,h2⟩=>exact⟨Ef,Er,h1,D7 _ h2⟩
   |6,hp=>exact hp
   |7,⟨k',z',h1,h2,h3,h4⟩=>
    by_cases sI:k'=k
    ·subst sI;exact⟨k',_,h1,h2,cV h3,rfl⟩
    ·exact⟨k',z',h1,h2,(setRow_other sI).trans h3,h4⟩
   |8,_=>exact(hj rfl).elim
   |9,hp=>exact hp
   |j+10,_=>trivial
  ·have d6:ev (aK 17)=_:=hd.1 rfl;clear hd;refine yv (v:=ev (aK 17)) ?_ (d6);rfl
 case rfin=>
  intro a2 w2 hR;have hS:=hR.s;obtain⟨k,gv,cv,TJ,qg,hk2,iU⟩:=hR.val 8 (by decide);have e9:a2.tmps.getD 6 af=_:=hR.val 9 (by decide);have ha:=hR.lits 47 rfl;simp only[aU,bT,nt] at ha;rw[hR.kp 1 (by kernel_rfl),hR.kp 2 (by kernel_rfl),hR.kp 4 (by kernel_rfl),hR.kp 5 (by kernel_rfl)] at ha;simp only[ku,fT,fS] at ha;clear hR;have e6:a2.tmps.getD 7 af=pv k 0:=bf TJ;rw[e6,e9] at ha;generalize a2.tmps.getD=zz at ha;clear e6 TJ e9;subst ha;have sg:=hS.1;have rz:=hS.2;clear hS;have G9:=aH hk2 15 _ rfl;have BH:=iU.reads (by omega)
  have HC:Hid (∀j u,(rowOf all)[j]?=some u→w2.cell? ⟨gv,0+j,none⟩=some u):=ai (by
   rcases BH with⟨h0,_⟩|⟨g,off,cap,h0,_,_,h1⟩
   ·cases h0
   ·cases h0;exact h1)
  have BI:=(iU.1.lt gv rfl).2;have xu:=(ak.1 hk2).1;have HK:=ai hk2;have HB:=ai sg;have EZ:=ai rz;have LB:=ai iU;clear hk2 BH sg rz iU hk b1 Uj;generalize hL:all.length=L at *;have HL:=ai hL;clear hL;go_wp2;refine wp_label ?_;go_wp2
  go_loopw [4,5,9,10,24] (fun m f _ _ i wr=>∃j:Nat,j≤L∧i=ah ag j∧m=ah ag (ud b (all.take j) (bG pl)).1∧f=aG (ud b (all.take j) (bG pl)).2∧az w2.heap.size w2 wr) (fun _ _ _ _ i _=>L-(intOf i).toNat)
  case atStart=>exact⟨0,by omega,rfl,rfl,rfl,aw _ _⟩
  case round=>
   obtain⟨j,hj,rfl,rfl,rfl,eh⟩:=hrel;have hsz:=eh.size
   by_cases hlt:j<L
   ·have IE:j<all.length:=by rw[HL.out];exact hlt
    obtain⟨c0,c1,c2,c3⟩:=Reads.cell (w:=wr) (cap:=cv) (n:=L) (fun i u hi=>(eh.cell (p:=⟨gv,0+i,none⟩) BI).trans (HC.out i u hi)) j IE;simp only[cZ] at c0 c1 c2 c3;have UD:ud b (all.take (j+1)) (bG pl)=CU b (bG pl) (ud b (all.take j) (bG pl)) all[j]:=Nv b all (bG pl) IE;have Ti:=fun W=>Ja b cS (ae pm lm cm) (ae pn ln cn) (ae pk lk ck) all[j] (Ra.out _ (cu IE)) (bG pl) Qh W;have HBa:=ai Ti;have wS:=ai eh
    have FW:Hid (∀w9,az (wr.alloc (au all[j].cells 134)).heap.size (wr.alloc (au all[j].cells 134)) w9→w9.heap[k]?=some (au (b.open (ae pm lm cm) (ae pn ln cn) (ae pk lk ck) (ae (some ⟨gv,0,none⟩) L cv)) 122 (0,0))∧w9.heap[wr.heap.size]?=some (au all[j].cells 134 (0,0))∧Reads w9 (ae pZ pl.length qj) pl.length (pl.map (aD ag))):=ai fun w9 MW=>by
     have hs:(wr.alloc (au all[j].cells 134)).heap.size=wr.heap.size+1:=by simp
     have hb0:az wr.heap.size wr (wr.alloc (au all[j].cells 134)):=(aw _ _).alloc (ax _) _;have zM:=EZ.out.size;exact⟨(MW.block _ (by omega)).trans ((hb0.block _ (by omega)).trans ((eh.block _ xu).trans HK.out)),(MW.block _ (by omega)).trans (ay wr _),Jp.out.below (EZ.out.trans ((eh.mono zM).trans ((hb0.mono (by omega)).trans (MW.mono (by omega)))))⟩
    unfold CU at UD;clear Ti eh;generalize all[j]=a at *;generalize yZ:b.bad (b.cM+a.used) (bG pl)=bd at *;generalize ud b (all.take j) (bG pl)=s at *;obtain⟨sm,sf⟩:=s;simp only[] at UD;have LC:=ai UD;clear UD;simp only[];go_wp2
    refine bQ (by kernel_rfl) [
    pV (pv k 0),
     pV (aO (b.cells (ae pm lm cm) (ae pn ln cn) (ae pk lk ck))),
     pV (aO a.cells),
     pV (ae pZ pl.length qj),
     pV (ah ag (bG pl)),
     pV (ah ag bd),
     pV (ah ag bd)]
     (fun w9=>az (wr.alloc (au a.cells 134)).heap.size (wr.alloc (au a.cells 134)) w9) [(1,ae pZ pl.length qj),(7,pv k 0),(9,pv wr.heap.size 0)] (by kernel_rfl) ?rst (fun w1 w2 h hb=>h.trans (hb.mono h.size)) ((aw _ _).drew) ⟨rfl,rfl,rfl,trivial⟩ ?reach ?rfin
    case rst=>
     refine⟨sV,sV,sV,sV,sV,sV,sV,trivial⟩
    case reach=>
     refine⟨?_,?_,?_,?_,?_,?_,?_,trivial⟩<;>rintro ev w1 hS hc hg hf ⟨b1,b7,b9,-⟩ hd
     ·clear hd;exact tV
     ·have d0:ev (aK 28)=_:=hd.1 rfl;clear hd;have q:=FW.out w1 hS;obtain⟨x0,x1,x2,x3,x4,x5,x6,x7,x8,x9,nS,nR,oO,n4,oK,x15⟩:=jo q.1;exact tV
     ·clear hd;have q:=FW.out w1 hS;obtain⟨y0,y1,y2,y3⟩:=pQ q.2.1;exact tV
     ·clear hd;exact tV
     ·have d3:ev (aK 31)=_:=hd.1 rfl;clear hd;have q:=FW.out w1 hS;refine yq (args:=#[ae pZ pl.length qj]) (kV pl WL.out _ _ q.2.2) ?_ fun _=>rfl;go_simp
     ·have d1:ev (aK 29)=_:=hd.1 rfl;have d2:ev (aK 30)=_:=hd.2.1 rfl;have d4:ev (aK 32)=_:=hd.2.2.1 rfl;clear hd;refine yc (HBa.out w1) ?_ fun _=>rfl;go_simp
     ·have d5:ev (aK 33)=_:=hd.1 rfl;clear hd;refine yv (v:=ev (aK 33)) ?_ (d5);rfl
    case rfin=>
     intro a3 w3 hR;have hS:=hR.s;have e6:a3.tmps.getD 10 af=_:=hR.val 6 (by decide);have ha:=hR.lits 47 rfl;simp only[aU,bT,nt] at ha;rw[hR.kp 0 (by kernel_rfl),hR.kp 1 (by kernel_rfl),hR.kp 2 (by kernel_rfl),hR.kp 3 (by kernel_rfl),hR.kp 4 (by kernel_rfl),hR.kp 5 (by kernel_rfl),hR.kp 6 (by kernel_rfl),hR.kp 7 (by kernel_rfl),hR.kp 8 (by kernel_rfl),hR.kp 11 (by kernel_rfl),hR.kp 12 (by kernel_rfl),hR.kp 13 (by kernel_rfl),hR.kp 14 (by kernel_rfl),hR.kp 15 (by kernel_rfl),hR.kp 16 (by kernel_rfl),hR.kp 17 (by kernel_rfl),hR.kp 18 (by kernel_rfl),hR.kp 19 (by kernel_rfl),hR.kp 20 (by kernel_rfl),hR.kp 21 (by kernel_rfl),hR.kp 22 (by kernel_rfl),hR.kp 23 (by kernel_rfl),hR.kp 24 (by kernel_rfl),hR.kp 45 (by kernel_rfl),hR.kp 46 (by kernel_rfl)] at ha;simp only[ku,fT,fS] at ha;clear hR;rw[e6] at ha;generalize a3.tmps.getD=zz at ha;have o9:=ai hS;clear e6 hS;subst ha;have hwr:az w2.heap.size wr w3:=((aw _ wr).alloc hsz _).trans (o9.out.mono (by simp;omega));have Z9:=ai hwr;clear hwr
     by_cases h0:bd=0
     ·have g0:(bd==0)=true:=by simpa using h0
      clear h0;have H0:Hid (bd=0):=ai (by simpa using g0);go_wp2;go_roundw
      case rel=>
       refine⟨j+1,by omega,by simp,?_,?_,wS.out.trans Z9.out⟩
       ·rw[LC.out];simp[H0.out]
       ·rw[LC.out];simp[H0.out]
      case measure=>simp[intOf];omega
     ·have g0:(bd==0)=false:=by simpa using h0
      have H0:=ai h0;clear h0;cases sf
      ·go_wp2;go_roundw
       case rel=>
        refine⟨j+1,by omega,by simp,?_,?_,wS.out.trans Z9.out⟩
        ·rw[LC.out];simp[H0.out]
        ·rw[LC.out];simp[H0.out]
       case measure=>simp[intOf];omega
      ·by_cases h1:bd<sm
       ·have H1:=ai h1;go_wp2;go_roundw
        case rel=>
         refine⟨j+1,by omega,by simp,?_,?_,wS.out.trans Z9.out⟩
         ·rw[LC.out];simp[H0.out,H1.out]
         ·rw[LC.out];simp[H0.out,H1.out]
        case measure=>simp[intOf];omega
       ·have H1:=ai h1;go_wp2;go_roundw
        case rel=>
         refine⟨j+1,by omega,by simp,?_,?_,wS.out.trans Z9.out⟩
         ·rw[LC.out];simp[H0.out,H1.out]
         ·rw[LC.out];simp[H0.out,H1.out]
        case measure=>simp[intOf];omega
   ·obtain rfl:j=L:=by omega
    have MI:all.take j=all:=cQ (by rw[HL.out];exact ax _);obtain⟨s,hs⟩:∃s,ud b all (bG pl)=s:=⟨_,rfl⟩
    rw[MI,hs];have wS:=ai eh;have Ro:=ai hs;clear MI eh hs;have ru:az w.heap.size w wr:=EZ.out.trans (wS.out.mono EZ.out.size);have Uk:=ai ru;clear ru;obtain⟨sm,sf⟩:=s;go_wp2
    (try simp only[Exit.inBlock,Exit.then,Exit.noGoto_ret])
    go_ret3
    exact⟨by rw[Ro.out];rfl,Uk.out⟩
end Go.Proofs.YtffladgmkiimjaaGreatDoor
namespace Go.Lag
open Go Go.RowKit Go.Conc Go.Proofs.YtffladgmkiimjaaGreatDoor
namespace Gd
section
variable{P:aI}{ops:Array cz}{Q:Exit→Act→ar→Prop}{Vs:List Pred}{S:ar→Prop}{base:List (kz × aj)}{n:Nat}
end
end Gd
theorem jD(W:ar)(τ:Nat→dA→Nat)(d:Nat):Old W (dr W τ d):=⟨rfl,rfl,ax _,fun _ _=>rfl⟩
section
variable{P:aI}{ops:Array cz}{Q:Exit→Act→ar→Prop}{n:Nat}
theorem OQ(T:Quiet P)(hm:P.follows .mixedOrders=true){id:Nat}{y:Code}{a0:Act}{W:ar}(hf:∀e a w,Q e a w→si e=true)(Vs:List Pred)(base:List (kz × aj))(cS:iZ ops n base=true)(hn:a0.tmps.size=n)(hbase:gF a0.eval base)(Ed:jd (Old W) Vs)
  (hE:Gd.Each (Yields P) ops Vs (Old W) base 0 ops.toList) (hy:∀a w,iX ops Vs (Old W) a0 (aT ops.size true) a w→mP P y Q a w):mP P (.seq (.region id ops true) y) Q a0 W:=
 nB T hf (fun a w=>iX ops Vs (Old W) a0 (aT ops.size true) a w) (fun τ d=>
  Gd.bQ hm Vs (Old W) base (by rw[hn];exact cS) Ed (fun _ _ h hb=>h.trans (Old.of_below hb)) ((jD W τ d).trans ⟨rfl,rfl,ax _,fun _ _=>rfl⟩) hbase hE fun a w h=>⟨rfl,h⟩) hy
theorem dD{R:Act→ar→Prop}(hf:∀e a w,Q e a w→si e=true):∀e a w,Exit.then R Q e a w→si e=true:=fun e a w h=>by cases e<;>first|rfl|exact hf _ a w h
theorem n9(T:Quiet P){a:Act}{W:ar}(hf:∀e a w,Q e a w→si e=true)(h:∀τ d,Q .normal a (dr W τ d)):mP P .skip Q a W:=ko T hf fun τ d=>wp_skip (h τ d)
def OY(P:aI)(o:cz)(ev:Operand→aj)(W:ar)(R:aj→ar→Prop):Prop:=
 ∃f args R2,(∀w,(execOp ev o).run P w=.ok (.enter f args) w)∧iQ P f args W R2∧∀v W',R2 v W'→R v W'
def RD(P:aI)(Yv:Nat→Bool)(i:Nat):lK:=match Yv i with|true=>OY P|false=>Yields P
def Us(P:aI)(Yv:Nat→Bool)(ops:Array cz)(Vs:List Pred)(S:ar→Prop)(base:List (kz × aj)):Nat→List cz→Prop
 |_,[]=>True
 |i,o::l=>Gd.LQ (RD P Yv i) ops Vs S base i o∧Us P Yv ops Vs S base (i+1) l
theorem Us.get{Yv:Nat→Bool}{Vs:List Pred}{S:ar→Prop}{base:List (kz × aj)}{i:Nat}{l:List cz}(h:Us P Yv ops Vs S base i l){j:Nat}{o:cz}(hj:l[j]?=some o):Gd.LQ (RD P Yv (i+j)) ops Vs S base (i+j) o:=by
 induction l generalizing i j with
 |nil=>simp at hj
 |cons x l ih=>
  cases j with
  |zero=>simp at hj;subst hj;exact h.1
  |succ j=>have:=ih h.2 (j:=j) (by simpa using hj);rwa [Nat.add_assoc,Nat.add_comm 1 j] at this
def Wy(Vs:List Pred):Prop:=∀i u ds w w',fG Vs i u ds w→Old w w'→fG Vs i u ds w'
def tK:List Pred→Prop
 |[]=>True
 |V::l=>(∀u ds w w',V u ds w→Old w w'→V u ds w')∧tK l
theorem tK.all:∀ {Vs:List Pred},tK Vs→Wy Vs
 |[],_=>fun i u ds w w' h _=>trivial
 |V::l,h=>fun i u ds w w' hp ho=>by
  cases i with
  |zero=>exact h.1 u ds w w' hp ho
  |succ i=>exact tK.all h.2 i u ds w w' hp ho
theorem tK.below{S:ar→Prop}:∀ {Vs:List Pred},tK Vs→jd S Vs
 |[],_=>trivial
 |_::_,h=>⟨fun u ds w w' _ hv hb=>h.1 u ds w w' hv (Old.of_below hb),tK.below h.2⟩
end
section
variable{P:aI}{ops:Array cz}{Q:Exit→Act→ar→Prop}{n:Nat}
theorem zR(T:Quiet P){a:Act}{W:ar}{c:Operand}{x y:Code}{t:Bool}(hc:a.eval c=.bool t)(h1:t=true→mP P x Q a W)(h2:t=false→mP P y Q a W):mP P (.cond c x y) Q a W:=by
 cases t
 ·exact oa T hc (h2 rfl)
 ·exact oa T hc (h1 rfl)
end
section
variable{P:aI}{ops:Array cz}{base:List (kz × aj)}{C:Cf}{n:Nat}{S:ar→Prop}{outs:List (kz × aj)}{Q:Exit→Act→ar→Prop}{s:Sem Next}{w:ar}{v:aj}
def Uo(P:aI)(s:Sem Next)(w:ar)(v:aj):Prop:=∃f args R2,look P #[] s=some (.enter f args,[])∧iQ P f args w R2∧∀v' W',R2 v' W'→v'=v∧Old w W'
theorem gv{f:FuncId}{args:Array aj}(h:iQ P f args w fun u W'=>u=v∧Old w W')(he:look P #[] s=some (.enter f args,[]):=by kernel_rfl):Uo P s w v:=⟨f,args,_,he,h,fun _ _ h=>h⟩
end
section
variable{P:aI}{ops:Array cz}{base:List (kz × aj)}{C:Cf}{n:Nat}{S:ar→Prop}{a0:Act}
variable{Q:Exit→Act→ar→Prop}
def YV(P:aI):lK:=fun o ev w R=>(∀τ d,Yields P o ev (dr w τ d) R)∨OY P o ev w R
theorem Oo(T:Quiet P):vS ops (en P ops Q) (YV P):=
 ⟨fun i rest o a w R ho hw hY hk=>by
  rcases hY with h|⟨f,args,R2,he,hc,h2⟩
  ·exact fQ T ho hw fun τ d=>(h τ d).wp fun v w' hv=>hk v w' hv
  ·exact qG T ho hw he hc fun v W' _ hv=>hk v W' (h2 v W' hv),
 fun i rest o a w ho hw hk=>Ju T ho (by simpa using hw) hk⟩
theorem dF(T:Quiet P)(i k m:Nat)(C:Cf)(outs:List (kz × aj)){dL:List (kz × aj)}{W:ar}(hF:iV n a0 base)(hF2:iV n a0 dL)(hm:nA (Old W) C.mem)(hh:Rm P ops base C (fun _=>lV P) (Old W) i C.hs)(hy:uz (fun l=>∀a w,Old W w→iV n a l→en P ops Q (bS (i+k) m) a w) outs dL)(hr:yC P ops base C n dL i k outs=yB P ops base C i k outs:=by kernel_rfl):en P ops Q (bS i (k+m)) a0 W:=
 Hv (T:=Old) (Oo T) (fun _ _ h hb=>h.trans hb) Old.refl (fun i _ s w v h=>gr h)
  (fun i o ev w v R hS hg hR=>.inl fun τ d=>(hg _ (hS.trans (jD w τ d))).yields fun w' hb=>hR w' ((jD w τ d).trans (Old.of_below hb))) hF hF2 hr (Old.refl _) hm hh hy
def GX(P:aI)(kv i:Nat):Sem Next→ar→aj→Prop:=match Nat.beq i kv with|true=>Uo P|false=>lV P
theorem U9(T:Quiet P)(kv i k m:Nat)(C:Cf)(hkv:(lL C.hs kv).isSome=true)(outs:List (kz × aj)){dL:List (kz × aj)}{W:ar}(hF:iV n a0 base)(hF2:iV n a0 dL)(hm:nA (Old W) C.mem)(hh:Rm P ops base C (GX P kv) (Old W) i C.hs)(hy:uz (fun l=>∀a w,Old W w→iV n a l→en P ops Q (bS (i+k) m) a w) outs dL)(hr:yC P ops base C n dL i k outs=yB P ops base C i k outs:=by kernel_rfl):en P ops Q (bS i (k+m)) a0 W:=
 Hv (T:=Old) (Oo T) (fun _ _ h hb=>h.trans hb) Old.refl (fun i hi s w v h=>by
   unfold GX;cases hb:Nat.beq i kv with
   |true=>rw[Nat.eq_of_beq_eq_true hb] at hi;rw[hi] at hkv;cases hkv
   |false=>exact gr h)
  (fun i o ev w v R hS hg hR=>by
   unfold GX at hg;cases hb:Nat.beq i kv with
   |true=>
    simp only[hb] at hg;obtain⟨f,args,R2,h1,h2,h3⟩:=hg w hS;exact .inr ⟨f,args,R2,fun w9=>mY h1 (by simp),h2,fun v' W' hv=>by obtain⟨rfl,ho⟩:=h3 v' W' hv;exact hR _ ho⟩
   |false=>
    simp only[hb] at hg
    exact .inl fun τ d=>(hg _ (hS.trans (jD w τ d))).yields fun w' hb=>hR w' ((jD w τ d).trans (Old.of_below hb))) hF hF2 hr (Old.refl _) hm hh hy
section
variable{id:Nat}{y:Code}{W:ar}{dL:List (kz × aj)}
theorem XX(h:mP P y Q a0 W)(τ:Nat→dA→Nat)(d:Nat):mP P y Q a0 (dr W τ d):=(UM (τ:=W.tape) (d:=W.drawn) h)
theorem mI(T:Quiet P){N:Nat}(hN:ops.size=N)(h:en P ops (Exit.then (fun a w=>mP P y Q a w) Q) (bS 0 N) a0 W):mP P (.seq (.region id ops false) y) Q a0 W:=
 jC T (sJ T (by rw[List.range_eq_range',hN];exact h))
theorem mH(T:Quiet P)(hf:∀e a w,Q e a w→si e=true){i:Nat}(h:mP P y Q a0 W):en P ops (Exit.then (fun a w=>mP P y Q a w) Q) (bS i 0) a0 W:=
 qF T (dD hf) fun τ d=>XX h τ d
theorem I1(T:Quiet P)(hf:∀e a w,Q e a w→si e=true)(C:Cf)(outs:List (kz × aj))(hF:iV n a0 base)(hF2:iV n a0 dL)(hm:nA (Old W) C.mem)(hh:Rm P ops base C (fun _=>lV P) (Old W) 0 C.hs)(hy:uz (fun l=>∀a w,Old W w→iV n a l→mP P y Q a w) outs dL)(hr:yC P ops base C n dL 0 ops.size outs=yB P ops base C 0 ops.size outs:=by kernel_rfl):mP P (.seq (.region id ops false) y) Q a0 W:=
 mI T rfl (dF (hr:=hr) T 0 ops.size 0 C outs hF hF2 hm hh (hy.mono fun l h a w ho hl=>mH T hf (h a w ho hl)))
theorem ckX(T:Quiet P)(hf:∀e a w,Q e a w→si e=true)(kv:Nat)(C:Cf)(hkv:(lL C.hs kv).isSome=true)(outs:List (kz × aj))(hF:iV n a0 base)(hF2:iV n a0 dL)(hm:nA (Old W) C.mem)(hh:Rm P ops base C (GX P kv) (Old W) 0 C.hs)(hy:uz (fun l=>∀a w,Old W w→iV n a l→mP P y Q a w) outs dL)(hr:yC P ops base C n dL 0 ops.size outs=yB P ops base C 0 ops.size outs:=by kernel_rfl):mP P (.seq (.region id ops false) y) Q a0 W:=
 mI T rfl (U9 (hr:=hr) T kv 0 ops.size 0 C hkv outs hF hF2 hm hh (hy.mono fun l h a w ho hl=>mH T hf (h a w ho hl)))
end
section
variable{dL:List (kz × aj)}{i m:Nat}{W:ar}
theorem Yd(T:Quiet P)(C:Cf)(d:Option kz){R:aj→ar→Prop}(hF:iV n a0 base)(hF2:iV n a0 dL)(hc:C2 P ops base C n dL i d=true)(hY:∀w,Old W w→Yields P (opAt ops i) (qT base []) w R)
  (hk:∀v w,R v w→∀a,iV n a (jk d v dL)→en P ops Q (bS (i+1) m) a w):en P ops Q (bS i (m+1)) a0 W:=
 He (Oo T) hF hF2 hc (fun ev he=>.inl fun τ d=>(hY _ (jD W τ d)).ex he) hk
theorem vq(T:Quiet P)(C:Cf)(d:Option kz){f:FuncId}{args:Array aj}{Φ:ar→Ending→ar→Prop}(hF:iV n a0 base)(hF2:iV n a0 dL)(hc:∀w,Old W w→bm P f args w (Φ w))(hk:∀w0 e w,Old W w0→Φ w0 e w→∃v,e=.returned v∧∀a,iV n a (jk d v dL)→en P ops Q (bS (i+1) m) a w)(he:(C2 P ops base C n dL i d,look P #[] (execOp (qT base []) (opAt ops i)))=(true,some (.enter f args,[])):=by kernel_rfl):en P ops Q (bS i (m+1)) a0 W:=by
 rw[iq] at he;exact Yd T C d (R:=fun v w=>∀a,iV n a (jk d v dL)→en P ops Q (bS (i+1) m) a w) hF hF2 he.1 (fun w hw=>.call (mY he.2 (by simp)) (hc w hw) fun e w' h=>hk w e w' hw h) fun v w h=>h
theorem TY(T:Quiet P)(C:Cf)(d:Option kz){f:FuncId}{args:Array aj}{Φ:aj→ar→Prop}(hF:iV n a0 base)(hF2:iV n a0 dL)(hc:iQ P f args W Φ)(hk:∀v w,Φ v w→∀a,iV n a (jk d v dL)→en P ops Q (bS (i+1) m) a w)(he:(C2 P ops base C n dL i d,look P #[] (execOp (qT base []) (opAt ops i)))=(true,some (.enter f args,[])):=by kernel_rfl):en P ops Q (bS i (m+1)) a0 W:=by
 rw[iq] at he;exact He (Oo T) hF hF2 he.1 (fun ev hx=>.inr ⟨f,args,Φ,fun w=>by rw[hx];exact mY he.2 (by simp),hc,fun v W' h=>h⟩) hk
theorem ou(T:Quiet P)(C:Cf)(d:Option kz)(vf:Nat→aj)(cs:Array aj)(t:TypeId)(hF:iV n a0 base)(hF2:iV n a0 dL)(hk:∀B w a,W.heap.size≤B→Old W w→w.heap[B]?=some (.cells cs t (0,0))→iV n a (jk d (vf B) dL)→en P ops Q (bS (i+1) m) a w)(hc:C2 P ops base C n dL i d=true:=by kernel_rfl)(he:∀r,Ss P r (execOp (qT base []) (opAt ops i))=some (cs,t,0,0,some (.value (vf r),[])):=by intro r;kernel_rfl):en P ops Q (bS i (m+1)) a0 W:=
 Yd T C d (R:=fun v w=>∃B,v=vf B∧W.heap.size≤B∧Old W w∧w.heap[B]?=some (.cells cs t (0,0))) hF hF2 hc (fun w hw=>.value (Oi (he _)) ⟨_,rfl,hw.size,hw.trans (Old.of_below ((aw _ _).alloc (ax _) _)),ay _ _⟩)
  fun v w ⟨B,e,h1,h2,h3⟩ a hl=>hk B w a h1 h2 h3 (e▸hl)
theorem But.old{B:Nat}{V w w':ar}(h:But B w w')(ho:Old V w)(hB:V.heap.size≤B):Old V w':=⟨h.os.trans ho.os,h.output.trans ho.output,by rw[h.size];exact ho.size,fun k hk=>(h.block k (by omega)).trans (ho.block k hk)⟩
theorem W6(T:Quiet P)(C:Cf){B:Nat}(cs cs':Array aj){t:TypeId}(l:List Nat)(hF:iV n a0 base)(hF2:iV n a0 dL)(hB:W.heap[B]?=some (.cells cs t (0,0)))(hk:∀w a,(∀V,Old V W→V.heap.size≤B→Old V w)→w.heap[B]?=some (.cells cs' t (0,0))→iV n a dL→en P ops Q (bS (i+1) m) a w)(he:(C2 P ops base C n dL i none,(stores P (execOp (qT base []) (opAt ops i))).map fun q=>(q.map (·.1),(q.all fun p=>Nat.blt p.2.1 cs.size),Ds cs q))=(true,some (l.map fun _=>B,true,cs')):=by kernel_rfl):en P ops Q (bS i (m+1)) a0 W:=by
 obtain⟨h1,h2⟩:=aa7 C cs cs' hB l he
 exact Yd T C none (R:=fun v w=>(∀V,Old V W→V.heap.size≤B→Old V w)∧w.heap[B]?=some (.cells cs' t (0,0))) hF hF2 h1 (fun w hw=>by
  obtain⟨w',g1,g2,g3⟩:=h2 w ((hw.block B (ak.1 hB).1).trans hB)
  exact .skip g1 ⟨fun V hV hs=>g3.old (hV.trans hw) hs,g2⟩) fun v w h a hl=>hk w a h.1 h.2 hl
end
end
end Go.Lag
