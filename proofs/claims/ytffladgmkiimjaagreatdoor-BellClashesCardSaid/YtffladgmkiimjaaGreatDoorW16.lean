/- LONE WALKS: Crew (27). PLAIN LAWS: less used, better air; how much is  .. -/
import Derived.Test.YtffladgmkiimjaaGreatDoorW14
import Derived.Test.YtffladgmkiimjaaGreatDoorW07
import Derived.Test.YtffladgmkiimjaaGreatDoorW01
import Derived.Test.YtffladgmkiimjaaGreatDoorW02
import Derived.Test.YtffladgmkiimjaaGreatDoorW15
import Derived.Test.YtffladgmkiimjaaGreatDoorW03
import Derived.Test.YtffladgmkiimjaaGreatDoorW04
import Derived.Test.YtffladgmkiimjaaGreatDoorW05
import Derived.Maps.OwnOps
import Derived.Maps.Views
set_option linter.all false
set_option maxHeartbeats 100000000
set_option maxRecDepth 1000000
open Array renaming replicate → aT,getElem?_eq_some_iff → ak
open Bool renaming and_eq_true → aC
open Go renaming undef → af,Value → aj,World → ar,bodyPost_ret → bg,Calls → bm,Addr → cU,maxLen → jB,info_parts → jT
open Go.Addr renaming add → lG
open Go.Code renaming wp → bZ
open Go.Ending renaming returned → aF,returned → aJ
open Go.IntKind renaming i64 → ag,wrap_i64 → bY
open Go.Lib renaming hid → ai
open Go.Obj renaming cells → au
open Go.Operand renaming tmp → aK
open Go.Proofs.Tryz renaming prog → aq,underlying28 → cB,underlying3 → eo,underlying25 → fC
open Go.RowKit renaming Below → az
open Go.RowKit.Below renaming heap_alloc → aS,refl → aw,heap_setCell → bj
open Go.Value renaming int → aD,bool → aG,agg → aO,slice → ae,int → ah,pointer → bp,tuple → cD,oneCell' → cj,bool → np
open Go.World renaming alloc_heap_new → ay,ownsRow_nil → dM
open List renaming range → aU,all_eq_true → aW,mem_range → bB,mem_cons_of_mem → bI,take_succ_eq_append_getElem → bN,mem_cons → bR,take_of_length_le → cQ,mem_cons_self → cR,length_pos_iff → cX,getElem_mem → cu,getElem?_eq_getElem → dE,length_map → dI,mem_map → dc,map_append → fD,getD_cons_zero → fS,getD_cons_succ → fT,mem_filter → gi,map → nt,getD_eq_getElem?_getD → wB,length_mergeSort → wU,countP_le_length → wV
open List.range renaming loop → bT
open Nat renaming le_trans → aN,le_refl → ax,reduceEqDiff → cG,zero_add → cZ,zero_le → iB
open Option.some renaming inj → bf
open Or renaming inl → cA
namespace Go.Proofs.YtffladgmkiimjaaGreatDoor
open Go.RowKit Go.Lag
theorem gA{bs:Bool}:(np bs=aG true)↔bs=true:=by simp
theorem gB{bs x:Bool}:((if bs=true then np x else af)=aG false)↔(bs && !x)=true:=by cases bs<;>cases x<;>simp[af]
theorem XB{bs x:Bool}:((if bs=true then np x else af)=aG true)↔(bs&&x)=true:=by cases bs<;>cases x<;>simp[af]
theorem eA.Tr{a:eA}(h:a.Ok)(i:Nat):0≤a.get i∧a.get i≤99:=by
 unfold eA.get;split
 ·exact h.m0
 ·exact h.m1
 ·exact h.m2
def eA.only(a:eA)(c:List Nat):eA:=c.foldl (fun k i=>k.put i (a.get i)) ⟨a.leak,0,0,0⟩
def Ev(b:BB)(all:List eA)(p n mask:Nat):Bool:=b.sure (all.map fun a=>a.only (cJ n mask)) p
def Eu(bs f:Bool)(c l:List Int):Bool:=bs&&((!f||decide ((c.length:Int)>l.length))||(((c.length:Int)==(l.length:Int))&&decide (gp c l<0)))
theorem eA.Ve{a:eA}(h:a.Ok)(c:List Nat):(a.only c).Ok:=by
 unfold eA.only
 have:∀(c:List Nat) (k:eA),k.Ok→(c.foldl (fun k i=>k.put i (a.get i)) k).Ok:=by
  intro c
  induction c with
  |nil=>exact fun k hk=>hk
  |cons i c ih=>exact fun k hk=>ih _ (eA.Mj hk i (eA.Tr h i).1 (eA.Tr h i).2)
 exact this c _ ⟨h.leak,by simp,by simp,by simp⟩
def iA(b:BB)(all:List eA)(p n:Nat):Nat→List Int × Bool
 |0=>([],false)
 |m+1=>if Eu (Ev b all p n m) (iA b all p n m).2 (dt n m) (iA b all p n m).1 then(dt n m,true) else iA b all p n m
theorem WV(b:BB)(men sent marks:aj)(ml:List Mn)(ss:List Int)(ms:List Mk)(w:ar)(hL:Laid w)(hB:cH b men sent marks ml ss ms w)(hne:bn b ml ss ms≠[])(pl:List Int)(hp:js b pl)(lv:aj)(hl:Reads w lv pl.length (pl.map (aD ag))) :
  bm aq 27 #[aO (b.cells men sent marks),lv] w fun e w'=>∃v,e=aF (cD #[v,aG (iA b (bn b ml ss ms) (bG pl) ml.length (2 ^ ml.length)).2,ah ag 0])∧Reads w' v (iA b (bn b ml ss ms) (bG pl) ml.length (2 ^ ml.length)).1.length ((iA b (bn b ml ss ms) (bG pl) ml.length (2 ^ ml.length)).1.map (aD ag))∧az w.heap.size w w':=by
 have S5:=hB.gV.len;obtain⟨i0,hi,hz0,hz1,hz2⟩:=jT info3;obtain⟨i1,E7,Ov,hy1,hy2⟩:=jT Ot;have hlen:=jq ss ms hB.ok hB.gV;have kg:0<(bn b ml ss ms).length:=cX.2 hne;have cS:=hB.ok;have hao:=nO (ss:=ss) (ms:=ms) hB.ok hB.gV;have xq:=cS.minutes;have oW:∀s∈pl,1≤s∧s≤8:=fun s h=>by have:=hp.mem s h;omega
 have Qh:bG pl<512:=mS pl oW;obtain⟨pm,cm,rfl,_⟩:=aR hB.rm;obtain⟨pn,cn,rfl,_⟩:=aR hB.rs;obtain⟨pk,ck,rfl,_⟩:=aR hB.rk;obtain⟨pZ,qj,rfl,_⟩:=aR hl;have b1:az w.heap.size w (w.alloc (au (b.cells (ae pm ml.length cm) (ae pn ss.length cn) (ae pk ms.length ck)) 28)):=(aw _ _).alloc (ax _) _;have hk:=ay w (au (b.cells (ae pm ml.length cm) (ae pn ss.length cn) (ae pk ms.length ck)) 28)
 have Uj:Hid (∀W cp,az w.heap.size w W→W.heap[cp]?=some (au #[ae pZ pl.length qj] 25 (0,0))→bm aq 103 #[aO (b.cells (ae pm ml.length cm) (ae pn ss.length cn) (ae pk ms.length ck)),.func (.func 164) #[] #[pv cp 0]] W fun e w'=>∃v,e=aF (cD #[aO (b.open (ae pm ml.length cm) (ae pn ss.length cn) (ae pk ms.length ck) v),ah ag 0])∧gJ w' W.heap.size v (bn b ml ss ms)∧az W.heap.size W w'):=
  ai fun W cp Jo Td=>CB b _ _ _ ml ss ms W (hL.below Jo) (hB.below Jo) hne cp fun W' hb'=>by
   have hlt:=(ak.1 Td).1;exact CS b cS _ _ _ pl hp cp _ W' ((hb'.block _ hlt).trans Td) ((hl.below Jo).below hb')
 have Jp:=ai hl;have Ra:=ai hao;have WL:=ai oW;clear hL hB hl hao hp oW;generalize bn b ml ss ms=all at *;generalize ml.length=lm at *;generalize ss.length=ln at *;generalize ms.length=lk at *
 go_enter Tryz.func27,Tryz.ntmps27
 go_wp2
 refine bQ (by kernel_rfl) [
 pV (aO (b.cells (ae pm lm cm) (ae pn ln cn) (ae pk lk ck))),
  pV (ae pZ pl.length qj),
  fun v ds w9=>∃cp,v=.func (.func 164) #[] #[pv cp 0]∧w9.heap[cp]?=some (au #[ae pZ pl.length qj] 25 (0,0)),
  fun v ds w9=>∃gv cv,v=cD #[aO (b.open (ae pm lm cm) (ae pn ln cn) (ae pk lk ck) (ae (some ⟨gv,0,none⟩) all.length cv)),ah ag 0]∧gJ w9 w.heap.size (ae (some ⟨gv,0,none⟩) all.length cv) all,
  fun v ds w9=>∃gv cv,v=cD #[aO (b.open (ae pm lm cm) (ae pn ln cn) (ae pk lk ck) (ae (some ⟨gv,0,none⟩) all.length cv)),ah ag 0]∧gJ w9 w.heap.size (ae (some ⟨gv,0,none⟩) all.length cv) all,
  fun v ds w9=>∃gv cv,v=aO (b.open (ae pm lm cm) (ae pn ln cn) (ae pk lk ck) (ae (some ⟨gv,0,none⟩) all.length cv))∧gJ w9 w.heap.size (ae (some ⟨gv,0,none⟩) all.length cv) all,
  pV (ah ag 0),
  fun v ds w9=>∃k,∃z:Array aj,v=pv k 0∧w.heap.size+1≤k∧w9.heap[k]?=some (au z 122 (0,0))∧z.size=16,
  fun v ds w9=>∃k gv cv,ds[0]?=some (pv k 0)∧w.heap.size+1≤k∧w9.heap[k]?=some (au (b.open (ae pm lm cm) (ae pn ln cn) (ae pk lk ck) (ae (some ⟨gv,0,none⟩) all.length cv)) 122 (0,0))∧gJ w9 w.heap.size (ae (some ⟨gv,0,none⟩) all.length cv) all,
  pV (ah ag 0)]
  (fun w9=>w9.heap[w.heap.size]?=some (au (b.cells (ae pm lm cm) (ae pn ln cn) (ae pk lk ck)) 28 (0,0))∧az w.heap.size w w9) [(2,pv w.heap.size 0),(1,ae pZ pl.length qj)] (by kernel_rfl) ?rst (fun w1 w2 h hb=>⟨(hb.block _ (ak.1 h.1).1).trans h.1,h.2.trans (hb.mono h.2.size)⟩) (⟨hk,b1.drew⟩) ⟨rfl,rfl,trivial⟩ ?reach ?rfin
 case rst=>
  refine⟨sV,sV,?_,?_,?_,?_,sV,?_,?_,sV,trivial⟩
  ·rintro v ds w1 w2 hS ⟨cp,h1,h2⟩ hb;exact⟨cp,h1,(hb.block _ (ak.1 h2).1).trans h2⟩
  ·rintro v ds w1 w2 hS ⟨gv,cv,h1,h2⟩ hb;exact⟨gv,cv,h1,h2.at_ fun g hg=>hb.block g (h2.1.lt g hg).2⟩
  ·rintro v ds w1 w2 hS ⟨gv,cv,h1,h2⟩ hb;exact⟨gv,cv,h1,h2.at_ fun g hg=>hb.block g (h2.1.lt g hg).2⟩
  ·rintro v ds w1 w2 hS ⟨gv,cv,h1,h2⟩ hb;exact⟨gv,cv,h1,h2.at_ fun g hg=>hb.block g (h2.1.lt g hg).2⟩
  ·rintro v ds w1 w2 hS ⟨k,z,h1,h2,h3,h4⟩ hb;exact⟨k,z,h1,h2,(hb.block _ (ak.1 h3).1).trans h3,h4⟩
  ·rintro v ds w1 w2 hS ⟨k,gv,cv,h1,h0,h3,h2⟩ hb;exact⟨k,gv,cv,h1,h0,(hb.block _ (ak.1 h3).1).trans h3,h2.at_ fun g hg=>hb.block g (h2.1.lt g hg).2⟩
 case reach=>
  refine⟨?_,?_,?_,?_,?_,?_,?_,?_,?_,?_,trivial⟩<;>rintro ev w1 hS hc hg hf ⟨b2,b1,-⟩ hd
  ·clear hd;obtain⟨x0,x1,x2,x3,x4,x5,x6,x7,x8,x9,nS,nR,oO,n4,oK⟩:=bM hS.1;exact tV
  ·clear hd;exact tV
  ·have d1:ev (aK 19)=_:=hd.1 rfl;clear hd;refine Lag.Yields.call (f:=104) (args:=#[ae pZ pl.length qj]) ?_ (I8 _ _ _ _) ?_
   ·go_simp
   ·rintro e w2 ⟨rfl,rfl⟩;exact⟨_,rfl,⟨_,rfl,ay _ _⟩,cA ((aw _ _).alloc (ax _) _)⟩
  ·have d0:ev (aK 18)=_:=hd.1 rfl;obtain⟨cp,Fb,yf⟩:=hd.2.1 rfl;clear hd;replace Fb:ev (aK 20)=_:=Fb;refine Lag.Yields.call (f:=103) (args:=#[aO (b.cells (ae pm lm cm) (ae pn ln cn) (ae pk lk ck)),.func (.func 164) #[] #[pv cp 0]]) ?_ (Uj.out w1 cp hS.2 yf) ?_
   ·go_simp
   ·rintro e w2 ⟨v,rfl,iU,hb⟩
    obtain⟨gv,cv,rfl⟩:∃gv cv,v=ae (some ⟨gv,0,none⟩) all.length cv:=by
     rcases iU.1.2 with⟨_,h0⟩|⟨g,cap,cur,rfl,_⟩
     ·omega
     ·exact⟨g,cap,rfl⟩
    exact⟨_,rfl,⟨gv,cv,rfl,iU.base hS.2.size⟩,cA hb⟩
  ·exact yv rfl (hd.1 rfl)
  ·obtain⟨gv,cv,e11,iU⟩:=hd.1 rfl;clear hd;replace e11:ev (aK 17)=_:=e11;refine yv ?_ (⟨gv,cv,rfl,iU⟩);go_simp
  ·obtain⟨gv,cv,e11,iU⟩:=hd.1 rfl;clear hd;replace e11:ev (aK 17)=_:=e11;exact tV
  ·clear hd;refine Lag.Yields.value (v:=pv w1.heap.size 0) (w':=w1.alloc (au gU 122)) ?_ ⟨⟨_,_,rfl,(ak.1 hS.1).1,ay _ _,rfl⟩,cA ((aw _ _).alloc (ax _) _)⟩;go_simp
  ·obtain⟨k,z,e6,qg,hk2,hz⟩:=hd.1 rfl;replace e6:ev (aK 7)=_:=e6;obtain⟨gv,cv,M8,iU⟩:=hd.2.1 rfl;clear hd;replace M8:ev (aK 22)=_:=M8;have CL:∀g cs t,w1.heap[g]?=some (au cs t (0,0))→t≠122→g≠k:=by rintro g cs t h1 h2 rfl;rw[hk2] at h1;cases h1;exact h2 rfl
   have D7:∀(v:aj),gJ w1 w.heap.size v all→gJ (w1.setRow k (b.open (ae pm lm cm) (ae pn ln cn) (ae pk lk ck) (ae (some ⟨gv,0,none⟩) all.length cv))) w.heap.size v all:=fun v ho=>ho.at_ fun g hg=>setRow_other (by
    obtain⟨cur,q1,_⟩:=ho.2 g hg
    exact CL g _ _ q1 (by decide))
   refine Lag.Yields.nC 122 _ _ rfl k _ e6 M8 122 z hk2 (by kernel_rfl) hz (by simp[cj]) ⟨⟨k,gv,cv,congrArg some e6,qg,cV hk2,D7 _ iU⟩,.inr ⟨⟨(setRow_other (by omega)).trans hS.1,dv hS.2 (by omega)⟩,?_⟩⟩;intro j u ds hj hp
   match j,hp with
   |0,hp=>exact hp
   |1,hp=>exact hp
   |2,⟨cp,h1,h2⟩=>exact⟨cp,h1,(setRow_other (CL _ _ _ h2 (by decide))).trans h2⟩
   |3,⟨Ef,Er,h1,h2⟩=>exact⟨Ef,Er,h1,D7 _ h2⟩
   |4,⟨Ef,Er,h1,h2⟩=>exact⟨Ef,Er,h1,D7 _ h2⟩
   |5,⟨Ef,Er,h1,h2⟩=>exact⟨Ef,Er,h1,D7 _ h2⟩
   |6,hp=>exact hp
   |7,⟨k',z',h1,h2,h3,h4⟩=>
    by_cases sI:k'=k
    ·subst sI;exact⟨k',_,h1,h2,cV h3,rfl⟩
    ·exact⟨k',z',h1,h2,(setRow_other sI).trans h3,h4⟩
   |8,_=>exact(hj rfl).elim
   |9,hp=>exact hp
   |j+10,_=>trivial
  ·have d6:ev (aK 23)=_:=hd.1 rfl;clear hd;refine yv (v:=ev (aK 23)) ?_ (d6);rfl
 case rfin=>
  intro a2 w2 hR;have hS:=hR.s;obtain⟨k,gv,cv,TJ,qg,hk2,iU⟩:=hR.val 8 (by decide);have e9:a2.tmps.getD 6 af=_:=hR.val 9 (by decide);have ha:=hR.lits 116 rfl;simp only[aU,bT,nt] at ha;rw[hR.kp 1 (by kernel_rfl),hR.kp 2 (by kernel_rfl),hR.kp 4 (by kernel_rfl),hR.kp 5 (by kernel_rfl)] at ha;simp only[ku,fT,fS] at ha;clear hR;have e6:a2.tmps.getD 7 af=pv k 0:=bf TJ;rw[e6,e9] at ha;generalize a2.tmps.getD=zz at ha;clear e6 TJ e9;subst ha;have sg:=hS.1;have rz:=hS.2;clear hS;obtain⟨x0,x1,x2,x3,x4,x5,x6,x7,x8,x9,nS,nR,oO,n4,oK⟩:=bM sg;have fx:=cN sg 12;have BH:=iU.reads (by omega)
  have HC:Hid (∀j u,(rowOf all)[j]?=some u→w2.cell? ⟨gv,0+j,none⟩=some u):=ai (by
   rcases BH with⟨h0,_⟩|⟨g,off,cap,h0,_,_,h1⟩
   ·cases h0
   ·cases h0;exact h1)
  have BI:=(iU.1.lt gv rfl).2;have xu:=(ak.1 hk2).1;have hbl:=(ak.1 sg).1;have HK:=ai hk2;have HBo:=ai sg;have EZ:=ai rz;clear hk2 BH sg rz iU hk b1 Uj x0 x1 x2 x3 x4 x5 x6 x7 x8 x9 nS nR n4 oK;generalize hL:all.length=L at *;have HL:=ai hL;clear hL;obtain⟨N,V4⟩:∃N,N=2 ^ lm:=⟨_,rfl⟩
  have hN8:N≤8:=by
   have:lm=0∨lm=1∨lm=2∨lm=3:=by omega
   rcases this with h|h|h|h<;>subst h<;>omega
  have hN:wrap64 (2 ^ lm)=(N:Int):=by
   have:lm=0∨lm=1∨lm=2∨lm=3:=by omega
   rcases this with h|h|h|h<;>subst h<;>subst V4<;>simp[wrap64]
  have HN0:=ai V4;clear V4;have HBe:Hid (az w2.heap.size w2 w2):=ai (aw _ _);go_wp2;rw[hN];clear hN
  go_loopw [4,5,8,9,10,11,13,14,16,31] (fun v4 f _ _ _ _ _ _ _ i wr=>∃(M:Nat) (p4:Option cU) (c4:Nat),M≤N∧i=ah ag M∧f=aG (iA b all (bG pl) lm M).2∧v4=ae p4 (iA b all (bG pl) lm M).1.length c4∧Reads wr (ae p4 (iA b all (bG pl) lm M).1.length c4) (iA b all (bG pl) lm M).1.length ((iA b all (bG pl) lm M).1.map (aD ag))∧az w2.heap.size w2 wr) (fun _ _ _ _ _ _ _ _ _ i _=>N-(intOf i).toNat)
  case atStart=>exact⟨0,none,0,iB _,by simp,by simp[iA],by simp[iA],cA ⟨rfl,by simp[iA],by simp[iA]⟩,aw _ _⟩
  case round=>
   obtain⟨M,p4,c4,hM,rfl,rfl,rfl,hr4,eh⟩:=hrel;rename ar=>wo;have hsz:=eh.size
   by_cases hlt:M<N
   ·have hst:iA b all (bG pl) lm (M+1)=if Eu (Ev b all (bG pl) lm M) (iA b all (bG pl) lm M).2 (dt lm M) (iA b all (bG pl) lm M).1 then(dt lm M,true) else iA b all (bG pl) lm M:=rfl
    generalize iA b all (bG pl) lm M=st at *;obtain⟨lc,f⟩:=st;simp only[] at hst hr4;have Uf:=ai hst;have HR4:=ai hr4;have wS:=ai eh
    have FW:Hid (∀w9,az wo.heap.size wo w9→w9.heap[k]?=some (au (b.open (ae pm lm cm) (ae pn ln cn) (ae pk lk ck) (ae (some ⟨gv,0,none⟩) L cv)) 122 (0,0))∧w9.heap[w.heap.size]?=some (au (b.cells (ae pm lm cm) (ae pn ln cn) (ae pk lk ck)) 28 (0,0))∧(∀i u,(rowOf all)[i]?=some u→w9.cell? ⟨gv,0+i,none⟩=some u)):=ai fun w9 MW=>by
     have h:=eh.trans (MW.mono hsz);exact⟨(h.block _ xu).trans HK.out,(h.block _ hbl).trans HBo.out,fun i u hi=>(h.cell (p:=⟨gv,0+i,none⟩) BI).trans (HC.out i u hi)⟩
    obtain⟨q1,q2,-⟩:=FW.out wo (aw _ _);obtain⟨y0,y1,y2,y3,y4,y5,y6,y7,y8,y9,LR,NS,NQ,NP,Js,G9⟩:=jo q1;have g2:(wo.alloc (au #[ah ag b.room,ah ag b.depth,ah ag b.least,ah ag b.minutes,ah ag b.cM,ah ag b.km,ah ag b.eT,ah ag b.j9,ah ag b.ll,ah ag b.lm,ah ag b.pl,ah ag b.pm,ae pm lm cm,ae pn ln cn,ae pk lk ck,ae none 0 0] 122)).heap[w.heap.size]?=some (au (b.cells (ae pm lm cm) (ae pn ln cn) (ae pk lk ck)) 28 (0,0)):=(aS _ _ _ (ak.1 q2).1).trans q2;have z12:=aH g2 12 (ae pm lm cm) rfl;have agq:=cN g2 12;clear hst hr4 eh q1 q2 g2 oO fx;have hb2:az wo.heap.size wo (wo.alloc (au #[ah ag b.room,ah ag b.depth,ah ag b.least,ah ag b.minutes,ah ag b.cM,ah ag b.km,ah ag b.eT,ah ag b.j9,ah ag b.ll,ah ag b.lm,ah ag b.pl,ah ag b.pm,ae pm lm cm,ae pn ln cn,ae pk lk ck,ae none 0 0] 122)):=(aw _ _).alloc (ax _) _;have ho2:=ay wo (au #[ah ag b.room,ah ag b.depth,ah ag b.least,ah ag b.minutes,ah ag b.cM,ah ag b.km,ah ag b.eT,ah ag b.j9,ah ag b.ll,ah ag b.lm,ah ag b.pl,ah ag b.pm,ae pm lm cm,ae pn ln cn,ae pk lk ck,ae none 0 0] 122);have oX:=ai hb2;have HO2:=ai ho2;have abS:(wo.alloc (au #[ah ag b.room,ah ag b.depth,ah ag b.least,ah ag b.minutes,ah ag b.cM,ah ag b.km,ah ag b.eT,ah ag b.j9,ah ag b.ll,ah ag b.lm,ah ag b.pl,ah ag b.pm,ae pm lm cm,ae pn ln cn,ae pk lk ck,ae none 0 0] 122)).heap.size=wo.heap.size+1:=by simp
    clear hb2 ho2;go_wp2
    go_loopw [9,11,40] (fun v9 _ i wr=>∃j:Nat,j≤lm∧i=ah ag j∧wr.ownsRow (wo.heap.size+1) 3 1 v9 (cJ j M).length ((cJ j M).map fun(i:Nat)=>aD ag (i:Int))∧az (wo.heap.size+1) (wo.alloc (au #[ah ag b.room,ah ag b.depth,ah ag b.least,ah ag b.minutes,ah ag b.cM,ah ag b.km,ah ag b.eT,ah ag b.j9,ah ag b.ll,ah ag b.lm,ah ag b.pl,ah ag b.pm,ae pm lm cm,ae pn ln cn,ae pk lk ck,ae none 0 0] 122)) wr) (fun _ _ i _=>lm-(intOf i).toNat)
    case atStart=>exact⟨0,iB _,by simp,dM _ _ _ _,aw _ _⟩
    case round=>
     obtain⟨j,hj,rfl,hown,yb⟩:=hrel;have YH:=yb.size;rw[abS] at YH;have hcl:=iO j M;have hM5:M<512:=Nat.lt_of_lt_of_le hlt (aN hN8 (by decide))
     by_cases LI:j<lm
     ·cases hb:M.testBit j
      ·have e1:cJ (j+1) M=cJ j M:=by rw[mJ,hb];simp
       have Qo:=vO M j hM5;rw[hb] at Qo;have H1:=ai e1;clear e1;go_wp2;go_roundw
       case rel=>exact⟨j+1,by omega,by simp,by rw[H1.out];exact hown,yb⟩
       case measure=>simp[intOf];omega
      ·have e1:cJ (j+1) M=cJ j M++[j]:=by rw[mJ,hb];simp
       have Qo:=vO M j hM5;rw[hb] at Qo;have H1:=ai e1
       have WM:Hid (∀(i:Nat) (u:aj),([ah ag (j:Int)]:List aj)[i]?=some u→(wr.alloc (au #[ah ag (j:Int)] 3)).cell? ((⟨wr.heap.size,0,none⟩:cU).add i)=some u):=ai fun i u hj=>by
        match i,hj with
        |0,hj=>simp at hj;subst hj;simp[lG]
       clear e1
       go_wp2_with (at_builtin;refine wpList_append_own _ rfl _ _ 25 rfl (wo.heap.size+1) 3 i0 (ah ag 0) 1 8 fC hi hz0 hz1 hz2 rfl (by decide) u9 _ _ rfl (hown.alloc _) ⟨wr.heap.size,0,none⟩ 1 1 [ah ag (j:Int)] rfl rfl WM.out (by simp[cj]) (by unfold jB;omega) (by omega) (by simp;omega) ?_;intro v' w3 Ko hgrow hnil)
       go_roundw
       case rel=>exact⟨j+1,by omega,by simp,by rw[H1.out,List.length_append,fD];exact Ko,vP (by omega) hown yb hgrow⟩
       case measure=>simp[intOf];omega
     ·obtain rfl:lm=j:=by omega
      rename ar=>wc;obtain⟨p9,c9,rfl⟩:=dG hown;have Xy:az wo.heap.size wo wc:=oX.out.trans (yb.mono (by simp));have hoc:wc.heap[wo.heap.size]?=some (au #[ah ag b.room,ah ag b.depth,ah ag b.least,ah ag b.minutes,ah ag b.cM,ah ag b.km,ah ag b.eT,ah ag b.j9,ah ag b.ll,ah ag b.lm,ah ag b.pl,ah ag b.pm,ae pm lm cm,ae pn ln cn,ae pk lk ck,ae none 0 0] 122 (0,0)):=(yb.block _ (by simp)).trans HO2.out;have ajP:=aH (FW.out wc Xy).1 15 (ae (some ⟨gv,0,none⟩) L cv) rfl;have alB:=cN (FW.out wc Xy).1 15;have ahb:=ai hown;have HBc:=ai Xy;have HOc:=ai hoc;have hcs:wo.heap.size+1≤wc.heap.size:=YH;have hCb:∀i∈cJ lm M,i<lm:=fun i hi=>by simp[cJ] at hi;exact hi.1
      have Qt:=iO lm M;unfold Ev dt at Uf;clear hown yb Xy hoc y0 y1 y2 y3 y4 y5 y6 y7 y8 y9 LR NS NQ NP Js G9 z12 agq YH;go_wp2;generalize cJ lm M=C at *
      go_loopw [13,14,16,56] (fun _ _ _ i wr=>∃(j:Nat) (Rb:Option cU) (c15:Nat),j≤L∧i=ah ag j∧wr.heap[wo.heap.size]?=some (au #[ah ag b.room,ah ag b.depth,ah ag b.least,ah ag b.minutes,ah ag b.cM,ah ag b.km,ah ag b.eT,ah ag b.j9,ah ag b.ll,ah ag b.lm,ah ag b.pl,ah ag b.pm,ae pm lm cm,ae pn ln cn,ae pk lk ck,ae Rb j c15] 122 (0,0))∧wr.ownsRow (wo.heap.size+1) 134 4 (ae Rb j c15) j (rowOf ((all.take j).map fun a=>a.only C))∧wr.ownsRow (wo.heap.size+1) 3 1 (ae p9 C.length c9) C.length (C.map fun(i:Nat)=>aD ag (i:Int))∧az wo.heap.size wo wr) (fun _ _ _ i _=>L-(intOf i).toNat)
      case atStart=>exact⟨0,none,0,iB _,by simp,HOc.out,dM _ _ _ _,ahb.out,HBc.out⟩
      case round=>
       obtain⟨j,Rb,c15,hj,rfl,UB,Kl,OA,yb⟩:=hrel;have YH:=yb.size
       by_cases LI:j<L
       ·rename ar=>wj;have IE:j<all.length:=by rw[HL.out];exact LI
        obtain⟨c0,c1,c2,c3⟩:=Reads.cell (w:=wj) (cap:=cv) (n:=L) (FW.out wj yb).2.2 j IE;simp only[cZ] at c0 c1 c2 c3;have hao:=Ra.out _ (cu IE);have sX:(all.take (j+1)).map (fun a=>a.only C)=(all.take j).map (fun a=>a.only C)++[all[j].only C]:=by rw[bN IE,fD];rfl
        have HTk:=ai sX;have Q9:=ai yb;have HOj:=ai UB;have HOA:=ai Kl;have HOC:=ai OA;have HAk:=ai hao;clear sX yb UB Kl OA hao;generalize all[j]=a at *;go_wp2;have hWs:((wj.alloc (au a.cells 134)).alloc (au (⟨a.leak,0,0,0⟩:eA).cells 134)).heap.size=wj.heap.size+2:=by simp
        have hAw:((wj.alloc (au a.cells 134)).alloc (au (⟨a.leak,0,0,0⟩:eA).cells 134)).heap[wj.heap.size]?=some (au a.cells 134 (0,0)):=(aS _ _ _ (by simp)).trans (ay wj _)
        have hKw:((wj.alloc (au a.cells 134)).alloc (au (⟨a.leak,0,0,0⟩:eA).cells 134)).heap[wj.heap.size+1]?=some (au (⟨a.leak,0,0,0⟩:eA).cells 134 (0,0)):=by
         have:=ay (wj.alloc (au a.cells 134)) (au (⟨a.leak,0,0,0⟩:eA).cells 134);simpa using this
        have Jo:az wj.heap.size wj ((wj.alloc (au a.cells 134)).alloc (au (⟨a.leak,0,0,0⟩:eA).cells 134)):=((aw _ _).alloc (ax _) _).alloc (by simp) _;have HAw:=ai hAw;have HKw:=ai hKw;have HbW:=ai Jo;clear hAw hKw Jo c0 c1 c2 c3
        go_loopw [16,65] (fun _ i wr=>∃t:Nat,t≤C.length∧i=ah ag t∧wr.heap[wj.heap.size+1]?=some (au ((C.take t).foldl (fun k i=>k.put i (a.get i)) (⟨a.leak,0,0,0⟩:eA)).cells 134 (0,0))∧az (wj.heap.size+1) ((wj.alloc (au a.cells 134)).alloc (au (⟨a.leak,0,0,0⟩:eA).cells 134)) wr) (fun _ i _=>C.length-(intOf i).toNat)
        case atStart=>exact⟨0,iB _,by simp,HKw.out,aw _ _⟩
        case round=>
         obtain⟨t,ht,rfl,OB,htx⟩:=hrel;have hts:=htx.size;rw[hWs] at hts;have Qo:az wj.heap.size wj wr:=HbW.out.trans (htx.mono (by simp));have hAt:=(htx.block wj.heap.size (by simp)).trans HAw.out;have Zr:=cy HOC.out Qo;have HTx:=ai htx;have HBt:=ai Qo;have HKt:=ai OB
         by_cases MI:t<C.length
         ·obtain⟨g9,rfl⟩:∃g9,p9=some ⟨g9,0,none⟩:=by
           rcases Zr.2 with⟨h1,h2⟩|⟨g,cap,cur,h1,_⟩
           ·exfalso;simp at h1;omega
           ·exact⟨g,by simp at h1;exact h1.1⟩
          have hci:=Zr.cells (g:=g9) rfl t (ah ag (C[t]:Nat)) (by simp[dE MI]);have e9:(⟨g9,0,none⟩:cU).add t=⟨g9,t,none⟩:=by cases t<;>simp[lG]
          rw[e9] at hci;have hi3:C[t]<3:=by have:=hCb _ (cu MI);omega
          have hfo:(C.take (t+1)).foldl (fun k i=>k.put i (a.get i)) (⟨a.leak,0,0,0⟩:eA)=((C.take t).foldl (fun k i=>k.put i (a.get i)) (⟨a.leak,0,0,0⟩:eA)).put C[t] (a.get C[t]):=by rw[bN MI,List.foldl_append];rfl
          have HFo:=ai hfo;generalize (C.take t).foldl (fun k i=>k.put i (a.get i)) (⟨a.leak,0,0,0⟩:eA)=kk at *;generalize C[t]=i at *
          have hx1:wr.cell? ⟨wj.heap.size,1+i,none⟩=some (ah ag (a.get i)):=by
           match i,hi3 with
           |0,_=>exact aH hAt 1 _ rfl
           |1,_=>exact aH hAt 2 _ rfl
           |2,_=>exact aH hAt 3 _ rfl
          have hx2:wr.cell? ⟨wj.heap.size+1,1+i,none⟩=some (ah ag (kk.get i)):=by
           match i,hi3 with
           |0,_=>exact aH OB 1 _ rfl
           |1,_=>exact aH OB 2 _ rfl
           |2,_=>exact aH OB 3 _ rfl
          have hx3:=cN OB (1+i);have hst:=OW i hi3 (a.get i) OB;have HSe:=ai hst;clear hst hfo htx Qo hAt Zr OB e9;go_wp2;go_roundw
          case rel=>exact⟨t+1,by omega,by simp,by rw[HFo.out];exact HSe.out,HTx.out.setCell (p:=⟨wj.heap.size+1,1+i,none⟩) (ax _) _⟩
          case measure=>simp[intOf];omega
         ·obtain rfl:C.length=t:=by omega
          have sI:(C.take C.length).foldl (fun k i=>k.put i (a.get i)) (⟨a.leak,0,0,0⟩:eA)=a.only C:=by rw[List.take_length];rfl
          rw[sI] at OB;have HKt:=ai OB;generalize a.only C=kk at *;have k0:=aH OB 0 (ah ag kk.leak) rfl;have k1:=aH OB 1 (ah ag kk.m0) rfl;have k2:=aH OB 2 (ah ag kk.m1) rfl;have k3:=aH OB 3 (ah ag kk.m2) rfl;have hot:wr.heap[wo.heap.size]?=some (au #[ah ag b.room,ah ag b.depth,ah ag b.least,ah ag b.minutes,ah ag b.cM,ah ag b.km,ah ag b.eT,ah ag b.j9,ah ag b.ll,ah ag b.lm,ah ag b.pl,ah ag b.pm,ae pm lm cm,ae pn ln cn,ae pk lk ck,ae Rb j c15] 122 (0,0)):=(Qo.block _ (ak.1 HOj.out).1).trans HOj.out;have hAA:=cy HOA.out Qo;have hol:=(ak.1 hot).1;have G9:=aH hot 15 (ae Rb j c15) rfl
          have WM:Hid (∀(i:Nat) (u:aj),kk.cells.toList[i]?=some u→(wr.alloc (au kk.cells 134)).cell? ((⟨wr.heap.size,0,none⟩:cU).add i)=some u):=ai fun i u hj=>by
           have:=ay wr (au kk.cells 134);have h5:=aH this i u (by simpa using hj);have e:(⟨wr.heap.size,0,none⟩:cU).add i=⟨wr.heap.size,i,none⟩:=by cases i<;>simp[lG]
           rw[e];exact h5
          have LC:=ai Zr;have HAA:=ai hAA;have HOt:=ai hot;have hbo:wo.heap.size+1≤wr.heap.size:=by omega
          clear OB htx Qo hAt Zr sI hot
          go_wp2_with (first
           |(at_builtin;refine wpList_append_own _ rfl _ _ 120 rfl (wo.heap.size+1) 134 i1 (aO #[ah ag 0,ah ag 0,ah ag 0,ah ag 0]) 4 32 Tryz.underlying120 E7 Ov hy1 hy2 rfl (by decide) (ae Rb j c15) j (rowOf ((all.take j).map fun a=>a.only C)) rfl (hAA.alloc (au kk.cells 134)) ⟨wr.heap.size,0,none⟩ 1 1 kk.cells.toList rfl rfl WM.out (by simp[cj]) (by unfold jB;omega) (by omega) (by first|omega|(simp;omega)) ?_;intro v' w5 S2 hgrow hnil
             obtain⟨p16,c16,rfl⟩:=dG S2;have ho5:w5.heap[wo.heap.size]?=some (au #[ah ag b.room,ah ag b.depth,ah ag b.least,ah ag b.minutes,ah ag b.cM,ah ag b.km,ah ag b.eT,ah ag b.j9,ah ag b.ll,ah ag b.lm,ah ag b.pl,ah ag b.pm,ae pm lm cm,ae pn ln cn,ae pk lk ck,ae Rb j c15] 122 (0,0)):=(hgrow.block _ (by simp;omega) (mE hAA HOt.out (by decide))).trans ((aS _ _ _ hol).trans HOt.out);have hC5:=fY (W':=w5) (LC.out.alloc (au kk.cells 134)) fun g hg=>hgrow.block g ((LC.out.alloc (au kk.cells 134)).lt g hg).2 (yG LC.out hAA (by decide) hg);have HO5:=ai ho5;have HC5:=ai hC5;have HW5:=ai S2;have HG5:=ai hgrow;have f15:=cN ho5 15;have z15:=aH ho5 15 (ae Rb j c15) rfl
             clear ho5 hC5 S2 hgrow hnil))
          go_roundw
          case rel=>
           refine⟨j+1,p16,c16,by omega,by simp,cP _ HO5.out,?_,cY HC5.out HO5.out (by decide),(((Q9.out.trans (HBt.out.mono YH)).alloc (by omega) _).grown HG5.out (by simp;omega) (fun g hg=>by have:=(HAA.out.lt g hg).1;omega)).setCell (p:=⟨wo.heap.size,15,none⟩) (ax _) _⟩;rw[HTk.out,Dl];exact cY HW5.out HO5.out (by decide)
          case measure=>simp[intOf];omega
       ·obtain rfl:L=j:=by omega
        rename ar=>wd;have sX:all.take L=all:=cQ (by rw[HL.out];exact ax _);rw[sX] at Kl;have hall:(all.map fun a=>a.only C).length=L:=by rw[dI];exact HL.out
        have hrA:Reads wd (ae Rb L c15) (all.map fun a=>a.only C).length (rowOf (all.map fun a=>a.only C)):=by
         rw[hall];exact Reads.iT Kl (by omega) (by rw[PB,hall];omega)
        have hrC:Reads wd (ae p9 C.length c9) (C.map fun(i:Nat)=>(i:Int)).length ((C.map fun(i:Nat)=>(i:Int)).map (aD ag)):=by
         have h1:=Reads.iT OA (by omega) (by simp);rw[dI,List.map_map];exact h1
        have hSu:=fun W (hb:az wd.heap.size wd W)=>wZ b cS (ae pm lm cm) (ae pn ln cn) (ae pk lk ck) (ae Rb L c15) (all.map fun a=>a.only C) (fun a ha=>by
         obtain⟨x,hx,rfl⟩:=dc.1 ha
         exact eA.Ve (Ra.out x hx) C) (bG pl) Qh W (hrA.below hb)
        have VD:Reads wd (ae p4 lc.length c4) lc.length (lc.map (aD ag)):=HR4.out.below yb;have hpl:Reads wd (ae pZ pl.length qj) pl.length (pl.map (aD ag)):=Jp.out.below (EZ.out.trans ((wS.out.mono EZ.out.size).trans (yb.mono (by have:=EZ.out.size;omega))));have hcm:=fun W (hb:az wd.heap.size wd W)=>qW (C.map fun(i:Nat)=>(i:Int)) lc (ae p9 C.length c9) (ae p4 lc.length c4) W (hrC.below hb) (VD.below hb);have Qg:=fun W (hb:az wd.heap.size wd W)=>kV pl WL.out (ae pZ pl.length qj) W (hpl.below hb);have HSu:=ai hSu;have HCm:=ai hcm;have HPo:=ai Qg;have HRC:=ai hrC;have HRL:=ai VD;have HQd:=ai yb;have HOd:=ai UB;clear hSu hcm Qg hrC VD hrA hpl yb UB Kl OA sX hall;unfold Eu at Uf;obtain⟨g12,V5⟩:∃r,decide ((C.length:Int)>lc.length)=r:=⟨_,rfl⟩
        obtain⟨g20,h20⟩:∃r,((C.length:Int)==(lc.length:Int))=r:=⟨_,rfl⟩
        obtain⟨OV,qz⟩:∃r,decide (gp (C.map fun(i:Nat)=>(i:Int)) lc<0)=r:=⟨_,rfl⟩
        simp only[dI] at Uf;rw[V5,h20,qz] at Uf;generalize b.sure (all.map fun a=>a.only C) (bG pl)=bs at *;go_wp2
        refine Gd.bQ (by kernel_rfl) [
        pV (aO (b.open (ae pm lm cm) (ae pn ln cn) (ae pk lk ck) (ae Rb L c15))),
         pV (ae pZ pl.length qj),
         pV (ah ag (bG pl)),
         pV (aG bs),
         pV (aG bs),
         fun v ds w9=>bs=true→v=aG f,
         fun v ds w9=>bs=true→v=aG (!f),
         pV ((if bs=true then np (!f) else af)),
         fun v ds w9=>(bs && !(!f))=true→v=ae p9 C.length c9,
         fun v ds w9=>(bs && !(!f))=true→v=ah ag C.length,
         fun v ds w9=>(bs && !(!f))=true→v=ae p4 lc.length c4,
         fun v ds w9=>(bs && !(!f))=true→v=ah ag lc.length,
         fun v ds w9=>(bs && !(!f))=true→v=aG g12,
         fun v ds w9=>bs=true→v=aG (!f||g12),
         pV ((if bs=true then np (!f||g12) else af)),
         fun v ds w9=>(bs && !(!f||g12))=true→v=ae p9 C.length c9,
         fun v ds w9=>(bs && !(!f||g12))=true→v=ah ag C.length,
         fun v ds w9=>(bs && !(!f||g12))=true→v=ae p4 lc.length c4,
         fun v ds w9=>(bs && !(!f||g12))=true→v=ah ag lc.length,
         fun v ds w9=>(bs && !(!f||g12))=true→v=aG g20,
         pV ((if (bs && !(!f||g12))=true then np g20 else af)),
         fun v ds w9=>((bs && !(!f||g12))&&g20)=true→v=ae p9 C.length c9,
         fun v ds w9=>((bs && !(!f||g12))&&g20)=true→v=ae p4 lc.length c4,
         fun v ds w9=>((bs && !(!f||g12))&&g20)=true→v=ah ag (gp (C.map fun(i:Nat)=>(i:Int)) lc),
         fun v ds w9=>((bs && !(!f||g12))&&g20)=true→v=aG OV,
         fun v ds w9=>(bs && !(!f||g12))=true→v=aG (g20&&OV),
         fun v ds w9=>bs=true→v=aG ((!f||g12)||(g20&&OV)),
         pV (aG (bs&&((!f||g12)||(g20&&OV))))]
         (fun w9=>az wd.heap.size wd w9) [(1,ae pZ pl.length qj),(4,ae p4 lc.length c4),(5,aG f),(9,ae p9 C.length c9),(10,pv wo.heap.size 0)] (by kernel_rfl) ?rst (fun w1 w2 h hb=>h.trans (hb.mono h.size)) ((aw _ _).drew) ⟨rfl,rfl,rfl,rfl,rfl,trivial⟩ ?reach ?rfin
        case rst=>
         refine⟨sV,sV,sV,sV,sV,fun _ _ _ _ _ h _=>h,fun _ _ _ _ _ h _=>h,sV,fun _ _ _ _ _ h _=>h,fun _ _ _ _ _ h _=>h,fun _ _ _ _ _ h _=>h,fun _ _ _ _ _ h _=>h,fun _ _ _ _ _ h _=>h,fun _ _ _ _ _ h _=>h,sV,fun _ _ _ _ _ h _=>h,fun _ _ _ _ _ h _=>h,fun _ _ _ _ _ h _=>h,fun _ _ _ _ _ h _=>h,fun _ _ _ _ _ h _=>h,sV,fun _ _ _ _ _ h _=>h,fun _ _ _ _ _ h _=>h,fun _ _ _ _ _ h _=>h,fun _ _ _ _ _ h _=>h,fun _ _ _ _ _ h _=>h,fun _ _ _ _ _ h _=>h,sV,trivial⟩
        case reach=>
         refine⟨?_,?_,?_,?_,?_,?_,?_,?_,?_,?_,?_,?_,?_,?_,?_,?_,?_,?_,?_,?_,?_,?_,?_,?_,?_,?_,?_,?_,trivial⟩<;>rintro ev w1 hS hc hg hf ⟨b1,b4,b5,b9,T2,-⟩ hd
         ·clear hd;have q:=(Below.block hS _ (ak.1 HOd.out).1).trans HOd.out;exact Il 122 rfl T2 q Tryz.underlying122 rfl (by kernel_rfl) (rfl)
         ·clear hd;exact tV
         ·have d1:ev (aK 85)=_:=hd.1 rfl;clear hd;refine yq (args:=#[ae pZ pl.length qj]) (HPo.out _ hS) ?_ fun _=>rfl;go_simp
         ·have d0:ev (aK 84)=_:=hd.1 rfl;have d2:ev (aK 86)=_:=hd.2.1 rfl;clear hd;refine yc (args:=#[aO (b.open (ae pm lm cm) (ae pn ln cn) (ae pk lk ck) (ae Rb L c15)),ah ag (bG pl)]) (HSu.out _ hS) ?_ fun _=>rfl;go_simp
         ·have d3:ev (aK 87)=_:=hd.1 rfl;clear hd;exact tV
         ·have d4:ev (aK 88)=_:=hd.1 rfl;clear hd;refine⟨fun hgd=>?_,fun hgd=>⟨?_,cA (aw _ _)⟩⟩
          ·have hA:=gA.1 (d4.symm.trans hgd);refine yv (v:=(aG f:aj)) ?_ (fun _=>rfl);go_simp
          ·intro hc;exact absurd (d4.trans (gA.2 hc)) hgd
         ·have d5:bs=true→(ev (aK 89))=aG f:=hd.1 rfl;have d4:ev (aK 88)=_:=hd.2.1 rfl;clear hd;refine⟨fun hgd=>?_,fun hgd=>⟨?_,cA (aw _ _)⟩⟩
          ·have hA:=gA.1 (d4.symm.trans hgd);have y5:=d5 hA;refine yv (v:=(aG (!f):aj)) ?_ (fun _=>rfl);go_simp
          ·intro hc;exact absurd (d4.trans (gA.2 hc)) hgd
         ·have d6:bs=true→(ev (aK 90))=aG (!f):=hd.1 rfl;have d4:ev (aK 88)=_:=hd.2.1 rfl;clear hd;refine⟨fun hgd=>?_,fun hgd=>⟨?_,cA (aw _ _)⟩⟩
          ·have hA:=gA.1 (d4.symm.trans hgd);have y6:=d6 hA;refine yv (v:=aG (!f)) ?_ ((if_pos hA).symm);go_simp
          ·exact(if_neg (fun hc=>absurd (d4.trans (gA.2 hc)) hgd)).symm
         ·have d7:ev (aK 91)=_:=hd.1 rfl;clear hd;refine⟨fun hgd=>?_,fun hgd=>⟨?_,cA (aw _ _)⟩⟩
          ·have hA:=gB.1 (d7.symm.trans hgd);refine yv (v:=(ae p9 C.length c9:aj)) ?_ (fun _=>rfl);go_simp
          ·intro hc;exact absurd (d7.trans (gB.2 hc)) hgd
         ·have d8:(bs && !(!f))=true→(ev (aK 92))=ae p9 C.length c9:=hd.1 rfl;have d7:ev (aK 91)=_:=hd.2.1 rfl;clear hd;refine⟨fun hgd=>?_,fun hgd=>⟨?_,cA (aw _ _)⟩⟩
          ·have hA:=gB.1 (d7.symm.trans hgd);have y8:=d8 hA;refine yv (v:=(ah ag C.length:aj)) ?_ (fun _=>rfl);go_simp
          ·intro hc;exact absurd (d7.trans (gB.2 hc)) hgd
         ·have d7:ev (aK 91)=_:=hd.1 rfl;clear hd;refine⟨fun hgd=>?_,fun hgd=>⟨?_,cA (aw _ _)⟩⟩
          ·have hA:=gB.1 (d7.symm.trans hgd);refine yv (v:=(ae p4 lc.length c4:aj)) ?_ (fun _=>rfl);go_simp
          ·intro hc;exact absurd (d7.trans (gB.2 hc)) hgd
         ·have d10:(bs && !(!f))=true→(ev (aK 94))=ae p4 lc.length c4:=hd.1 rfl;have d7:ev (aK 91)=_:=hd.2.1 rfl;clear hd;refine⟨fun hgd=>?_,fun hgd=>⟨?_,cA (aw _ _)⟩⟩
          ·have hA:=gB.1 (d7.symm.trans hgd);have LR:=d10 hA;refine yv (v:=(ah ag lc.length:aj)) ?_ (fun _=>rfl);go_simp
          ·intro hc;exact absurd (d7.trans (gB.2 hc)) hgd
         ·have d9:(bs && !(!f))=true→(ev (aK 93))=ah ag C.length:=hd.1 rfl;have d11:(bs && !(!f))=true→(ev (aK 95))=ah ag lc.length:=hd.2.1 rfl;have d7:ev (aK 91)=_:=hd.2.2.1 rfl;clear hd;refine⟨fun hgd=>?_,fun hgd=>⟨?_,cA (aw _ _)⟩⟩
          ·have hA:=gB.1 (d7.symm.trans hgd);have y9:=d9 hA;have NS:=d11 hA;refine yv (v:=aG g12) ?_ (fun _=>rfl);rw[←V5];go_simp
          ·intro hc;exact absurd (d7.trans (gB.2 hc)) hgd
         ·have d7:ev (aK 91)=_:=hd.1 rfl;have d12:(bs && !(!f))=true→(ev (aK 96))=aG g12:=hd.2.1 rfl;have d4:ev (aK 88)=_:=hd.2.2.1 rfl;clear hd;refine⟨fun hgd=>?_,fun hgd=>⟨?_,cA (aw _ _)⟩⟩
          ·have hA:=gA.1 (d4.symm.trans hgd);rcases Bool.eq_false_or_eq_true f with hf|hf
           ·have y7:ev (aK 91)=aG false:=by rw[d7,if_pos hA,hf];rfl
            clear d7;have NQ:=d12 (by rw[hA,hf];rfl);refine yv (v:=aG g12) ?_ (fun _=>by rw[hf];simp);go_simp
           ·have y7:ev (aK 91)=aG true:=by rw[d7,if_pos hA,hf];rfl
            clear d7;refine yv (v:=aG true) ?_ (fun _=>by rw[hf];simp);go_simp
          ·intro hc;exact absurd (d4.trans (gA.2 hc)) hgd
         ·have d13:bs=true→(ev (aK 97))=aG (!f||g12):=hd.1 rfl;have d4:ev (aK 88)=_:=hd.2.2.1 rfl;clear hd;refine⟨fun hgd=>?_,fun hgd=>⟨?_,cA (aw _ _)⟩⟩
          ·have hA:=gA.1 (d4.symm.trans hgd);have NP:=d13 hA;refine yv (v:=aG (!f||g12)) ?_ ((if_pos hA).symm);go_simp
          ·exact(if_neg (fun hc=>absurd (d4.trans (gA.2 hc)) hgd)).symm
         ·have d14:ev (aK 98)=_:=hd.1 rfl;clear hd;refine⟨fun hgd=>?_,fun hgd=>⟨?_,cA (aw _ _)⟩⟩
          ·have hA:=gB.1 (d14.symm.trans hgd);refine yv (v:=(ae p9 C.length c9:aj)) ?_ (fun _=>rfl);go_simp
          ·intro hc;exact absurd (d14.trans (gB.2 hc)) hgd
         ·have d15:(bs && !(!f||g12))=true→(ev (aK 99))=ae p9 C.length c9:=hd.1 rfl;have d14:ev (aK 98)=_:=hd.2.1 rfl;clear hd;refine⟨fun hgd=>?_,fun hgd=>⟨?_,cA (aw _ _)⟩⟩
          ·have hA:=gB.1 (d14.symm.trans hgd);have G9:=d15 hA;refine yv (v:=(ah ag C.length:aj)) ?_ (fun _=>rfl);go_simp
          ·intro hc;exact absurd (d14.trans (gB.2 hc)) hgd
         ·have d14:ev (aK 98)=_:=hd.1 rfl;clear hd;refine⟨fun hgd=>?_,fun hgd=>⟨?_,cA (aw _ _)⟩⟩
          ·have hA:=gB.1 (d14.symm.trans hgd);refine yv (v:=(ae p4 lc.length c4:aj)) ?_ (fun _=>rfl);go_simp
          ·intro hc;exact absurd (d14.trans (gB.2 hc)) hgd
         ·have d17:(bs && !(!f||g12))=true→(ev (aK 101))=ae p4 lc.length c4:=hd.1 rfl;have d14:ev (aK 98)=_:=hd.2.1 rfl;clear hd;refine⟨fun hgd=>?_,fun hgd=>⟨?_,cA (aw _ _)⟩⟩
          ·have hA:=gB.1 (d14.symm.trans hgd);have y17:=d17 hA;refine yv (v:=(ah ag lc.length:aj)) ?_ (fun _=>rfl);go_simp
          ·intro hc;exact absurd (d14.trans (gB.2 hc)) hgd
         ·have d16:(bs && !(!f||g12))=true→(ev (aK 100))=ah ag C.length:=hd.1 rfl;have d18:(bs && !(!f||g12))=true→(ev (aK 102))=ah ag lc.length:=hd.2.1 rfl;have d14:ev (aK 98)=_:=hd.2.2.1 rfl;clear hd;refine⟨fun hgd=>?_,fun hgd=>⟨?_,cA (aw _ _)⟩⟩
          ·have hA:=gB.1 (d14.symm.trans hgd);have y16:=d16 hA;have y18:=d18 hA;refine yv (v:=aG g20) ?_ (fun _=>rfl);rw[←h20];go_simp
          ·intro hc;exact absurd (d14.trans (gB.2 hc)) hgd
         ·have d19:(bs && !(!f||g12))=true→(ev (aK 103))=aG g20:=hd.1 rfl;have d14:ev (aK 98)=_:=hd.2.1 rfl;clear hd;refine⟨fun hgd=>?_,fun hgd=>⟨?_,cA (aw _ _)⟩⟩
          ·have hA:=gB.1 (d14.symm.trans hgd);have y19:=d19 hA;refine yv (v:=aG g20) ?_ ((if_pos hA).symm);go_simp
          ·exact(if_neg (fun hc=>absurd (d14.trans (gB.2 hc)) hgd)).symm
         ·have d20:ev (aK 104)=_:=hd.1 rfl;clear hd;refine⟨fun hgd=>?_,fun hgd=>⟨?_,cA (aw _ _)⟩⟩
          ·have hA:=XB.1 (d20.symm.trans hgd);refine yv (v:=(ae p9 C.length c9:aj)) ?_ (fun _=>rfl);go_simp
          ·intro hc;exact absurd (d20.trans (XB.2 hc)) hgd
         ·have d20:ev (aK 104)=_:=hd.1 rfl;clear hd;refine⟨fun hgd=>?_,fun hgd=>⟨?_,cA (aw _ _)⟩⟩
          ·have hA:=XB.1 (d20.symm.trans hgd);refine yv (v:=(ae p4 lc.length c4:aj)) ?_ (fun _=>rfl);go_simp
          ·intro hc;exact absurd (d20.trans (XB.2 hc)) hgd
         ·have d21:((bs && !(!f||g12))&&g20)=true→(ev (aK 105))=ae p9 C.length c9:=hd.1 rfl;have d22:((bs && !(!f||g12))&&g20)=true→(ev (aK 106))=ae p4 lc.length c4:=hd.2.1 rfl;have d20:ev (aK 104)=_:=hd.2.2.1 rfl;clear hd;refine⟨fun hgd=>?_,fun hgd=>⟨?_,cA (aw _ _)⟩⟩
          ·have hA:=XB.1 (d20.symm.trans hgd);have y21:=d21 hA;have y22:=d22 hA;refine Lag.Yields.call (f:=98) (args:=#[ae p9 C.length c9,ae p4 lc.length c4]) ?_ (HCm.out _ hS) ?_
           ·go_simp
           ·rintro e w2 ⟨rfl,rfl⟩;exact⟨_,rfl,fun _=>rfl,cA (aw _ _)⟩
          ·intro hc;exact absurd (d20.trans (XB.2 hc)) hgd
         ·have d23:((bs && !(!f||g12))&&g20)=true→(ev (aK 107))=ah ag (gp (C.map fun(i:Nat)=>(i:Int)) lc):=hd.1 rfl;have d20:ev (aK 104)=_:=hd.2.1 rfl;clear hd;refine⟨fun hgd=>?_,fun hgd=>⟨?_,cA (aw _ _)⟩⟩
          ·have hA:=XB.1 (d20.symm.trans hgd);have y23:=d23 hA;refine yv (v:=aG OV) ?_ (fun _=>rfl);rw[←qz];go_simp
          ·intro hc;exact absurd (d20.trans (XB.2 hc)) hgd
         ·have d20:ev (aK 104)=_:=hd.1 rfl;have d24:((bs && !(!f||g12))&&g20)=true→(ev (aK 108))=aG OV:=hd.2.1 rfl;have d14:ev (aK 98)=_:=hd.2.2.1 rfl;clear hd;refine⟨fun hgd=>?_,fun hgd=>⟨?_,cA (aw _ _)⟩⟩
          ·have hA:=gB.1 (d14.symm.trans hgd);have y20:ev (aK 104)=aG g20:=by rw[d20,if_pos hA]
           clear d20;rcases Bool.eq_false_or_eq_true g20 with hf|hf
           ·have y24:=d24 (by rw[hA,hf];rfl);rw[hf] at y20;refine yv (v:=aG OV) ?_ (fun _=>by rw[hf];simp);go_simp
           ·rw[hf] at y20;refine yv (v:=aG false) ?_ (fun _=>by rw[hf];simp);go_simp
          ·intro hc;exact absurd (d14.trans (gB.2 hc)) hgd
         ·have d14:ev (aK 98)=_:=hd.1 rfl;have d25:(bs && !(!f||g12))=true→(ev (aK 109))=aG (g20&&OV):=hd.2.1 rfl;have d4:ev (aK 88)=_:=hd.2.2.1 rfl;clear hd;refine⟨fun hgd=>?_,fun hgd=>⟨?_,cA (aw _ _)⟩⟩
          ·have hA:=gA.1 (d4.symm.trans hgd);have Js:ev (aK 98)=aG (!f||g12):=by rw[d14,if_pos hA]
           clear d14;rcases Bool.eq_false_or_eq_true (!f||g12) with hf | hf
           ·rw[hf] at Js;refine yv (v:=aG true) ?_ (fun _=>by rw[hf];simp);go_simp
           ·have y25:=d25 (by rw[hA,hf];rfl);rw[hf] at Js;refine yv (v:=aG (g20&&OV)) ?_ (fun _=>by rw[hf];simp);go_simp
          ·intro hc;exact absurd (d4.trans (gA.2 hc)) hgd
         ·have d4:ev (aK 88)=_:=hd.1 rfl;have d26:bs=true→(ev (aK 110))=aG ((!f||g12)||(g20&&OV)):=hd.2.1 rfl;clear hd;rcases Bool.eq_false_or_eq_true bs with hf|hf
          ·have y26:=d26 hf;have y4:ev (aK 88)=aG true:=d4.trans (gA.2 hf);refine yv (v:=aG ((!f||g12)||(g20&&OV))) ?_ (by show _=np _;rw[hf];simp);go_simp
          ·have y4:ev (aK 88)=aG false:=d4.trans (by rw[hf]);refine yv (v:=aG false) ?_ (by show _=np _;rw[hf];simp);go_simp
        case rfin=>
         intro a3 w3 hR;have hS:=hR.s;have e27:a3.tmps.getD 111 af=_:=hR.val 27 (by decide);have ha:=hR.lits 116 rfl;simp only[aU,bT,nt] at ha;rw[hR.kp 0 (by kernel_rfl),hR.kp 1 (by kernel_rfl),hR.kp 2 (by kernel_rfl),hR.kp 3 (by kernel_rfl),hR.kp 4 (by kernel_rfl),hR.kp 5 (by kernel_rfl),hR.kp 6 (by kernel_rfl),hR.kp 7 (by kernel_rfl),hR.kp 8 (by kernel_rfl),hR.kp 9 (by kernel_rfl),hR.kp 10 (by kernel_rfl),hR.kp 12 (by kernel_rfl),hR.kp 15 (by kernel_rfl),hR.kp 17 (by kernel_rfl),hR.kp 18 (by kernel_rfl),hR.kp 19 (by kernel_rfl),hR.kp 20 (by kernel_rfl),hR.kp 21 (by kernel_rfl),hR.kp 22 (by kernel_rfl),hR.kp 23 (by kernel_rfl),hR.kp 24 (by kernel_rfl),hR.kp 25 (by kernel_rfl),hR.kp 26 (by kernel_rfl),hR.kp 27 (by kernel_rfl),hR.kp 28 (by kernel_rfl),hR.kp 29 (by kernel_rfl),hR.kp 30 (by kernel_rfl),hR.kp 31 (by kernel_rfl),hR.kp 114 (by kernel_rfl),hR.kp 115 (by kernel_rfl)] at ha;simp only[ku,fT,fS] at ha;clear hR;rw[e27] at ha;generalize a3.tmps.getD=zz at ha;have o9:=ai hS;clear e27 hS;subst ha;obtain⟨r,hr⟩:∃r,(bs&&((!f||g12)||(g20&&OV)))=r:=⟨_,rfl⟩
         rw[hr] at Uf;rw[hr];clear hr;have ag8:=ai (HRL.out.below o9.out);have ag7:=ai (HRC.out.below o9.out);have HBf:=ai (wS.out.trans ((HQd.out.trans (o9.out.mono HQd.out.size)).mono hsz));cases r
         ·have hs:iA b all (bG pl) lm (M+1)=(lc,f):=by rw[Uf.out];rfl
          have HS:=ai hs;clear hs;go_wp2;go_roundw
          case rel=>
           refine⟨M+1,p4,c4,by omega,by simp,?_,?_,?_,HBf.out⟩
           ·rw[HS.out]
           ·rw[HS.out]
           ·rw[HS.out];exact ag8.out
          case measure=>simp[intOf];omega
         ·have hs:iA b all (bG pl) lm (M+1)=(C.map fun(i:Nat)=>(i:Int),true):=by rw[Uf.out];rfl
          have HS:=ai hs;clear hs;go_wp2;go_roundw
          case rel=>
           refine⟨M+1,p9,c9,by omega,by simp,?_,?_,?_,HBf.out⟩
           ·rw[HS.out]
           ·rw[HS.out];simp
           ·rw[HS.out];have:=ag7.out;simp only[dI] at this ⊢;exact this
          case measure=>simp[intOf];omega
   ·obtain rfl:N=M:=by omega
    have HN1:=ai eh;have HR1:=ai hr4;clear eh hr4;rw[HN0.out] at HR1;go_wp2
    go_ret3
    exact⟨ae p4 (iA b all (bG pl) lm N).1.length c4,by rw[←HN0.out];rfl,by rw[←HN0.out] at HR1 ⊢;exact HR1.out,EZ.out.trans (HN1.out.mono EZ.out.size)⟩
def afv(ml:List Mn)(i:Nat):Int:=match ml[i]? with|some m=>m.hi|none=>0
def most(b:BB)(ml:List Mn)(c:List Nat):Int:=b.lm+(c.map (afv ml)).sum
theorem IZ{n mask i:Nat}(h:i∈cJ n mask):i<n:=bB.1 (gi.1 h).1
theorem GG:∀xs:List Int,gp xs xs=0
 |[]=>rfl
 |x::xs=>by simp[gp,ve,GG xs]
theorem xH:∀(xs ys zs:List Int),gp xs ys<0→gp ys zs<0→gp xs zs<0
 |[],[],zs,h,_=>by simp[gp] at h
 |[],y::ys,[],_,h=>by simp[gp] at h
 |[],y::ys,z::zs,_,_=>by simp[gp]
 |x::xs,[],zs,h,_=>by simp[gp] at h
 |x::xs,y::ys,[],_,h=>by simp[gp] at h
 |x::xs,y::ys,z::zs,h1,h2=>by
  unfold gp at h1 h2 ⊢;have h3:=xH xs ys zs;unfold ve at *
  by_cases a1:x<y
  ·by_cases a2:y<z
   ·have:x<z:=by omega
    simp[this]
   ·by_cases a3:z<y
    ·simp[a2,a3] at h2
    ·have:x<z:=by omega
     simp[this]
  ·by_cases a3:y<x
   ·simp[a1,a3] at h1
   ·have e:x=y:=by omega
    subst e
    by_cases a2:x<z
    ·simp[a2]
    ·by_cases a4:z<x
     ·simp[a2,a4] at h2
     ·simp[a2,a4] at h1 h2 ⊢;exact h3 h1 h2
theorem BO:∀xs ys:List Int,dV xs ys=decide (gp xs ys<0)
 |[],[]=>by simp[dV,gp]
 |[],y::ys=>by simp[dV,gp]
 |x::xs,[]=>by simp[dV,gp]
 |x::xs,y::ys=>by
  have ih:=BO xs ys;unfold dV gp ve
  by_cases a1:x<y
  ·simp[a1]
  ·by_cases a2:y<x
   ·simp[a1,a2]
   ·simp[a1,a2,ih]
def Bet(c l:List Int):Prop:=l.length<c.length∨(c.length=l.length∧gp c l<0)
theorem Bet.trans{a b c:List Int}(h1:Bet a b)(h2:Bet b c):Bet a c:=by
 rcases h1 with h1|⟨h1,h3⟩<;>rcases h2 with h2|⟨h2,h4⟩
 ·exact cA (by omega)
 ·exact cA (by omega)
 ·exact cA (by omega)
 ·exact .inr ⟨h1.trans h2,xH _ _ _ h3 h4⟩
theorem KZ(n m:Nat):(cJ n m).Pairwise (· < ·):=List.pairwise_lt_range.sublist List.filter_sublist
theorem QI(n m i:Nat)(h:i<(dt n m).length):∃k:Nat,(dt n m)[i]=(k:Int)∧k<n:=by
 unfold dt at h ⊢;rw[List.getElem_map];exact⟨_,rfl,IZ (cu _)⟩
theorem Nk(n m:Nat)(hn:n≤3):lM (n:Int) (dt n m)=0:=by
 unfold lM;rw[nN]
 ·rfl
 intro i hi;unfold lr;obtain⟨k,hk,hkn⟩:=QI n m i hi;have e:(dt n m).getD i 0=(k:Int):=by rw[wB,dE hi,hk];rfl
 have h1:aQ ((dt n m).getD i 0) 0 ((n:Int)-1)=true:=by rw[e];unfold aQ;simp;omega
 rw[h1];simp only[Bool.not_true,Bool.false_eq_true,if_false];rw[if_neg];rintro⟨h0,h2⟩;have hi':i-1<(dt n m).length:=by omega
 have e2:(dt n m).getD (i-1) 0=(dt n m)[i-1]:=by rw[wB,dE hi'];rfl
 have e1:(dt n m).getD i 0=(dt n m)[i]:=by rw[wB,dE hi];rfl
 rw[e1,e2] at h2;have hc:i<(cJ n m).length:=by unfold dt at hi;simpa using hi
 have hs:=List.pairwise_iff_getElem.1 (KZ n m) (i-1) i (by omega) hc (by omega)
 have g:∀j (hj:j<(dt n m).length) (S9:j<(cJ n m).length),(dt n m)[j]=((cJ n m)[j]:Int):=fun j hj S9=>by
  unfold dt;exact List.getElem_map ..
 rw[g i hi hc,g (i-1) hi' (by omega)] at h2;omega
theorem Ae(x y:List Int):fV x y=true↔x.length<y.length∨(x.length=y.length∧gp x y<0):=by
 unfold fV;simp
theorem sW(x:List Int):fV x x=false:=by
 cases h:fV x x with
 |false=>rfl
 |true=>
  rcases(Ae _ _).1 h with h|⟨_,h⟩
  ·omega
  ·rw[GG] at h;omega
theorem uR{x y z:List Int}(h1:fV x y=true)(h2:fV y z=true):fV x z=true:=by
 rw[Ae] at *;rcases h1 with h1|⟨h1,h3⟩<;>rcases h2 with h2|⟨h2,h4⟩
 ·exact cA (by omega)
 ·exact cA (by omega)
 ·exact cA (by omega)
 ·exact .inr ⟨h1.trans h2,xH _ _ _ h3 h4⟩
theorem GR:∀(more:List (List Int)) (first:List Int),ub first more=first∨ub first more∈more
 |[],first=>cA rfl
 |x::more,first=>by
  have e:ub first (x::more)=ub (if fV x first then x else first) more:=rfl
  rw[e];rcases GR more (if fV x first then x else first) with h|h
  ·rw[h];split
   ·exact .inr (by simp)
   ·exact cA rfl
  ·exact .inr (bI _ h)
theorem BW:∀(more:List (List Int)) (first:List Int),(∀y,fV y (ub first more)=true→fV y first=true)∧∀y∈first::more,fV y (ub first more)=false
 |[],first=>⟨fun _ h=>h,fun y hy=>by simp at hy;subst hy;exact sW _⟩
 |x::more,first=>by
  have e:ub first (x::more)=ub (if fV x first then x else first) more:=rfl
  rw[e];obtain⟨h1,h2⟩:=BW more (if fV x first then x else first);generalize ub (if fV x first then x else first) more=B at *;have h3:=h2 _ (cR ..)
  have Gw:∀y,fV y B=true→fV y first=true:=fun y hy=>by
   have:=h1 y hy;split at this
   ·rename_i hx;exact uR this hx
   ·exact this
  have hno:∀y,fV B y=true→fV y B=false:=fun y hy=>by
   cases hc:fV y B with
   |false=>rfl
   |true=>have:=uR hy hc;rw[sW] at this;cases this
  refine⟨Gw,fun y hy=>?_⟩;rcases bR.1 hy with rfl|hy
  ·by_cases hx:fV x y=true
   ·rw[if_pos hx] at h3;cases hc:fV y B with
    |false=>rfl
    |true=>have:=uR hx hc;rw[this] at h3;cases h3
   ·rw[if_neg hx] at h3;exact h3
  ·rcases bR.1 hy with rfl|hy
   ·cases hc:fV y B with
    |false=>rfl
    |true=>
     have:=h1 y hc;split at this
     ·rw[sW] at this;cases this
     ·rename_i hx;exact absurd this hx
   ·exact h2 y (bI _ hy)
theorem Na:∀n,n≤3→∀q,q<2 ^ n→∀i,i<(dt n q).length→∃r,r<2 ^ n∧(dt n q).eraseIdx i=dt n r:=by
 intro n hn q hq i hi;have hl:(dt n q).length≤3:=by unfold dt;rw[dI];have:=iO n q;omega
 have h1:n=0∨n=1∨n=2∨n=3:=by omega
 have h2:q=0∨q=1∨q=2∨q=3∨q=4∨q=5∨q=6∨q=7:=by
  have:2 ^ n≤2 ^ 3:=Nat.pow_le_pow_right (by decide) hn;omega
 have h3:i=0∨i=1∨i=2:=by omega
 rcases h1 with rfl|rfl|rfl|rfl<;>rcases h2 with rfl|rfl|rfl|rfl|rfl|rfl|rfl|rfl<;>rcases h3 with rfl|rfl|rfl<;>
  first
   |exact absurd hq (by decide)
   |exact absurd hi (by decide)
   |exact⟨0,by decide,by decide⟩
   |exact⟨1,by decide,by decide⟩
   |exact⟨2,by decide,by decide⟩
   |exact⟨3,by decide,by decide⟩
   |exact⟨4,by decide,by decide⟩
   |exact⟨5,by decide,by decide⟩
   |exact⟨6,by decide,by decide⟩
structure Cl9(b:BB)(ml:List Mn)(ss:List Int)(ms:List Mk)(L:List Int):Prop where
 adb:lM (ms.length:Int) L=0
 len:L.length≤3
 some:bn b ml ss ms≠[]→L=[]
 none:bn b ml ss ms=[]→L≠[]∧∃q,q<2 ^ ms.length∧L=dt ms.length q∧jl b ml ss ms q=true∧(∀m,m<2 ^ ms.length→jl b ml ss ms m=true→fV (dt ms.length m) L=false)∧
  ∀i,i<L.length→∃r,r<2 ^ ms.length∧L.eraseIdx i=dt ms.length r∧jl b ml ss ms r=false
theorem QN{b:BB}(hb:b.Ok){ml:List Mn}(hm:wQ ml)(ss:List Int){ms:List Mk}(hk:jF b ms):Cl9 b ml ss ms (kj b ml ss ms):=by
 have h3:=hk.len
 by_cases hc:bn b ml ss ms=[]
 ·have hne:=Sj (ss:=ss) hc;have hmem:∀m,m<2 ^ ms.length→jl b ml ss ms m=true→dt ms.length m∈xk b ml ss ms (2 ^ ms.length):=fun m h1 h2=>dc.2 ⟨m,gi.2 ⟨bB.2 h1,h2⟩,rfl⟩
  have hL:kj b ml ss ms∈xk b ml ss ms (2 ^ ms.length)∧∀y∈xk b ml ss ms (2 ^ ms.length),fV y (kj b ml ss ms)=false:=by
   unfold kj;rw[if_neg (not_not_intro hc)];cases ho:xk b ml ss ms (2 ^ ms.length) with
   |nil=>exact absurd ho hne
   |cons f r=>
    simp only[];refine⟨?_,(BW r f).2⟩;rcases GR r f with h|h
    ·rw[h];exact cR ..
    ·exact bI _ h
  generalize kj b ml ss ms=L at *;obtain⟨q,hq,rfl⟩:=dc.1 hL.1;obtain⟨UA,ML⟩:=gi.1 hq;have UA:=bB.1 UA;have hlen:(dt ms.length q).length≤3:=by unfold dt;rw[dI];have:=iO ms.length q;omega
  refine⟨Nk _ _ h3,hlen,fun h=>absurd hc h,fun _=>⟨fun h0=>?_,q,UA,rfl,ML,fun m h1 h2=>hL.2 _ (hmem m h1 h2),fun i hi=>?_⟩⟩
  ·have h4:cJ ms.length q=[]:=by unfold dt at h0;exact List.map_eq_nil_iff.1 h0
   unfold jl at ML;rw[h4] at ML;exact FL hb hm ss (of_decide_eq_true ML)
  ·obtain⟨r,h1,h2⟩:=Na ms.length h3 q UA i hi;refine⟨r,h1,h2,?_⟩;cases hr:jl b ml ss ms r with
   |false=>rfl
   |true=>
    have h5:=hL.2 _ (hmem r h1 hr);have h6:(dt ms.length r).length<(dt ms.length q).length:=by rw[←h2,List.length_eraseIdx_of_lt hi];omega
    rw[(Ae _ _).2 (cA h6)] at h5;cases h5
 ·have e:kj b ml ss ms=[]:=by unfold kj;rw[if_pos hc]
  rw[e];exact⟨rfl,by simp,fun _=>rfl,fun h=>absurd h hc⟩
structure NF(k:Nat)(bk zb:Array aj)(o:aj→Array aj)(w0:ar)(mv:aj)(n:Nat)(rows:List aj)(A C:Bool)(w:ar):Prop where
 one:w.heap[k]?=some (au bk 28 (0,0))
 two:w.heap[k+1]?=some (au zb 28 (0,0))
 three:C=false→w.heap[k+2]?=some (au (o mv) 28 (0,0))
 own:A=false→w.ownsRow (k+3) 81 3 mv n rows
 below:az k w0 w
 size:k+3≤w.heap.size
section
variable{k n:Nat}{bk zb:Array aj}{o:aj→Array aj}{w0 w1 w2:ar}{mv:aj}{rows:List aj}{A A' C C':Bool}
theorem NF.next(hA:A'=false→A=false)(hC:C'=false→C=false)(h:NF k bk zb o w0 mv n rows A C w1)(hb:az w1.heap.size w1 w2):NF k bk zb o w0 mv n rows A' C' w2:=by
 have hs:=h.size;exact⟨(hb.block _ (by omega)).trans h.one,(hb.block _ (by omega)).trans h.two,fun e=>(hb.block _ (by omega)).trans (h.three (hC e)),fun e=>cy (h.own (hA e)) hb,h.below.trans (hb.mono (by omega)),aN hs hb.size⟩
theorem NF.grown{row:Option Nat}(hA:A'=true)(hC:C'=C)(h:NF k bk zb o w0 mv n rows A C w1)(g:w1.grownBy w2 row)(hr:∀q,row=some q→k+3≤q):NF k bk zb o w0 mv n rows A' C' w2:=by
 subst hC;have hs:=h.size;have hn:∀q,q<k+3→some q≠row:=fun q hq e=>by have:=hr q e.symm;omega
 exact⟨(g.block _ (by omega) (hn _ (by omega))).trans h.one,(g.block _ (by omega) (hn _ (by omega))).trans h.two,fun e=>(g.block _ (by omega) (hn _ (by omega))).trans (h.three e),(fun e=>by rw[hA] at e;cases e),h.below.grown g (by omega) (fun q hq=>by have:=hr q hq;omega),aN hs g.size⟩
theorem NF.put(h:NF k bk zb o w0 mv n rows A C w1){cs:Array aj}(hB:w1.heap[k+2]?=some (au cs 28 (0,0)))(hA:A'=A)(u:aj)(i:Nat):NF k bk zb o w0 mv n rows A' true (w1.setCell ⟨k+2,i,none⟩ u):=by
 subst hA;have hn:∀q,q≠k+2→(w1.setCell ⟨k+2,i,none⟩ u).heap[q]?=w1.heap[q]?:=fun q hq=>bj _ _ _ _ hq;exact⟨(hn _ (by omega)).trans h.one,(hn _ (by omega)).trans h.two,(fun e=>by cases e),fun e=>cY (h.own e) hB (by decide),h.below.setCell (p:=⟨k+2,i,none⟩) (by show k≤k+2;omega) _,by simpa using h.size⟩
theorem NF.drew(h:NF k bk zb o w0 mv n rows A C w1):NF k bk zb o w0 mv n rows A C w1.drew:=⟨h.one,h.two,h.three,fun e=>cy (h.own e) (aw _ _).drew,h.below.drew,h.size⟩
end
theorem PW(ms:List Mk)(c:List Nat)(k:Nat)(hk:k<c.length)(hi:c[k]<ms.length):dm (gw ms (c.take (k+1)))=dm (gw ms (c.take k))++ms[c[k]].cells.toList:=by
 rw[bN hk];unfold gw;rw[List.filterMap_append];simp[dm,dE hi]
theorem abG{w:ar}{gm om cap n:Nat}{ms:List Mk}(h:Reads w (ae (some ⟨gm,om,none⟩) n cap) ms.length (dm ms))(i j:Nat)(hi:i<ms.length)(hj:j<3)(u:aj)(hu:ms[i].cells[j]?=some u):w.cell? ⟨gm,om+i*3+j,none⟩=some u:=by
 rcases h with⟨h0,_,_⟩|⟨g,off,cap',h0,_,_,h4⟩
 ·cases h0
 ·cases h0;have:=h4 (3*i+j) u (by rw[pF ms i j hi hj];exact hu);rwa [show om+i*3+j=om+(3*i+j) by omega]
theorem R9(b:BB)(p1 pc p2 p3:Option cU)(c1 cc n2 c2 n3 c3:Nat)(ms:List Mk)(c:List Nat)(hlen:ms.length≤3)(hcl:c.length≤3)(hc:∀i∈c,i<ms.length)(w:ar)(hm:Reads w (ae p1 ms.length c1) ms.length (dm ms))(hx:Reads w (ae pc c.length cc) c.length (c.map fun i=>aD ag (i:Nat))) :
  bm aq 51 #[aO (b.cells (ae p2 n2 c2) (ae p3 n3 c3) (ae p1 ms.length c1)),ae pc c.length cc] w fun e w'=>∃v,e=aF (aO (b.cells (ae p2 n2 c2) (ae p3 n3 c3) v))∧Reads w' v c.length (dm (gw ms c))∧az w.heap.size w w':=by
 obtain⟨i1,E7,Ov,hy1,hy2⟩:=jT DW;have HM:=ai hm;have HX:=ai hx;have HC:=ai hc;generalize hl:ms.length=L at *;generalize VQ:c.length=N at *;have HL:=ai hl;have HN:=ai VQ;have hs0:(((w.alloc (au (b.cells (ae p2 n2 c2) (ae p3 n3 c3) (ae p1 L c1)) 28)).alloc (au #[ah ag 0,ah ag 0,ah ag 0,ah ag 0,ah ag 0,ah ag 0,ah ag 0,ah ag 0,ah ag 0,ah ag 0,ah ag 0,ah ag 0,ae none 0 0,ae none 0 0,ae none 0 0] 28)).alloc (au (b.cells (ae p2 n2 c2) (ae p3 n3 c3) (ae none 0 0)) 28)).heap.size=w.heap.size+3:=by simp
 have XS:Hid (NF w.heap.size (b.cells (ae p2 n2 c2) (ae p3 n3 c3) (ae p1 L c1)) #[ah ag 0,ah ag 0,ah ag 0,ah ag 0,ah ag 0,ah ag 0,ah ag 0,ah ag 0,ah ag 0,ah ag 0,ah ag 0,ah ag 0,ae none 0 0,ae none 0 0,ae none 0 0] (fun u=>b.cells (ae p2 n2 c2) (ae p3 n3 c3) u) w (ae none 0 0) 0 [] false false (((w.alloc (au (b.cells (ae p2 n2 c2) (ae p3 n3 c3) (ae p1 L c1)) 28)).alloc (au #[ah ag 0,ah ag 0,ah ag 0,ah ag 0,ah ag 0,ah ag 0,ah ag 0,ah ag 0,ah ag 0,ah ag 0,ah ag 0,ah ag 0,ae none 0 0,ae none 0 0,ae none 0 0] 28)).alloc (au (b.cells (ae p2 n2 c2) (ae p3 n3 c3) (ae none 0 0)) 28))):=
  ai ⟨(aS _ _ _ (by simp;omega)).trans ((aS _ _ _ (by simp)).trans (ay w _)),(aS _ _ _ (by simp)).trans (by have:=ay (w.alloc (au (b.cells (ae p2 n2 c2) (ae p3 n3 c3) (ae p1 L c1)) 28)) (au #[ah ag 0,ah ag 0,ah ag 0,ah ag 0,ah ag 0,ah ag 0,ah ag 0,ah ag 0,ah ag 0,ah ag 0,ah ag 0,ah ag 0,ae none 0 0,ae none 0 0,ae none 0 0] 28);simpa using this),fun _=>(by have:=ay ((w.alloc (au (b.cells (ae p2 n2 c2) (ae p3 n3 c3) (ae p1 L c1)) 28)).alloc (au #[ah ag 0,ah ag 0,ah ag 0,ah ag 0,ah ag 0,ah ag 0,ah ag 0,ah ag 0,ah ag 0,ah ag 0,ah ag 0,ah ag 0,ae none 0 0,ae none 0 0,ae none 0 0] 28)) (au (b.cells (ae p2 n2 c2) (ae p3 n3 c3) (ae none 0 0)) 28);simpa using this),fun _=>dM _ _ _ _,(((aw _ _).alloc (ax _) _).alloc (by simp) _).alloc (by simp;omega) _,by rw[hs0];omega⟩
 clear hm hx hc hl VQ hs0
 go_enter Tryz.func51,Tryz.ntmps51
 go_wp2
 go_loopw [6] (fun i wr=>∃(k:Nat) (mv:aj),k≤N∧i=ah ag k∧NF w.heap.size (b.cells (ae p2 n2 c2) (ae p3 n3 c3) (ae p1 L c1)) #[ah ag 0,ah ag 0,ah ag 0,ah ag 0,ah ag 0,ah ag 0,ah ag 0,ah ag 0,ah ag 0,ah ag 0,ah ag 0,ah ag 0,ae none 0 0,ae none 0 0,ae none 0 0] (fun u=>b.cells (ae p2 n2 c2) (ae p3 n3 c3) u) w mv k (dm (gw ms (c.take k))) false false wr) (fun i _=>N-(intOf i).toNat)
 case atStart=>exact⟨0,_,iB _,rfl,XS.out⟩
 case round=>
  obtain⟨k,mv,hk,rfl,hS⟩:=hrel;rename ar=>wr
  by_cases hlt:k<N
  ·obtain⟨i,hik⟩:∃i,c[k]?=some i:=⟨_,dE (by rw[HN.out];exact hlt)⟩
   have hiL:i<L:=HC.out i (List.mem_of_getElem? hik);have hmi:i<ms.length:=by rw[HL.out];exact hiL
   obtain⟨g,off,rfl,HG⟩:∃g off,pc=some ⟨g,off,none⟩∧Hid (∀w9,az w.heap.size w w9→w9.cell? ⟨g,off+k,none⟩=some (ah ag (i:Nat))):=by
    rcases HX.out with⟨_,h0,_⟩|⟨g,off,cap,h0,_,hg,h4⟩
    ·omega
    ·cases h0;exact⟨g,off,rfl,ai fun w9 h9=>(h9.cell (p:=⟨g,off+k,none⟩) hg).trans (h4 k _ (by simp[hik]))⟩
   obtain⟨gm,om,rfl,HO⟩:∃gm om,p1=some ⟨gm,om,none⟩∧Hid (∀w9,az w.heap.size w w9→∀j u,j<3→ms[i].cells[j]?=some u→w9.cell? ⟨gm,om+i*3+j,none⟩=some u):=by
    rcases HM.out with⟨_,h0,_⟩|⟨g,off,cap,h0,_,hg,h4⟩
    ·omega
    ·cases h0
     exact⟨g,off,rfl,ai fun w9 h9 j u hj hu=>by
      have h5:=HM.out;rw[←HL.out] at h5
      exact(h9.cell (p:=⟨g,off+i*3+j,none⟩) hg).trans (abG h5 i j hmi hj u hu)⟩
   generalize hme:ms[i]=me at *;have HME:=ai hme;have HIK:=ai hik;obtain⟨pv,cv,rfl⟩:=dG (hS.own rfl);have HS:=ai hS;clear hS hme hik;have hj1:¬(N≤k):=by omega
   have S9:¬(L≤i):=by omega
   go_wp2
   refine Ph.bQ (by kernel_rfl) [
   pV (bp (some ⟨w.heap.size+1+1,14,none⟩)),
    pV (ae pv k cv),
    pV (bp (some ⟨w.heap.size,14,none⟩)),
    pV (ae (some ⟨gm,om,none⟩) L c1),
    pV (ae (some ⟨g,off,none⟩) N cc),
    pV (ah ag (k:Nat)),
    pV (bp (some ⟨g,off+k,none⟩)),
    pV (ah ag (i:Nat)),
    pV (bp (some ⟨gm,om+i*3,none⟩)),
    pV (aO me.cells),
    fun v ds w9=>∃q,v=ae (some ⟨q,0,none⟩) 1 1∧w.heap.size+3≤q∧w9.heap[q]?=some (au me.cells 81 (0,0))∧some q≠(ae pv k cv:aj).ownBlock,
    fun v ds w9=>∃p c9,v=ae p (k+1) c9∧w9.ownsRow (w.heap.size+3) 81 3 v (k+1) ((dm (gw ms (c.take k)))++me.cells.toList),
    pV (bp (some ⟨w.heap.size+1+1,14,none⟩)),
    fun v ds w9=>∃x,ds[1]?=some x∧w9.heap[w.heap.size+2]?=some (au (b.cells (ae p2 n2 c2) (ae p3 n3 c3) x) 28 (0,0))]
    (fun L9 w9=>NF w.heap.size (b.cells (ae p2 n2 c2) (ae p3 n3 c3) (ae (some ⟨gm,om,none⟩) L c1)) #[ah ag 0,ah ag 0,ah ag 0,ah ag 0,ah ag 0,ah ag 0,ah ag 0,ah ag 0,ah ag 0,ah ag 0,ah ag 0,ah ag 0,ae none 0 0,ae none 0 0,ae none 0 0] (fun u=>(b.cells (ae p2 n2 c2) (ae p3 n3 c3) u)) w (ae pv k cv) k (dm (gw ms (c.take k))) (L9 11) (L9 13) w9) [(1,ae (some ⟨g,off,none⟩) N cc),(2,bp (some ⟨w.heap.size,0,none⟩)),(5,bp (some ⟨w.heap.size+1+1,0,none⟩)),(6,ah ag (k:Nat))] (by kernel_rfl) ?rst (fun L1 L2 w1 w2 hl h hb=>h.next (hl 11) (hl 13) hb) (HS.out.drew) ⟨rfl,rfl,rfl,rfl,trivial⟩ ?reach ?rfin
   case rst=>
    refine⟨Ph.sV,Ph.sV,Ph.sV,Ph.sV,Ph.sV,Ph.sV,Ph.sV,Ph.sV,Ph.sV,Ph.sV,?_,?_,Ph.sV,?_,trivial⟩
    ·rintro v ds L9 w1 w2 hS ⟨q,h1,h2,h3,h4⟩ hb;exact⟨q,h1,h2,(hb.block _ (ak.1 h3).1).trans h3,h4⟩
    ·rintro v ds L9 w1 w2 hS ⟨p,c9,h1,h2⟩ hb;exact⟨p,c9,h1,cy h2 hb⟩
    ·rintro v ds L9 w1 w2 hS ⟨x,h1,h2⟩ hb;exact⟨x,h1,(hb.block _ (ak.1 h2).1).trans h2⟩
   case reach=>
    refine⟨?_,?_,?_,?_,?_,?_,?_,?_,?_,?_,?_,?_,?_,?_,trivial⟩<;>rintro Lf ev w1 hn uW hS hc hg hf ⟨b1,b2,b5,b6,-⟩ hd
    ·clear hd;refine Ph.yv ?_ rfl;go_simp
    ·have d0:ev (aK 15)=_:=hd.1 rfl;clear hd;have r8:w1.heap[w.heap.size+1+1]?=some (au (b.cells (ae p2 n2 c2) (ae p3 n3 c3) (ae pv k cv)) 28 (0,0)):=hS.three (hn 13 (by kernel_rfl));have z:=aH r8 14 (ae pv k cv) rfl;refine Ph.yv ?_ rfl;go_simp
    ·clear hd;refine Ph.yv ?_ rfl;go_simp
    ·have d2:ev (aK 17)=_:=hd.1 rfl;clear hd;have z:=aH hS.one 14 (ae (some ⟨gm,om,none⟩) L c1) rfl;refine Ph.yv ?_ rfl;go_simp
    ·clear hd;refine Ph.yv ?_ rfl;go_simp
    ·clear hd;refine Ph.yv ?_ rfl;go_simp
    ·have d4:ev (aK 19)=_:=hd.1 rfl;have d5:ev (aK 20)=_:=hd.2.1 rfl;clear hd;refine Ph.yv ?_ rfl;go_simp
    ·have d6:ev (aK 21)=_:=hd.1 rfl;clear hd;have z:=HG.out w1 hS.below;refine Ph.yv ?_ rfl;go_simp
    ·have d3:ev (aK 18)=_:=hd.1 rfl;have d7:ev (aK 22)=_:=hd.2.1 rfl;clear hd;refine Ph.yv ?_ rfl;go_simp
    ·have d8:ev (aK 23)=_:=hd.1 rfl;clear hd;have z0:=HO.out w1 hS.below 0 _ (by omega) rfl;have z1:=HO.out w1 hS.below 1 _ (by omega) rfl;have z2:=HO.out w1 hS.below 2 _ (by omega) rfl;simp only[Nat.add_zero] at z0;refine Ph.yv ?_ rfl;go_simp
    ·have d9:ev (aK 24)=_:=hd.1 rfl;clear hd;have hs3:=hS.size;refine Lag.Yields.value (v:=ae (some ⟨w1.heap.size,0,none⟩) 1 1) (w':=w1.alloc (au me.cells 81)) ?_ ⟨⟨_,rfl,hs3,ay _ _,fun h=>absurd ((hS.own (hn 11 (by kernel_rfl))).lt _ h.symm).2 (by omega)⟩,cA ((aw _ _).alloc (ax _) _)⟩;go_simp
    ·have d1:ev (aK 16)=_:=hd.1 rfl;obtain⟨q,e25,hq0,hq,ML⟩:=hd.2.1 rfl;clear hd;replace e25:ev (aK 25)=_:=e25;have hown:=hS.own uW;refine Yields.qq (aK 16) (aK 25) 26 rfl (w.heap.size+3) 81 i1 (aO #[ah ag 0,ah ag 0,ah ag 0]) 3 24 Tryz.underlying26 E7 Ov hy1 hy2 rfl (by decide) (ae pv k cv) k (dm (gw ms (c.take k))) d1 hown ⟨q,0,none⟩ 1 1 me.cells.toList e25 rfl ?_ (by simp[cj]) (by unfold jB;omega) (by omega) hS.size ?_
     ·intro n u hn9;have h5:=aH hq n u (by simpa using hn9);have e:(⟨q,0,none⟩:cU).add n=⟨q,n,none⟩:=by cases n<;>simp[lG]
      rw[e];exact h5
     intro v' w' hown' hgrow _;obtain⟨p',c',rfl⟩:=dG hown';refine⟨⟨p',c',rfl,hown'⟩,.inr ⟨hS.grown (by simp[Ph.upd]) (by simp[Ph.upd]) hgrow (fun q hq=>(hown.lt q hq).1),?_⟩⟩;intro t u ds hj hL hp
     match t,hp with
     |0,hp=>exact hp
     |1,hp=>exact hp
     |2,hp=>exact hp
     |3,hp=>exact hp
     |4,hp=>exact hp
     |5,hp=>exact hp
     |6,hp=>exact hp
     |7,hp=>exact hp
     |8,hp=>exact hp
     |9,hp=>exact hp
     |10,⟨q2,h1,h2,h3,h4⟩=>exact⟨q2,h1,h2,(hgrow.block q2 (ak.1 h3).1 h4).trans h3,h4⟩
     |11,_=>exact(hj rfl).elim
     |12,hp=>exact hp
     |13,_=>rw[hn 13 (by kernel_rfl)] at hL;cases hL
     |t+14,_=>trivial
    ·clear hd;refine Ph.yv ?_ rfl;go_simp
    ·have d12:ev (aK 27)=_:=hd.1 rfl;have d11:∃p c9,(ev (aK 26))=ae p (k+1) c9∧w1.ownsRow (w.heap.size+3) 81 3 (ev (aK 26)) (k+1) ((dm (gw ms (c.take k)))++me.cells.toList):=hd.2.1 rfl;have d1:ev (aK 16)=_:=hd.2.2.2.2.1 rfl;clear hd;obtain⟨p,c9,h1,h2⟩:=d11;have r8:w1.heap[w.heap.size+1+1]?=some (au (b.cells (ae p2 n2 c2) (ae p3 n3 c3) (ae pv k cv)) 28 (0,0)):=hS.three uW;have z:=aH r8 14 (ae pv k cv) rfl;have f:=cN r8 14;refine Lag.Yields.skip (w':=w1.setCell ⟨w.heap.size+1+1,14,none⟩ (ev (aK 26))) ?_ ⟨⟨_,rfl,cP _ r8⟩,.inr ⟨(hS.put r8 (by simp[Ph.upd]) (ev (aK 26)) 14),?_⟩⟩
     ·rw[h1];go_simp
     ·intro t u ds hj hL hp
      match t,hp with
      |0,hp=>exact hp
      |1,hp=>exact hp
      |2,hp=>exact hp
      |3,hp=>exact hp
      |4,hp=>exact hp
      |5,hp=>exact hp
      |6,hp=>exact hp
      |7,hp=>exact hp
      |8,hp=>exact hp
      |9,hp=>exact hp
      |10,⟨q2,g1,g2,g3,g4⟩=>exact⟨q2,g1,g2,(bj _ _ _ _ (Nt g3 r8 (by decide))).trans g3,g4⟩
      |11,⟨p2,c8,g1,g2⟩=>exact⟨p2,c8,g1,cY g2 r8 (by decide)⟩
      |12,hp=>exact hp
      |13,_=>exact(hj rfl).elim
      |t+14,_=>trivial
   case rfin=>
    intro a2 w2 hR;have hS:=hR.s;have e11:∃p c9,(a2.tmps.getD 26 af)=ae p (k+1) c9∧w2.ownsRow (w.heap.size+3) 81 3 (a2.tmps.getD 26 af) (k+1) ((dm (gw ms (c.take k)))++me.cells.toList):=hR.val 11 (by decide);have XI:∃x,([a2.tmps.getD 27 af,a2.tmps.getD 26 af,a2.tmps.getD 26 af,a2.tmps.getD 15 af,a2.tmps.getD 16 af,a2.tmps.getD 17 af,a2.tmps.getD 18 af,a2.tmps.getD 19 af,a2.tmps.getD 20 af,a2.tmps.getD 21 af,a2.tmps.getD 22 af,a2.tmps.getD 23 af,a2.tmps.getD 24 af,a2.tmps.getD 25 af,a2.tmps.getD 26 af]:List aj)[1]?=some x∧w2.heap[w.heap.size+2]?=some (au (b.cells (ae p2 n2 c2) (ae p3 n3 c3) x) 28 (0,0)):=hR.val 13 (by decide);have k0:a2.tmps.getD 0 af=aO (b.cells (ae p2 n2 c2) (ae p3 n3 c3) (ae (some ⟨gm,om,none⟩) L c1)):=hR.kept (by kernel_rfl);have k1:a2.tmps.getD 1 af=ae (some ⟨g,off,none⟩) N cc:=hR.kept (by kernel_rfl);have k2:a2.tmps.getD 2 af=bp (some ⟨w.heap.size,0,none⟩):=hR.kept (by kernel_rfl);have k4:a2.tmps.getD 4 af=bp (some ⟨w.heap.size+1,0,none⟩):=hR.kept (by kernel_rfl);have k5:a2.tmps.getD 5 af=bp (some ⟨w.heap.size+1+1,0,none⟩):=hR.kept (by kernel_rfl);have k6:a2.tmps.getD 6 af=ah ag (k:Nat):=hR.kept (by kernel_rfl);have k7:a2.tmps.getD 7 af=aO (b.cells (ae p2 n2 c2) (ae p3 n3 c3) (ae (some ⟨gm,om,none⟩) L c1)):=hR.kept (by kernel_rfl);have k8:a2.tmps.getD 8 af=bp (some ⟨w.heap.size+1+1,14,none⟩):=hR.kept (by kernel_rfl);have k3:a2.tmps.getD 3 af=undef:=hR.kept (by kernel_rfl);have k28:a2.tmps.getD 28 af=undef:=hR.kept (by kernel_rfl);have ha:a2=⟨#[a2.tmps.getD 0 af,a2.tmps.getD 1 af,a2.tmps.getD 2 af,a2.tmps.getD 3 af,a2.tmps.getD 4 af,a2.tmps.getD 5 af,a2.tmps.getD 6 af,a2.tmps.getD 7 af,a2.tmps.getD 8 af,a2.tmps.getD 9 af,a2.tmps.getD 10 af,a2.tmps.getD 11 af,a2.tmps.getD 12 af,a2.tmps.getD 13 af,a2.tmps.getD 14 af,a2.tmps.getD 15 af,a2.tmps.getD 16 af,a2.tmps.getD 17 af,a2.tmps.getD 18 af,a2.tmps.getD 19 af,a2.tmps.getD 20 af,a2.tmps.getD 21 af,a2.tmps.getD 22 af,a2.tmps.getD 23 af,a2.tmps.getD 24 af,a2.tmps.getD 25 af,a2.tmps.getD 26 af,a2.tmps.getD 27 af,a2.tmps.getD 28 af],[]⟩:=hR.act;clear hR;obtain⟨p26,c26,e26,YN⟩:=e11;obtain⟨x,ex,r8⟩:=XI;have XG:a2.tmps.getD 26 af=x:=bf ex;rw[e26] at XG YN;subst XG;rw[e26,k0,k1,k2,k4,k5,k6,k7,k8,k3,k28] at ha;generalize a2.tmps.getD=zz at ha;have UK:=ai hS;have HOb:=ai r8;have EY:=ai YN;clear e26 ex r8 YN hS k0 k1 k2 k4 k5 k6 k7 k8 k3 k28;subst ha;go_wp2;go_roundw
    case rel=>
     refine⟨k+1,by omega,by simp,ae p26 (k+1) c26,⟨UK.out.one,UK.out.two,fun _=>HOb.out,fun _=>?_,UK.out.below,UK.out.size⟩⟩;have hkc:k<c.length:=by rw[HN.out];exact hlt
     have hci:c[k]=i:=by have:=HIK.out;rw[dE hkc] at this;exact bf this
     have hs:=PW ms c k hkc (by rw[hci];exact hmi)
     have he:ms[c[k]]'(by rw[hci];exact hmi)=me:=by
      rw[←HME.out];congr 1
     rw[hs,he];exact EY.out
    case measure=>simp[intOf];omega
  ·obtain rfl:k=N:=by omega
   have HZ:=ai hS.two;have HOb:=ai (hS.three rfl);have EY:=ai (hS.own rfl);have HB:=ai hS.below;have HSz:=ai hS.size;obtain⟨pv,cv,rfl⟩:=dG EY.out;clear hS XS
   go_wp2_with (first
    |(refine wpList_load_row rfl 28 _ rfl _ rfl 28 _ (0,0) _ HOb.out cB rfl (by kernel_rfl) ?_)
    |(refine wpList_store_row rfl 28 _ _ rfl _ _ rfl rfl 28 _ HZ.out (by kernel_rfl) rfl (by simp[cj]) ?_))
   have ho:(wr.setRow (w.heap.size+1) (b.cells (ae p2 n2 c2) (ae p3 n3 c3) (ae pv k cv))).ownsRow (w.heap.size+3) 81 3 (ae pv k cv) k (dm (gw ms (c.take k))):=fY EY.out fun g hg=>setRow_other (by have:=(EY.out.lt g hg).1;omega);refine bg (results_cell_row rfl _ _ (w.heap.size+1) 28 _ (0,0) _ rfl (cV HZ.out) cB rfl (by kernel_rfl)) rfl ⟨_,rfl,?_,dv HB.out (by omega)⟩;have e:c.take k=c:=cQ (by rw[HN.out];exact ax _);rw[e] at ho;refine Reads.iT ho (by omega) ?_;rw[nH,uN ms c fun i hi=>by rw[HL.out];exact HC.out i hi,HN.out,Nat.mul_comm]
theorem JI(xs ys:List Int)(p1 p2:Option cU)(c1 c2:Nat)(w:ar)(h1:Reads w (ae p1 xs.length c1) xs.length (xs.map (aD ag)))(h2:Reads w (ae p2 ys.length c2) ys.length (ys.map (aD ag))):bm aq 52 #[ae p1 xs.length c1,ae p2 ys.length c2] w fun e w'=>e=aJ (aG (decide ((xs.length:Int)<(ys.length:Int))||(((xs.length:Int)==(ys.length:Int))&&dV xs ys)))∧az w.heap.size w w':=by
 refine calls_of_wp Tryz.func52 rfl ?_;have hF:=ki (args:=#[ae p1 xs.length c1,ae p2 ys.length c2]) (n:=22) (by simp) [(1,ae p2 ys.length c2),(0,ae p1 xs.length c1)] ⟨mO rfl,mO rfl,trivial⟩;rw[show Tryz.f52.ntmps=22 from rfl];generalize (⟨#[ae p1 xs.length c1,ae p2 ys.length c2]++aT (22-(#[ae p1 xs.length c1,ae p2 ys.length c2]:Array aj).size) af,[]⟩:Act)=a at *;refine(fun h:∀W,az w.heap.size w W→bZ aq _ _ a W=>h w (aw _ _)) ?_;intro W hw;refine jM ⟨[],[],[],[]⟩ [(4,aG false)] hF hF trivial trivial ?_;intro a W ho hF;replace hw:=hw.tr ho;clear ho;replace hF:=hF.tl;refine jM ⟨[],[(14,aG (dV xs ys))],[],[]⟩ [(4,aG ((decide ((xs.length:Int)<(ys.length:Int)))||(((xs.length:Int)==(ys.length:Int))&&(dV xs ys))))] hF hF trivial ⟨fun w1 hS _=>gc (args:=#[ae p1 xs.length c1,ae p2 ys.length c2]) (uZ xs ys _ _ w1 (h1.below (hw.tr hS)) (h2.below (hw.tr hS))),trivial⟩ ?_;intro a W ho hF;replace hw:=hw.tr ho;clear ho;refine wp_ret ?_;show bodyPost aq Tryz.f52 (fun e w'=>e=aJ (aG (decide ((xs.length:Int)<(ys.length:Int))||(((xs.length:Int)==(ys.length:Int))&&dV xs ys)))∧az w.heap.size w w') Exit.ret a W;exact bg (results_tmp rfl _ _ _) hF.defers ⟨congrArg aJ (hF.g 0 rfl),hw⟩
theorem yl(L:List Int)(i k:Nat)(hk:k<L.length):(L.take (k+1)).eraseIdx i=if k=i then(L.take k).eraseIdx i else(L.take k).eraseIdx i++[L[k]]:=by
 rw[bN hk];have hl:(L.take k).length=k:=by simp;omega
 by_cases h:i<k
 ·rw[if_neg (by omega),List.eraseIdx_append_of_lt_length (by omega)]
 ·rw[List.eraseIdx_append_of_length_le (by omega),hl]
  by_cases e:k=i
  ·subst e;rw[if_pos rfl,Nat.sub_self,List.eraseIdx_of_length_le (l:=L.take k) (by omega)];simp
  ·rw[if_neg e,List.eraseIdx_of_length_le (l:=L.take k) (by omega)];have h1:i-k=(i-k-1)+1:=by omega
   rw[h1];simp
theorem TL(L:List Int)(hL3:L.length≤3)(p1:Option cU)(c1 i:Nat)(w:ar)(hv:Reads w (ae p1 L.length c1) L.length (L.map (aD ag))):bm aq 40 #[ae p1 L.length c1,ah ag (i:Int)] w fun e w'=>∃v,e=aJ v∧Reads w' v (L.eraseIdx i).length ((L.eraseIdx i).map (aD ag))∧az w.heap.size w w':=by
 refine calls_of_wp Tryz.func40 rfl ?_;have hF:=ki (args:=#[ae p1 L.length c1,ah ag (i:Int)]) (n:=24) (by simp) [(1,ah ag (i:Int)),(0,ae p1 L.length c1)] ⟨mO rfl,mO rfl,trivial⟩;rw[show Tryz.f40.ntmps=24 from rfl];generalize (⟨#[ae p1 L.length c1,ah ag (i:Int)]++aT (24-(#[ae p1 L.length c1,ah ag (i:Int)]:Array aj).size) af,[]⟩:Act)=a at *;refine(fun h:∀W,az w.heap.size w W→bZ aq _ _ a W=>h w (aw _ _)) ?_;intro W hw;refine jM ⟨[],[],[],[]⟩ [(4,ae none 0 0)] hF hF trivial trivial ?_;intro a W ho hF;replace hw:=hw.tr ho;clear ho;refine jM ⟨[],[],[],[]⟩ [(5,ae none 0 0)] hF hF trivial trivial ?_;intro a W ho hF;replace hw:=hw.tr ho;clear ho;refine wp_seq ?_;refine jM ⟨[],[],[],[]⟩ [(6,ah ag 0)] hF hF trivial trivial ?_;intro a W ho hF;replace hw:=hw.tr ho;clear ho;refine wp_block ?_;rename ar=>WB;have hB:=aw WB.heap.size WB;obtain⟨i0,hi,hz0,hz1,hz2⟩:=jT info3;have hle:∀k,((L.take k).eraseIdx i).length≤3:=fun k=>by have h1:=List.length_eraseIdx_le (L.take k) i;have h3:(L.take k).length≤L.length:=(by simp;omega);omega
 refine wp_loop (fun a W=>∃(k:Nat) (v5:aj),k≤L.length∧W.ownsRow WB.heap.size 3 1 v5 ((L.take k).eraseIdx i).length (((L.take k).eraseIdx i).map (aD ag))∧iV 24 a [(6,ah ag (k:Int)),(5,v5),(4,ae none 0 0),(1,ah ag (i:Int)),(0,ae p1 L.length c1)]∧az WB.heap.size WB W) (fun a _=>L.length-(intOf (a.eval (aK 6))).toNat) ⟨0,ae none 0 0,iB _,by simpa using dM _ _ _ _,⟨hF.size,hF.defers,hF.base⟩,hB⟩ ?_;clear hF hB;rintro a W ⟨k,v5,hk,hown,hF,hB⟩;have hk6:a.eval (aK 6)=ah ag (k:Int):=(hF.g 0 rfl)
 refine wp_seq ?_;refine jM ⟨[],[],[],[]⟩ [(10,aG (decide ((k:Int)<(L.length:Int))))] hF hF trivial trivial ?_;intro a W ho hF;replace hB:=hB.tr ho;replace hown:=cy hown ho;clear ho;refine wp_cond_split (t:=(decide ((k:Int)<(L.length:Int)))) (hF.g 0 rfl) (fun Ec=>?_) (fun Ec=>?_)
 ·skip
  replace hF:=hF.tl;have hlt:k<L.length:=by simpa using Ec
  refine wp_skip ?_;show bZ aq _ _ _ _;refine wp_seq ?_;refine wp_block ?_;refine jM ⟨[],[],[],[]⟩ [(15,aG (!((k:Int)==(i:Int))))] hF hF trivial trivial ?_;intro a W ho hF;replace hB:=hB.tr ho;replace hown:=cy hown ho;clear ho;refine wp_cond_split (t:=(!((k:Int)==(i:Int)))) (hF.g 0 rfl) (fun KB=>?_) (fun KB=>?_)
  ·skip
   replace hF:=hF.tl;have hne:¬k=i:=by simp at KB;omega
   obtain⟨g,off,rfl,hg,hcell⟩:=hv.atK k hlt
   have HC:∀w9,az WB.heap.size WB w9→w9.cell? ⟨g,off+k,none⟩=some (ah ag L[k]):=fun w9 h9=>by
    have h8:=((hw.trans (h9.mono hw.size)).cell (p:=⟨g,off+k,none⟩) hg).trans (hcell k hlt);rw[show L.getD k 0=L[k] by simp[hlt]] at h8;exact h8
   have qA:=hF;replace hF:=hF.del 5;simp only[m5,jk,cG,reduceIte] at hF;refine TR (N:=8) rfl ?_;refine qJ 0 5 3 ⟨[],[(3,bp (some ⟨g,off+k,none⟩)),(4,ah ag L[k])],[],[]⟩ [(16,v5),(20,ah ag L[k])] qA hF trivial ⟨fun w1 hS _=>gs (Instr.indexAt 25 (ae (some ⟨g,off,none⟩) L.length c1) (ah ag (k:Int))) (by have E7:¬(L.length≤k):=(by omega);go_simp),fun w1 hS _=>gl (HC w1 (hB.tr hS)),trivial⟩ ?_;intro a W ho hF;replace hB:=hB.tr ho;replace hown:=cy hown ho;clear ho;refine Oj ⟨[],[],[],[]⟩ (some 21) (fun B=>ae (some ⟨B,0,none⟩) 1 1) (#[ah ag L[k]]) 3 hF hF ?_;intro B21 W a G21 ho K21 hF;have aiX:=aN (hw.tr hB).size G21;have aiY:=aN hB.size G21;replace hB:=hB.tr ho;replace hown:=cy hown ho;clear ho;replace hw:=hw.tr hB;rename ar=>W21;have h21:=aw W21.heap.size W21;refine Ye ⟨[],[],[],[]⟩ (some 22) (R:=fun v w9=>w9.ownsRow WB.heap.size 3 1 v (((L.take k).eraseIdx i).length+1) (((L.take k).eraseIdx i).map (aD ag)++[ah ag L[k]])∧W21.grownBy w9 v5.ownBlock) hF hF (by kernel_rfl) (Yields.qq (aK 16) (aK 21) 25 (by kernel_rfl) WB.heap.size 3 i0 (ah ag 0) 1 8 fC hi hz0 hz1 hz2 rfl (by decide) v5 _ _ (by kernel_rfl) hown ⟨B21,0,none⟩ 1 1 [ah ag L[k]] (by kernel_rfl) rfl (fun j u hj=>by match j,hj with|0,hj=>(simp at hj;subst hj;exact aH K21 0 _ rfl)) (fun u hu=>by simp at hu;subst hu;rfl) (by have:=hle k;unfold jB;omega) (by have:=hle k;omega) (hB.tr h21).size fun v' w' h1 h2 _=>⟨h1,h2⟩) ?_;rintro v22 W ⟨hown2,hgr⟩ a hF;replace hB:=(hB.tr h21).grown hgr (hB.tr h21).size fun j hj=>(hown.lt j hj).1;replace hown:=hown2;clear hown2 hgr;refine qJ 7 1 0 ⟨[],[],[],[]⟩ [(5,v22)] hF hF trivial trivial ?_;intro a W ho hF;replace hB:=hB.tr ho;replace hown:=cy hown ho;clear ho;refine XE ?_;show bZ aq _ _ _ _;have qA:=hF;replace hF:=hF.del 6;simp only[m5,jk,cG,reduceIte] at hF;refine OT ⟨[],[(1,ah ag ((k:Int)+1))],[],[]⟩ [(6,ah ag ((k:Int)+1))] qA hF trivial ⟨fun w1 hS _=>ge (congrArg (aD ag) (show IntKind.i64.wrap ((k:Int)+1)=((k:Int)+1) by rw[bY];omega)),trivial⟩ ?_;intro a W ho hF;clear qA;replace hB:=hB.tr ho;replace hown:=cy hown ho;clear ho;have e9:=yl L i k hlt;rw[if_neg hne] at e9;refine⟨⟨k+1,v22,by omega,by rw[e9];simpa using hown,⟨hF.size,hF.defers,(by obtain⟨b6,b5,-,-,-,-,b4,b1,b0,-⟩:=hF.base;exact⟨b6,b5,b4,b1,b0,trivial⟩)⟩,hB⟩,?_⟩;rw[show a.eval (aK 6)=ah ag ((k:Int)+1) from(hF.g 0 rfl)];simp only[hk6];simp[intOf];omega
  ·skip
   replace hF:=hF.tl;have hne:k=i:=by simp at KB;omega
   refine wp_skip ?_;show bZ aq _ _ _ _;have qA:=hF;replace hF:=hF.tl;refine OT ⟨[],[(1,ah ag ((k:Int)+1))],[],[]⟩ [(6,ah ag ((k:Int)+1))] qA hF trivial ⟨fun w1 hS _=>ge (congrArg (aD ag) (show IntKind.i64.wrap ((k:Int)+1)=((k:Int)+1) by rw[bY];omega)),trivial⟩ ?_;intro a W ho hF;clear qA;replace hB:=hB.tr ho;replace hown:=cy hown ho;clear ho;have e9:=yl L i k hlt;rw[if_pos hne] at e9;refine⟨⟨k+1,v5,by omega,by rw[e9];exact hown,⟨hF.size,hF.defers,hF.base⟩,hB⟩,?_⟩;rw[show a.eval (aK 6)=ah ag ((k:Int)+1) from(hF.g 0 rfl)];simp only[hk6];simp[intOf];omega
 ·skip
  replace hF:=hF.tl;refine wp_exit ?_;obtain rfl:k=L.length:=by simp at Ec;omega
  rw[List.take_length] at hown;show bZ aq _ _ _ _;show bZ aq _ _ _ _;replace hF:=hF.del 4;simp only[m5,jk,cG,reduceIte] at hF;refine jM ⟨[],[],[],[]⟩ [(4,v5)] hF hF trivial trivial ?_;intro a W ho hF;replace hB:=hB.tr ho;replace hown:=cy hown ho;clear ho;refine wp_ret ?_;show bodyPost aq Tryz.f40 (fun e w'=>∃v,e=aJ v∧Reads w' v (L.eraseIdx i).length ((L.eraseIdx i).map (aD ag))∧az w.heap.size w w') Exit.ret a W;exact bg (results_tmp rfl _ _ _) hF.defers ⟨_,congrArg aJ (hF.g 0 rfl),Reads.iT hown (by have:=hle L.length;rw[List.take_length] at this;omega) (by simp),(hw.tr hB)⟩
theorem RU(ms:List Mk)(m:Nat):(gw ms (cJ ms.length m)).length=(dt ms.length m).length:=by
 rw[uN ms _ fun i hi=>IZ hi];unfold dt;rw[dI]
theorem zY(b:BB)(p1 pc p2 p3:Option cU)(c1 cc n2 c2 n3 c3:Nat)(ms:List Mk)(L:List Int)(m:Nat)(hk:jF b ms)(hL:L=dt ms.length m)(w:ar)(hr:Reads w (ae p1 ms.length c1) ms.length (dm ms))(hx:Reads w (ae pc L.length cc) L.length (L.map (aD ag))) :
  bm aq 51 #[aO (b.cells (ae p2 n2 c2) (ae p3 n3 c3) (ae p1 ms.length c1)),ae pc L.length cc] w fun e w'=>∃v,e=aF (aO (b.cells (ae p2 n2 c2) (ae p3 n3 c3) v))∧Reads w' v (gw ms (cJ ms.length m)).length (dm (gw ms (cJ ms.length m)))∧az w.heap.size w w':=by
 have h1:=hk.len;have h2:=iO ms.length m;have hlen:L.length=(cJ ms.length m).length:=by rw[hL];unfold dt;rw[dI]
 have hmap:L.map (aD ag)=(cJ ms.length m).map fun i=>aD ag (i:Nat):=by rw[hL];unfold dt;rw[List.map_map];rfl
 rw[hlen,hmap] at hx;rw[RU,←hL,hlen];exact R9 b p1 pc p2 p3 c1 cc n2 c2 n3 c3 ms (cJ ms.length m) h1 (by omega) (fun i hi=>IZ hi) w hr hx
def tq(b:BB)(ml:List Mn)(ss:List Int)(ms:List Mk)(m:Nat):Nat:=(bn b ml ss (gw ms (cJ ms.length m))).length
theorem xG{b:BB}{ml:List Mn}{ss:List Int}{ms:List Mk}{m:Nat}:tq b ml ss ms m=0↔jl b ml ss ms m=true:=by
 unfold tq jl;rw[List.length_eq_zero_iff,decide_eq_true_eq]
theorem xI{b:BB}{men sent v:aj}{ml:List Mn}{ss:List Int}{ms:List Mk}{w:ar}(hL:Laid w)(cS:b.Ok)(hm:wQ ml)(hs:js b ss)(hk:jF b ms)(m:Nat)(h1:Reads w men ml.length (fF ml))(h2:Reads w sent ss.length (ss.map (aD ag)))
  (h3:Reads w v (gw ms (cJ ms.length m)).length (dm (gw ms (cJ ms.length m)))):bm aq 42 #[aO (b.cells men sent v)] w fun e w'=>e=aF (cD #[ah ag (tq b ml ss ms m:Nat),ah ag 0])∧az w.heap.size w w':=
 zI b men sent v ml ss _ w hL ⟨cS,hm,hs,J1 hk (ax _),h1,h2,h3⟩
theorem LY(x y:List Int):(decide ((x.length:Int)<(y.length:Int))||(((x.length:Int)==(y.length:Int))&&dV x y))=fV x y:=by
 unfold fV;rw[BO,Bool.eq_iff_iff];simp only[Bool.or_eq_true,aC,decide_eq_true_eq,beq_iff_eq];exact⟨fun h=>h.imp (fun h=>by omega) fun h=>⟨by omega,h.2⟩,fun h=>h.imp (fun h=>by omega) fun h=>⟨by omega,h.2⟩⟩
theorem Ew(k m:Nat)(hm:m<2 ^ k):dt (k+1) m=dt k m∧dt (k+1) (m+2 ^ k)=dt k m++[(k:Int)]:=by
 unfold dt;rw[mJ,mJ];have h1:m.testBit k=false:=Nat.testBit_lt_two_pow hm;have h2:(m+2 ^ k).testBit k=true:=by rw[Nat.add_comm,Nat.testBit_two_pow_add_eq,h1];rfl
 have h3:cJ k (m+2 ^ k)=cJ k m:=by
  unfold cJ;refine List.filter_congr fun i hi=>?_;have:=bB.1 hi;rw[Nat.add_comm,Nat.testBit_two_pow_add_gt this]
 rw[h1,h2,h3];simp
structure wT(w:ar)(os:List Obj)(w':ar):Prop where
 at_:∀i o,os[i]?=some o→w'.heap[w.heap.size+i]?=some o
 below:az w.heap.size w w'
 size:w.heap.size+os.length≤w'.heap.size
theorem wT.nil(w:ar):wT w [] w:=⟨by simp,aw _ _,by simp⟩
theorem wT.alloc{w w':ar}{os:List Obj}(h:wT w os w')(hs:w'.heap.size=w.heap.size+os.length)(o:Obj):wT w (os++[o]) (w'.alloc o):=by
 refine⟨fun i p hi=>?_,h.below.alloc (by omega) o,by simp;omega⟩;rcases Nat.lt_trichotomy i os.length with h1|h1|h1
 ·rw[List.getElem?_append_left h1] at hi;exact(aS _ _ _ (by omega)).trans (h.at_ i p hi)
 ·subst h1;simp at hi;subst hi;rw[←hs];exact ay w' _
 ·rw[List.getElem?_eq_none (by simp;omega)] at hi;cases hi
theorem wT.next{w w1 w2:ar}{os:List Obj}(h:wT w os w1)(hb:az w1.heap.size w1 w2):wT w os w2:=by
 have hs:=h.size;refine⟨fun i p hi=>(hb.block _ ?_).trans (h.at_ i p hi),h.below.trans (hb.mono (by omega)),aN hs hb.size⟩;have:=(List.getElem?_eq_some_iff.1 hi).1;omega
theorem ZZ(w:ar)(A B C D:Obj):wT w [A,B,C,D] ((((w.alloc A).alloc B).alloc C).alloc D):=
 ((((wT.nil w).alloc (by simp) A).alloc (by simp) B).alloc (by simp) C).alloc (by simp) D
theorem Nh{zs:List Int}(h:zs≠[]):Lib.compact zs≠[]:=by
 intro hc;unfold Lib.compact Lib.compactUpTo at hc;have h1:=List.map_eq_nil_iff.1 hc;have h2:(0:Nat)∈(aU zs.length).filter (Lib.keeps zs.toArray):=gi.2 ⟨bB.2 (cX.2 h),Lib.keeps_lt_one _ 0 (by omega)⟩;rw[h1] at h2;cases h2
theorem aap(b:BB)(men sent marks:aj)(ml:List Mn)(ss:List Int)(ms:List Mk)(w:ar)(hL:Laid w)(hB:cH b men sent marks ml ss ms w)(hne:bn b ml ss ms≠[])(pl:List Int)(hp:js b pl)(mi:Nat)(h1:1≤mi)(h2:(mi:Int)≤b.minutes)
  (lv:aj) (hl:Reads w lv pl.length (pl.map (aD ag))) :
  bm aq 60 #[aO (b.cells men sent marks),lv,ah ag mi] w fun e w'=>∃x y r,gI (fun a=>b.B5 (b.cM+a.used) (bG pl) mi) (bn b ml ss ms)=x::r∧(x::r).getLast?=some y∧e=aF (cD #[aO #[ah ag x,ah ag y],ah ag 0])∧az w.heap.size w w':=by
 have hlen:=jq ss ms hB.ok hB.gV;have kg:0<(bn b ml ss ms).length:=cX.2 hne;have cS:=hB.ok;have hao:=nO (ss:=ss) (ms:=ms) hB.ok hB.gV;obtain⟨pm,cm,rfl,_⟩:=aR hB.rm;obtain⟨pn,cn,rfl,_⟩:=aR hB.rs;obtain⟨pk,ck,rfl,_⟩:=aR hB.rk;obtain⟨pZ,qj,rfl,_⟩:=aR hl;have ht:=ZZ w (au (b.cells (ae pm ml.length cm) (ae pn ss.length cn) (ae pk ms.length ck)) 28) (au #[ae pZ pl.length qj] 25) (au #[ah ag mi] 3) (au #[ah ag 0,ah ag 0] 23)
 have hop:=R3 b (ae pm ml.length cm) (ae pn ss.length cn) (ae pk ms.length ck) ml ss ms _ (hL.below ht.below) (hB.below ht.below) hne (w.heap.size+1) (w.heap.size+2) (fun W hb=>by
  have hw:=hb
  exact T6 b cS _ _ _ pl hp mi h1 h2 _ _ _ W ((hb.block (w.heap.size+1) (by simp)).trans (ht.at_ 1 _ rfl)) ((hb.block (w.heap.size+2) (by simp)).trans (ht.at_ 2 _ rfl)) ((hl.below ht.below).below hb))
 have HO:=ai hop;have HT:=ai ht;have HRl:=ai hl;have Ra:=ai hao;clear hop ht hL hB hl hao;generalize hall:bn b ml ss ms=all at *;clear hall;generalize ml.length=lm at *;generalize ss.length=ln at *;generalize ms.length=lk at *;obtain⟨of,hof⟩:∃of:eA→Int,(fun a=>b.B5 (b.cM+a.used) (bG pl) mi)=of:=⟨_,rfl⟩
 rw[hof];have HOf:=ai hof;clear hof
 go_enter Tryz.func60,Tryz.ntmps60
 go_wp2_with (first
  |(go_at_call 103;refine HO.out.mono ?_;clear HO;rintro e w1 ⟨v,rfl,iU,hb1⟩
    have rI:=HT.out.next hb1
    obtain⟨gv,cv,rfl⟩:∃gv cv,v=ae (some ⟨gv,0,none⟩) all.length cv:=by
     rcases iU.1.2 with⟨_,h0⟩|⟨g,cap,cur,rfl,_⟩
     ·omega
     ·exact⟨g,cap,rfl⟩
    have oL:=ai rI;have Ug:Hid (Reads (w1.alloc (au (b.open (ae pm lm cm) (ae pn ln cn) (ae pk lk ck) (ae (some ⟨gv,0,none⟩) all.length cv)) 122)) (ae (some ⟨gv,0,none⟩) all.length cv) all.length (rowOf all)):=ai ((iU.reads (by omega)).below ((aw _ _).alloc (ax _) _))
    have HNu:=ai (J4 b (ae pm lm cm) (ae pn ln cn) (ae pk lk ck) all hne (by omega) of w1.heap.size (w.heap.size+1) (w.heap.size+2) _ _ Ug.out (fun a ha W hb=>by
     have q:=(oL.out.next ((aw _ _).alloc (ax _) (au (b.open (ae pm lm cm) (ae pn ln cn) (ae pk lk ck) (ae (some ⟨gv,0,none⟩) all.length cv)) 122))).next hb
     have q1:=(hb.block w1.heap.size (by simp)).trans (ay w1 _);rw[←HOf.out]
     exact T4 b cS _ _ _ _ pl hp mi h1 h2 a (Ra.out a ha) _ _ _ _ W q1 (q.at_ 1 _ rfl) (q.at_ 2 _ rfl) (HRl.out.below q.below)))
    clear rI iU hb1)
  |(go_at_call 124;refine HNu.out.mono ?_;rintro e w2 ⟨gn,cgn,rfl,ho2,hb2⟩;have HO2:=ai ho2;have oX:=ai hb2;clear ho2 hb2))
 have hq:=(oL.out.next ((aw _ _).alloc (ax _) (au (b.open (ae pm lm cm) (ae pn ln cn) (ae pk lk ck) (ae (some ⟨gv,0,none⟩) all.length cv)) 122))).next oX.out
 have LH:gI of all≠[]:=by
  have h1:sorted (all.map of)≠[]:=by
   intro h;have h2:(sorted (all.map of)).length=(all.map of).length:=wU _;rw[h] at h2;simp at h2;exact hne (List.eq_nil_of_length_eq_zero h2.symm)
  exact Nh h1
 have hnl:(gI of all).length≤1000:=by
  have h1:=Lib.compact_length_le (sorted (all.map of));have h2:(sorted (all.map of)).length=all.length:=(wU _).trans (dI _);unfold gI;omega
 obtain⟨x,r,hxr⟩:∃x r,gI of all=x::r:=by
  cases h:gI of all with
  |nil=>exact(LH h).elim
  |cons x r=>exact⟨x,r,rfl⟩
 have hN:∃N,(gI of all).length=N:=⟨_,rfl⟩
 obtain⟨N,hN⟩:=hN;have hN1:1≤N:=by rw[←hN,hxr];simp
 obtain⟨y,hy⟩:∃y,(gI of all)[N-1]?=some y:=⟨_,dE (by omega)⟩
 obtain⟨cur,hgb,BI,hc0,hcl⟩:∃cur:Array aj,w2.heap[gn]?=some (au cur 3 (0,0))∧w1.heap.size+1≤gn∧cur[0]?=some (ah ag x)∧cur[N-1]?=some (ah ag y):=by
  rcases HO2.out.2 with⟨h0,_⟩|⟨g',cap',cur,h0,hb0,h1,h2,h3,h4,h5⟩
  ·cases h0
  ·cases h0;rw[Nat.mul_one,hN] at h5
   have hz:∀(j:Nat) (u:Int),(gI of all)[j]?=some u→cur[j]?=some (ah ag u):=fun j u hj=>by
    have h6:(cur.toList.take N)[j]?=some (aD ag u):=by rw[h5,List.getElem?_map,hj];rfl
    rw[List.getElem?_take] at h6;split at h6
    ·simpa using h6
    ·cases h6
   refine⟨cur,h1,by simpa using hb0,hz 0 x (by rw[hxr];rfl),hz _ _ hy⟩
 have aeW:=oL.out.size;simp at aeW;have hwr:IntKind.i64.wrap ((N:Int)-1)=((N-1:Nat):Int):=by rw[eX _ (by omega) (by omega)];omega
 have i1:((N-1:Nat):Int)<(N:Int):=by omega
 have i2:(0:Int)≤((N-1:Nat):Int):=by omega
 have i3:(0:Int)<(N:Int):=by omega
 have hgB:gn≠w.heap.size+1+1+1:=by omega
 have HXR:=ai hxr;have HY:=ai hy;have HNN:=ai hN;rw[hN];clear hxr hy LH hnl hN Ug HNu HO2 HRl Ra HT
 refine bQ (by kernel_rfl) [
 pV (ae (some ⟨gn,0,none⟩) N cgn),
  pV (pv gn 0),
  pV (ah ag x),
  pV (ae (some ⟨gn,0,none⟩) N cgn),
  pV (ae (some ⟨gn,0,none⟩) N cgn),
  pV (ah ag N),
  pV (ah ag ((N-1:Nat):Int)),
  pV (pv gn (N-1)),
  pV (ah ag y),
  pV (aO #[ah ag x,ah ag y]),
  fun v ds w9=>w9.heap[w.heap.size+1+1+1]?=some (au #[ah ag x,ah ag y] 23 (0,0)),
  pV (ah ag 0)]
  (fun w9=>w9.heap[gn]?=some (au cur 3 (0,0))∧(∃z1 z2,w9.heap[w.heap.size+1+1+1]?=some (au #[z1,z2] 23 (0,0)))∧az w.heap.size w w9) [(10,ae (some ⟨gn,0,none⟩) N cgn),(6,pv (w.heap.size+1+1+1) 0)] (by kernel_rfl) ?rst (fun w1 w2 h hb=>⟨(hb.block _ (ak.1 h.1).1).trans h.1,h.2.1.imp fun z1 h1=>h1.imp fun z2 h2=>(hb.block _ (ak.1 h2).1).trans h2,h.2.2.trans (hb.mono h.2.2.size)⟩) (⟨hgb,⟨_,_,hq.at_ 3 _ rfl⟩,hq.below.drew⟩) ⟨rfl,rfl,trivial⟩ ?reach ?rfin
 case rst=>
  refine⟨sV,sV,sV,sV,sV,sV,sV,sV,sV,sV,?_,sV,trivial⟩
  ·rintro v ds w1 w2 hS h hb;exact(hb.block _ (ak.1 h).1).trans h
 case reach=>
  refine⟨?_,?_,?_,?_,?_,?_,?_,?_,?_,?_,?_,?_,trivial⟩<;>rintro ev w1 hS hc hg hf ⟨T2,b6,-⟩ hd
  ·clear hd;exact tV
  ·have d0:ev (aK 24)=_:=hd.1 rfl;clear hd;refine yv ?_ rfl;go_simp;intro hx;exfalso;omega
  ·have d1:ev (aK 25)=_:=hd.1 rfl;clear hd;have z:=aH hS.1 0 _ hc0;exact tV
  ·clear hd;exact tV
  ·clear hd;exact tV
  ·have d4:ev (aK 28)=_:=hd.1 rfl;clear hd;exact tV
  ·have d5:ev (aK 29)=_:=hd.1 rfl;clear hd;exact tV
  ·have d3:ev (aK 27)=_:=hd.1 rfl;have d6:ev (aK 30)=_:=hd.2.1 rfl;clear hd;exact tV
  ·have d7:ev (aK 31)=_:=hd.1 rfl;clear hd;have z:=aH hS.1 _ _ hcl;exact tV
  ·have d2:ev (aK 26)=_:=hd.1 rfl;have d8:ev (aK 32)=_:=hd.2.1 rfl;clear hd;exact tV
  ·have d9:ev (aK 33)=_:=hd.1 rfl;clear hd;obtain⟨hg1,⟨z1,z2,hz⟩,uo⟩:=hS;have c0:=aH hz 0 _ rfl;have c1:=aH hz 1 _ rfl;have f0:=cN hz 0;have f1:=cN hz 1;refine Lag.Yields.skip (w':=(w1.setCell ⟨w.heap.size+1+1+1,0,none⟩ (ah ag x)).setCell ⟨w.heap.size+1+1+1,1,none⟩ (ah ag y)) ?_ ⟨cP _ (cP _ hz),.inr ⟨⟨(bj _ _ _ _ hgB).trans ((bj _ _ _ _ hgB).trans hg1),⟨_,_,cP _ (cP _ hz)⟩,(uo.setCell (p:=⟨_,0,none⟩) (by show _≤w.heap.size+1+1+1;omega) _).setCell (p:=⟨_,1,none⟩) (by show _≤w.heap.size+1+1+1;omega) _⟩,?_⟩⟩
   ·go_simp
   ·intro j u ds hj hp
    match j,hp with
    |0,hp=>exact hp
    |1,hp=>exact hp
    |2,hp=>exact hp
    |3,hp=>exact hp
    |4,hp=>exact hp
    |5,hp=>exact hp
    |6,hp=>exact hp
    |7,hp=>exact hp
    |8,hp=>exact hp
    |9,hp=>exact hp
    |10,_=>exact(hj rfl).elim
    |11,hp=>exact hp
    |j+12,_=>trivial
  ·clear hd;exact tV
 case rfin=>
  intro a2 w2 hR;have hS:=hR.s;have M9:w2.heap[w.heap.size+1+1+1]?=some (au #[ah ag x,ah ag y] 23 (0,0)):=hR.val 10 (by decide);have e11:a2.tmps.getD 7 af=_:=hR.val 11 (by decide);have k6:a2.tmps.getD 6 af=pv (w.heap.size+1+1+1) 0:=hR.kept (by kernel_rfl);have ha:=hR.lits 34 rfl;simp only[aU,bT,nt] at ha;clear hR;rw[e11,k6] at ha;clear e11;generalize a2.tmps.getD=zz at ha;have HE:=ai M9;have HF:=ai hS.2.2;clear M9 hS k6;subst ha;go_wp2;refine bg (results_cell_tmp (g:=w.heap.size+1+1+1) rfl rfl (run_loadVar_row _ _ 23 23 _ (0,0) _ HE.out Tryz.underlying23 rfl (by kernel_rfl))) rfl ⟨x,y,r,HXR.out,?_,rfl,HF.out⟩;rw[←HXR.out,List.getLast?_eq_getElem?,HNN.out];exact HY.out
end Go.Proofs.YtffladgmkiimjaaGreatDoor
namespace Go.Proofs.YtffladgmkiimjaaGreatDoor
open Go.RowKit Go.Lag Go.Maps
theorem wfI{n:Int}(h0 : -9223372036854775808≤n)(h1:n≤9223372036854775807):(Lit.int .i64 n).wf=true:=by
 simp[Lit.wf,IntKind.min,IntKind.max,IntKind.signed,IntKind.bits];omega
def cnt(i:Nat)(l:List eA)(n:Int):Nat:=l.countP fun a=>a.get i==n
def tN(i:Nat)(all:List eA):Nat→Nat
 |0=>0
 |j+1=>max (tN i all j) (cnt i (all.take (j+1)) ((all.getD j ⟨0,0,0,0⟩).get i))
def rb(all:List eA):Nat→Int × Nat
 |0=>(-1,all.length)
 |i+1=>if tN i all all.length<(rb all i).2 then((i:Int),tN i all all.length) else rb all i
theorem Af:Keyed aq 3:=int_keyed eo
theorem Cz(w:ar):(zeroValue 3).run aq w=.ok (.int .i64 0) w:=by kernel_rfl
def ya(D:DataW Unit)(i:Nat)(l:List eA):Prop:=IsMap D∧∀n:Int,D.atKey (.int .i64 n) (.lit (.int .i64 0))=.lit (.int .i64 (cnt i l n))
theorem ya.nil(i:Nat):ya (.map []) i []:=⟨⟨_,rfl⟩,fun n=>rfl⟩
theorem ya.put{D:DataW Unit}{i:Nat}{l:List eA}(h:ya D i l)(a:eA):ya (D.put (.int .i64 (a.get i)) (.lit (.int .i64 ((cnt i l (a.get i):Int)+1)))) i (l++[a]):=by
 refine⟨h.1.put _ _,fun n=>?_⟩
 by_cases hn:a.get i=n
 ·subst hn;rw[atKey_put_same h.1 (by trivial)];simp[cnt,List.countP_append]
 ·rw[atKey_put_other (by simpa using fun e=>hn e.symm),h.2 n];simp[cnt,List.countP_append,hn]
theorem Jv(i:Nat)(all:List eA):∀j,j≤all.length→tN i all j≤j
 |0,_=>ax _
 |j+1,h=>by
  have h1:=Jv i all j (by omega);have h2:cnt i (all.take (j+1)) ((all.getD j ⟨0,0,0,0⟩).get i)≤(all.take (j+1)).length:=wV;simp only[List.length_take] at h2;unfold tN;omega
theorem Lp(all:List eA):∀i,(rb all i).2≤all.length
 |0=>ax _
 |i+1=>by
  have:=Lp all i;unfold rb;split<;>simp<;>omega
theorem aan(b:BB)(men sent marks:aj)(ml:List Mn)(ss:List Int)(ms:List Mk)(w:ar)(hL:Laid w)(hB:cH b men sent marks ml ss ms w)(hne:bn b ml ss ms≠[]) :
  bm aq 53 #[.agg (b.cells men sent marks)] w fun e w'=>e=.returned (.tuple #[.int .i64 (rb (bn b ml ss ms) ml.length).1,.int .i64 (rb (bn b ml ss ms) ml.length).2,.int .i64 0])∧az w.heap.size w w':=by
 have hlen:=jq ss ms hB.ok hB.gV;have kg:0<(bn b ml ss ms).length:=cX.2 hne;have cS:=hB.ok;have hao:=nO (ss:=ss) (ms:=ms) hB.ok hB.gV;have S5:=hB.gV.len;obtain⟨pm,cm,rfl,_⟩:=aR hB.rm;obtain⟨pn,cn,rfl,_⟩:=aR hB.rs;obtain⟨pk,ck,rfl,_⟩:=aR hB.rk;have b1:az w.heap.size w (w.alloc (.cells (b.cells (.slice pm ml.length cm) (.slice pn ss.length cn) (.slice pk ms.length ck)) 28)):=(aw _ _).alloc (ax _) _;have HX:=ai (ay w (.cells (b.cells (.slice pm ml.length cm) (.slice pn ss.length cn) (.slice pk ms.length ck)) 28));have HO:=ai (yI b _ _ _ ml ss ms _ (hL.below b1) (hB.below b1) hne (fun W' _=>Bx b _ _ _ W'));have yg:=ai b1;have Ra:=ai hao;clear hL hB hne hao b1;generalize bn b ml ss ms=all at *;generalize ml.length=lm at *;generalize ss.length=ln at *;generalize ms.length=lk at *;have hmm:=@run_makeMap aq
 go_enter Tryz.func53,Tryz.ntmps53
 go_wp2_with (first
  |(refine wpList_load_row rfl 28 _ rfl _ rfl 28 _ (0,0) _ HX.out cB rfl (by kernel_rfl) ?_)
  |(refine wpList_store_row rfl 122 _ _ rfl _ _ rfl rfl 122 _ WJ.out (by kernel_rfl) rfl (by simp[cj]) ?_)
  |(go_at_call 103;refine HO.out.mono ?_;clear HO;rintro e w1 ⟨v,rfl,iU,hb1⟩
    obtain⟨gv,cv,rfl⟩:∃gv cv,v=.slice (some ⟨gv,0,none⟩) all.length cv:=by
     rcases iU.1.2 with⟨_,h0⟩|⟨g,cap,cur,rfl,_⟩
     ·omega
     ·exact⟨g,cap,rfl⟩
    have LB:=ai iU;have oX:=ai hb1;have WJ:=ai (ay w1 (.cells gU 122))
    clear iU hb1))
 have hk2:((w1.alloc (.cells gU 122)).setRow w1.heap.size (b.open (.slice pm lm cm) (.slice pn ln cn) (.slice pk lk ck) (.slice (some ⟨gv,0,none⟩) all.length cv))).heap[w1.heap.size]?=some (.cells (b.open (.slice pm lm cm) (.slice pn ln cn) (.slice pk lk ck) (.slice (some ⟨gv,0,none⟩) all.length cv)) 122 (0,0)):=cV WJ.out
 have uo:az w.heap.size w ((w1.alloc (.cells gU 122)).setRow w1.heap.size (b.open (.slice pm lm cm) (.slice pn ln cn) (.slice pk lk ck) (.slice (some ⟨gv,0,none⟩) all.length cv))):=by
  have h1:=yg.out.trans (oX.out.mono yg.out.size);exact dv (h1.alloc h1.size _) h1.size
 have BI:=(LB.out.1.lt gv rfl).2
 have YJ:=LB.out.at_ (W':=((w1.alloc (.cells gU 122)).setRow w1.heap.size (b.open (.slice pm lm cm) (.slice pn ln cn) (.slice pk lk ck) (.slice (some ⟨gv,0,none⟩) all.length cv)))) fun g hg=>by
  have:g=gv:=by simpa [Value.ownBlock] using hg.symm
  subst this;exact(setRow_other (by omega)).trans (aS _ _ _ BI)
 have kh:w.heap.size<w1.heap.size:=by have:=oX.out.size;simp at this;omega
 have hx2:((w1.alloc (.cells gU 122)).setRow w1.heap.size (b.open (.slice pm lm cm) (.slice pn ln cn) (.slice pk lk ck) (.slice (some ⟨gv,0,none⟩) all.length cv))).heap[w.heap.size]?=some (.cells (b.cells (.slice pm lm cm) (.slice pn ln cn) (.slice pk lk ck)) 28 (0,0)):=by
  refine(setRow_other (by omega)).trans ((aS _ _ _ (by omega)).trans ((oX.out.block _ ?_).trans HX.out));simp
 have BH:=YJ.reads (by omega);generalize hWe:((w1.alloc (.cells gU 122)).setRow w1.heap.size (b.open (.slice pm lm cm) (.slice pn ln cn) (.slice pk lk ck) (.slice (some ⟨gv,0,none⟩) all.length cv)))=W2 at *;generalize w1.heap.size=k at *
 have HC:Hid (∀j u,(rowOf all)[j]?=some u→W2.cell? ⟨gv,0+j,none⟩=some u):=ai (by
  rcases BH with⟨h0,_⟩|⟨g,off,cap,h0,_,_,h1⟩
  ·cases h0
  ·cases h0;exact h1)
 have afA:=(YJ.1.lt gv rfl).2;have y1:=aH hk2 15 _ rfl;have f1:=cN hk2 15;have FX:=ai hk2;have HX2:=ai hx2;have UL:=ai uo;have HWe:=ai hWe;clear hWe BH YJ LB yg oX HX WJ uo BI hk2 hx2
 have FW:Hid (∀w9,az W2.heap.size W2 w9→w9.cell? ⟨k,15,none⟩=some (.slice (some ⟨gv,0,none⟩) all.length cv)∧w9.heap[k]?=some (.cells (b.open (.slice pm lm cm) (.slice pn ln cn) (.slice pk lk ck) (.slice (some ⟨gv,0,none⟩) all.length cv)) 122 (0,0))∧w9.heap[w.heap.size]?=some (.cells (b.cells (.slice pm lm cm) (.slice pn ln cn) (.slice pk lk ck)) 28 (0,0))):=ai fun w9 MW=>by
  have h1:=(MW.block _ (ak.1 FX.out).1).trans FX.out;exact⟨aH h1 15 _ rfl,h1,(MW.block _ (ak.1 HX2.out).1).trans HX2.out⟩
 refine bQ (by kernel_rfl) [
 pV (.pointer (some ⟨k,15,none⟩)),
  pV (.slice (some ⟨gv,0,none⟩) all.length cv),
  pV (.int .i64 all.length),
  pV (.int .i64 (-1)),
  pV (.int .i64 all.length)]
  (fun w9=>az W2.heap.size W2 w9) [(1,pv w.heap.size 0),(5,pv k 0)] (by kernel_rfl) ?rst (fun w1 w2 h hb=>h.trans (hb.mono h.size)) (by have:=HWe.out;subst this;exact(aw _ _).drew) ⟨rfl,rfl,trivial⟩ ?reach ?rfin
 case rst=>
  refine⟨sV,sV,sV,sV,sV,trivial⟩
 case reach=>
  refine⟨?_,?_,?_,?_,?_,trivial⟩<;>rintro ev w1 hS hc hg hf ⟨b1,b5,-⟩ hd
  ·clear hd;exact tV
  ·have d0:ev (.tmp 19)=_:=hd.1 rfl;clear hd;obtain y1:=(FW.out w1 hS).1;exact tV
  ·have d1:ev (.tmp 20)=_:=hd.1 rfl;clear hd;exact tV
  ·clear hd;exact tV
  ·have d2:ev (.tmp 21)=_:=hd.1 rfl;clear hd;exact tV
 case rfin=>
  intro a2 w2 hR;have hS:=hR.s;have e3:a2.tmps.getD 2 af=_:=hR.val 3 (by decide);have e4:a2.tmps.getD 3 af=_:=hR.val 4 (by decide);have k1:a2.tmps.getD 1 af=pv w.heap.size 0:=hR.kept (by kernel_rfl);have k4:a2.tmps.getD 4 af=.int .i64 0:=hR.kept (by kernel_rfl);have k5:a2.tmps.getD 5 af=pv k 0:=hR.kept (by kernel_rfl);have ha:=hR.lits 60 rfl;simp only[aU,bT,nt] at ha;clear hR;rw[e3,e4,k1,k4,k5] at ha;generalize a2.tmps.getD=zz at ha;have oX:=ai hS;clear e3 e4 k1 k4 k5 hS y1 f1;subst ha;obtain⟨y1,hk2,hx2⟩:=FW.out w2 oX.out;have f1:=cN hk2 15;obtain⟨x0,x1,x2,x3,x4,x5,x6,x7,x8,x9,nS,nR,oO,n4,oK⟩:=bM hx2;have fx:=cN hx2 12;clear hk2 hx2;generalize hL:all.length=L at *;have HL:=ai hL;clear hL x0 x1 x2 x3 x4 x5 x6 x7 x8 x9 nS nR n4 oK;go_wp2
  go_loopw [2,3,6,7,8,10,25] (fun mn lf _ _ _ _ i wr=>∃m:Nat,m≤lm∧i=.int .i64 m∧mn=.int .i64 (rb all m).1∧lf=.int .i64 (rb all m).2∧az w2.heap.size w2 wr) (fun _ _ _ _ _ _ i _=>lm-(intOf i).toNat)
  case atStart=>exact⟨0,by omega,rfl,rfl,by simp[rb,HL.out],aw _ _⟩
  case round=>
   obtain⟨m,hm,rfl,rfl,rfl,eh⟩:=hrel;rename ar=>wo;have hsz:=eh.size
   by_cases hlt:m<lm
   ·have G9:=(eh.cell (p:=⟨k,15,none⟩) (ak.1 (FW.out w2 oX.out).2.1).1).trans y1;have wS:=ai eh
    have hkb:k<wo.heap.size:=by
     have:=(ak.1 (FW.out w2 oX.out).2.1).1;omega
    have hgb:gv<wo.heap.size:=by have:=oX.out.size;omega
    have fz:(wo.alloc (.map #[] 0)).frozen? ⟨k,15,none⟩=false:=by
     have:=(FW.out wo (oX.out.trans (eh.mono oX.out.size))).2.1;exact cN ((aS _ _ _ hkb).trans this) 15
    have HCr:Hid (∀W,az (wo.heap.size) wo W→∀i u,(rowOf all)[i]?=some u→W.cell? ⟨gv,0+i,none⟩=some u):=ai fun W hW i u hi=>by
     have:=HC.out i u hi;have h2:=(oX.out.trans ((eh.mono oX.out.size).trans (hW.mono (by have:=oX.out.size;omega)))).cell (p:=⟨gv,0+i,none⟩) afA;exact h2.trans this
    have HAs:Hid (rb all (m+1)=if tN m all all.length<(rb all m).2 then((m:Int),tN m all all.length) else rb all m):=ai rfl;have hal:=Lp all m;generalize rb all m=am at *;obtain⟨am,al⟩:=am;simp only[] at hal;clear eh;go_wp2
    go_loopw [8,10,32] (fun wst _ i wq=>∃j:Nat,j≤L∧i=.int .i64 j∧wst=.int .i64 (tN m all j)∧(∃D,ya D m (all.take j)∧wq.ownsMap aq 3 (plainElem (H:=Unit) aq 3) wo.heap.size j D)∧az wo.heap.size wo wq) (fun _ _ i _=>L-(intOf i).toNat)
    case atStart=>exact⟨0,by omega,rfl,rfl,⟨_,ya.nil _,World.ownsMap_made _ _ _ _⟩,(aw _ _).alloc (ax _) _⟩
    case round=>
     obtain⟨j,hj,rfl,rfl,⟨D,hD,hown⟩,yb⟩:=hrel
     by_cases LI:j<L
     ·have IE:j<all.length:=by rw[HL.out];exact LI
      have YH:=yb.size;have hql:=hown.lt;have hbq:=oX.out.size;obtain⟨c0,c1,c2,c3⟩:=Reads.cell (w:=wr) (cap:=cv) (n:=L) (fun i u hi=>HCr.out wr yb i u hi) j IE;simp only[cZ] at c0 c1 c2 c3;have hw1:tN m all (j+1)=max (tN m all j) (cnt m (all.take (j+1)) ((all.getD j ⟨0,0,0,0⟩).get m)):=rfl;have hwl:=Jv m all j (by omega);have hgd:all.getD j ⟨0,0,0,0⟩=all[j]:=by simp[List.getD,dE IE]
      have sX:all.take (j+1)=all.take j++[all[j]]:=List.take_append_getElem IE |>.symm
      have hcl:cnt m (all.take j) (all[j].get m)≤(all.take j).length:=wV
      have VQ:cnt m (all.take (j+1)) (all[j].get m)=cnt m (all.take j) (all[j].get m)+1:=by
       show List.countP _ (all.take (j+1))=_;rw[sX,List.countP_append,List.countP_singleton];simp[cnt]
      have hDp:=hD.put all[j];rw[←sX] at hDp;have hDk:=hD.2 (all[j].get m);simp only[List.length_take] at hcl
      have hgo:0≤all[j].get m∧all[j].get m≤99:=by
       have:=Ra.out _ (cu IE);unfold eA.get;split
       ·exact this.m0
       ·exact this.m1
       ·exact this.m2
      rw[hgd,VQ] at hw1;have HCn:=ai VQ;have Ti:=ay wr (.cells all[j].cells 134)
      have hx:(wr.alloc (.cells all[j].cells 134)).cell? ⟨wr.heap.size,1+m,none⟩=some (.int .i64 (all[j].get m)):=by
       have h3:m<3:=by omega
       match m,h3 with
       |0,_=>exact aH Ti 1 _ rfl
       |1,_=>exact aH Ti 2 _ rfl
       |2,_=>exact aH Ti 3 _ rfl
      have hoa:=hown.alloc (.cells all[j].cells 134);have HBa:=ai Ti;have Q9:=ai yb;have HDp:=ai hDp;have HDk:=ai hDk;have HW1:=ai hw1;clear hD hown sX hgd VQ Ti yb hDp hDk;generalize all[j]=a at *;generalize hcc:cnt m (all.take j) (a.get m)=cc at *;generalize hww:tN m all j=ww at *;have hkey:keyOf aq 3 (.int .i64 (a.get m))=some (.int .i64 (a.get m)):=keyOf_int_mk eo (wfI (by omega) (by omega));have zz:IntKind.i64.wrap ((cc:Int)+1)=(cc:Int)+1:=by rw[bY];omega
      have HNe:Hid (wr.heap.size≠wo.heap.size):=ai (by omega);rcases Int.lt_or_le (ww:Int) ((cc:Int)+1) with q1|q1
      ·go_wp2_with (first
        |(at_lookup;refine wpList_lookup_own_int _ rfl _ _ 146 rfl 3 3 .i64 Af Tryz.underlying146 eo (Cz _) wo.heap.size j _ rfl hoa _ _ rfl hkey ?_;intro c hat hwc
          obtain rfl:c=(cc:Int):=by rw[HDk.out] at hat;simpa using hat.symm)
        |(at_lookup;refine wpList_lookup_own_int _ rfl _ _ 146 rfl 3 3 .i64 Af Tryz.underlying146 eo (Cz _) wo.heap.size (j+1) _ rfl hown1 _ _ rfl hkey ?_;intro c hat hwc
          obtain rfl:c=(cc:Int)+1:=by have:=HDp.out.2 (a.get m);rw[HCn.out] at this;rw[this] at hat;simpa using hat.symm)
        |(at_mapUpdate;refine wpList_mapUpdate_own _ rfl _ _ _ 146 rfl 3 3 Af Tryz.underlying146 _ wo.heap.size j _ rfl hoa (by unfold jB;omega) _ _ _ rfl rfl hkey _ [] (plainElem_int eo (wfI (by omega) (by omega))) ?_;intro w1 hown1 D8
          have hx1:=(D8.cell hx (by simpa using HNe.out))
          clear hx)
        |go_in)
       go_roundw
       case rel=>
        refine⟨j+1,by omega,by simp,?_,⟨_,HDp.out,hown1⟩,(Q9.out.alloc (by omega) _).grown D8 (by simp;omega) (fun k hk=>by cases hk;exact ax _)⟩;exact congrArg (aD .i64) (by have:=HW1.out;omega)
       case measure=>simp[intOf];omega
      ·go_wp2_with (first
        |(at_lookup;refine wpList_lookup_own_int _ rfl _ _ 146 rfl 3 3 .i64 Af Tryz.underlying146 eo (Cz _) wo.heap.size j _ rfl hoa _ _ rfl hkey ?_;intro c hat hwc
          obtain rfl:c=(cc:Int):=by rw[HDk.out] at hat;simpa using hat.symm)
        |(at_lookup;refine wpList_lookup_own_int _ rfl _ _ 146 rfl 3 3 .i64 Af Tryz.underlying146 eo (Cz _) wo.heap.size (j+1) _ rfl hown1 _ _ rfl hkey ?_;intro c hat hwc
          obtain rfl:c=(cc:Int)+1:=by have:=HDp.out.2 (a.get m);rw[HCn.out] at this;rw[this] at hat;simpa using hat.symm)
        |(at_mapUpdate;refine wpList_mapUpdate_own _ rfl _ _ _ 146 rfl 3 3 Af Tryz.underlying146 _ wo.heap.size j _ rfl hoa (by unfold jB;omega) _ _ _ rfl rfl hkey _ [] (plainElem_int eo (wfI (by omega) (by omega))) ?_;intro w1 hown1 D8
          have hx1:=(D8.cell hx (by simpa using HNe.out))
          clear hx)
        |go_in)
       go_roundw
       case rel=>
        refine⟨j+1,by omega,by simp,?_,⟨_,HDp.out,hown1⟩,(Q9.out.alloc (by omega) _).grown D8 (by simp;omega) (fun k hk=>by cases hk;exact ax _)⟩;exact congrArg (aD .i64) (by have:=HW1.out;omega)
       case measure=>simp[intOf];omega
     ·obtain rfl:j=L:=by omega
      have Q9:=ai yb;have HHm:=hmm;rw[HL.out] at HAs;clear hown yb hD;generalize tN m all j=ww at *
      by_cases h9:(ww:Int)<al
      ·go_wp2;go_roundw
       case rel=>
        refine⟨m+1,by omega,by simp,?_,?_,wS.out.trans (Q9.out.mono hsz)⟩
        ·rw[HAs.out,if_pos (by omega)]
        ·rw[HAs.out,if_pos (by omega)]
       case measure=>simp[intOf];omega
      ·go_wp2;go_roundw
       case rel=>
        refine⟨m+1,by omega,by simp,?_,?_,wS.out.trans (Q9.out.mono hsz)⟩
        ·rw[HAs.out,if_neg (by omega)]
        ·rw[HAs.out,if_neg (by omega)]
       case measure=>simp[intOf];omega
   ·obtain rfl:m=lm:=by omega
    have wS:=ai eh;clear eh;go_wp2
    go_ret3
    exact⟨rfl,UL.out.trans ((oX.out.trans (wS.out.mono oX.out.size)).mono UL.out.size)⟩
end Go.Proofs.YtffladgmkiimjaaGreatDoor
namespace Go.Proofs.YtffladgmkiimjaaGreatDoor
open Go.RowKit Go.Lag
open Go.Conc
theorem TC:ex.Ok:=⟨by decide,by decide,by decide,by decide,by decide,by decide,by decide,by decide,by decide,by decide⟩
theorem OM:wQ jQ:=by
 refine⟨fun m h=>?_,fun i k hi hk hik=>?_,by decide⟩
 ·simp only[jQ,bR,List.not_mem_nil,or_false] at h;rcases h with rfl|rfl
  ·refine⟨⟨by decide,fun k h=>?_⟩,by decide⟩;have h3:k<3:=h
   match k,h3 with
   |0,_=>exact cA (show 97≤97∧97≤122 from by decide)
   |1,_=>exact cA (show 97≤110∧110≤122 from by decide)
   |2,_=>exact cA (show 97≤110∧110≤122 from by decide)
  ·refine⟨⟨by decide,fun k h=>?_⟩,by decide⟩;have h3:k<2:=h
   match k,h3 with
   |0,_=>exact cA (show 97≤98∧98≤122 from by decide)
   |1,_=>exact cA (show 97≤111∧111≤122 from by decide)
 ·have h2:k<2:=hk;obtain⟨rfl,rfl⟩:i=0∧k=1:=by omega
  show(⟨#[97,110,110]⟩:ByteArray)≠⟨#[98,111]⟩;decide
def rj:Mk:=⟨1,11,11⟩
def Yn:Mk:=⟨1,12,12⟩
theorem Yo:jF ex [rj]:=⟨by decide,by decide⟩
theorem Vm:jF ex [rj,Yn]:=⟨by decide,by decide⟩
theorem OO:bn ex jQ [] []=[⟨0,3,4,0⟩,⟨0,4,4,0⟩,⟨1,3,4,0⟩,⟨1,4,4,0⟩]:=by decide+kernel
theorem KT:bn ex jQ [] [rj]=[⟨0,4,4,0⟩,⟨1,3,4,0⟩,⟨1,4,4,0⟩]:=by decide+kernel
theorem TI:bn (ex.lk 0 0) jQ [] [rj]=[⟨0,4,4,0⟩]:=by decide+kernel
theorem KS:bn ex jQ [] []≠[]:=by rw[OO];simp
theorem TD:bn ex jQ [] [rj]≠[]:=by rw[KT];simp
theorem XF:bn (ex.lk 0 0) jQ [] [rj]≠[]:=by rw[TI];simp
theorem Hu{b:BB}{pl:List Int}(h:(pl.all fun p=>decide (1≤p∧p≤b.minutes))=true)(ha:∀(k:Nat) (h:k+1<pl.length),pl[k]<pl[k+1])(hl:(pl.length:Int)≤b.eT):js b pl:=
 ⟨fun p hp=>by have:=aW.1 h p hp;simpa using this,ha,hl⟩
theorem Mr:js ex [1,3]:=Hu (by decide) (fun k h=>by have h2:k+1<2:=h;obtain rfl:k=0:=(by omega);simp) (by decide)
theorem X8:js ex [1,2]:=Hu (by decide) (fun k h=>by have h2:k+1<2:=h;obtain rfl:k=0:=(by omega);simp) (by decide)
theorem W7:js ex [1]:=Hu (by decide) (fun k h=>by have h2:k+1<1:=h;omega) (by decide)
theorem RQ(b:BB)(h:b.Ok):js b []:=⟨by simp,fun k h=>by simp at h,by have:=h.eT;simpa using this.1⟩
theorem zV{zs ys:List Int}(hp:zs.Perm ys)(hs:ys.Pairwise (·≤·)):sorted zs=ys:=by
 have h1:(sorted zs).Pairwise (fun a b=>(decide (a≤b))=true):=List.pairwise_mergeSort (fun a b c h1 h2=>by simp at *;omega) (fun a b=>by simp;omega) zs;exact List.Perm.eq_of_pairwise (le:=fun a b=>a≤b) (fun a b _ _ h1 h2=>by omega) (h1.imp fun h=>by simpa using h) hs ((List.mergeSort_perm zs _).trans hp)
theorem vu(lt:Nat→Nat→Bool)(p:Nat):∀(r:List Nat) (x:Nat),p∈x::r→(∀y∈x::r,(y==p||(lt p y && !lt y p))=true)→jA lt x r=p
 |[],x,hm,_=>(List.mem_singleton.1 hm).symm
 |y::r,x,hm,h=>by
  show jA lt (if lt y x=true then y else x) r=p;have hx:=h x (by simp);have hy:=h y (by simp);have hr:∀z∈r,(z==p||(lt p z && !lt z p))=true:=fun z hz=>h z (by simp[hz])
  by_cases e1:x=p
  ·subst e1
   have:(if lt y x=true then y else x)=x:=by
    by_cases hl:lt y x=true
    ·simp[hl] at hy;rw[if_pos hl];exact hy
    ·rw[if_neg hl]
   rw[this]
   exact vu lt x r x (by simp) fun z hz=>by
    rcases bR.1 hz with rfl|hz
    ·simp
    ·exact hr z hz
  ·by_cases e2:y=p
   ·subst e2
    have hx':lt y x=true:=by
     rw[Bool.or_eq_true,aC] at hx;rcases hx with hx|hx
     ·exact absurd (by simpa using hx) e1
     ·exact hx.1
    rw[if_pos hx']
    exact vu lt y r y (by simp) fun z hz=>by
     rcases bR.1 hz with rfl|hz
     ·simp
     ·exact hr z hz
   ·have hp:p∈r:=by
     rcases bR.1 hm with h1|h1
     ·exact absurd h1.symm e1
     ·rcases bR.1 h1 with h2|h2
      ·exact absurd h2.symm e2
      ·exact h2
    refine vu lt p r _ (by simp[hp]) fun z hz=>?_;rcases bR.1 hz with rfl|hz
    ·by_cases hl:lt y x=true
     ·rw[if_pos hl];exact hy
     ·rw[if_neg hl];exact hx
    ·exact hr z hz
theorem BM:jS ex (dp [] []).toNat (bG []) (bn ex jQ [] []) 512=[10,12,18,20]:=by decide+kernel
section
variable{w:ar}{m s k:aj}
theorem Wc(hL:Laid w)(hB:cH ex m s k jQ [] [] w):bm aq 33 #[aO (ex.cells m s k)] w fun e w'=>e=aF (cD #[ah ag 60,ah ag 0])∧az w.heap.size w w':=Ue ex m s k jQ [] [] w hL hB
theorem acU(hL:Laid w)(hB:cH ex m s k jQ [] [] w):bm aq 65 #[aO (ex.cells m s k),ah ag 37] w fun e w'=>e=aF (cD #[ah ag 18,ah ag 0])∧az w.heap.size w w':=aak ex m s k jQ [] [] w hL hB 37 (by decide)
theorem iE{q:Nat}{l:List Int}{t:TypeId}(h:w.heap[q]?=some (au ((l.map (aD ag)).toArray) t (0,0)))(hl:l.length≤100):Reads w (ae (some ⟨q,0,none⟩) l.length l.length) l.length (l.map (aD ag)):=
 .inr ⟨q,0,l.length,rfl,by omega,(ak.1 h).1,fun j u hj=>by rw[cZ];exact aH h j u (by simpa using hj)⟩
theorem ZJ(hL:Laid w)(hB:cH ex m s k jQ [] [] w)(q q2:Nat)(h1:w.heap[q]?=some (au #[ah ag 3,ah ag 4] 3 (0,0)))(h2:w.heap[q2]?=some (au #[ah ag 1] 3 (0,0))) :
  bm aq 32 #[aO (ex.cells m s k),aO #[ah ag 0,ae (some ⟨q,0,none⟩) 2 2],ae (some ⟨q2,0,none⟩) 1 1] w fun e w'=>∃v,e=aF (cD #[v,ah ag 0])∧Reads w' v 5 ([44,38,29,20,11].map (aD ag))∧az w.heap.size w w':=by
 have h:=WD ex m s k jQ [] [] w hL hB 0 (by decide) [3,4] (by decide) rfl q 0 2 (ak.1 h1).1 (by decide) (fun j u hj=>by rw[cZ];exact aH h1 j u (by simpa using hj)) [1] W7 _ (iE (l:=[1]) h2 (by decide));have e:ex.mR (ex.cM+(o8 0 [3,4]).used) (bG [1]) ex.minutes.toNat=[44,38,29,20,11]:=by decide+kernel
 rw[e] at h;exact h
theorem TH(hL:Laid w)(hB:cH ex m s k jQ [] [] w):bm aq 42 #[aO (ex.cells m s k)] w fun e w'=>e=aF (cD #[ah ag 4,ah ag 0])∧az w.heap.size w w':=by
 have h:=zI ex m s k jQ [] [] w hL hB;rw[OO] at h;exact h
theorem acX(hL:Laid w)(hB:cH ex m s k jQ [] [] w)(q:Nat)(h1:w.heap[q]?=some (au #[ah ag 1,ah ag 3] 3 (0,0))) :
  bm aq 60 #[aO (ex.cells m s k),ae (some ⟨q,0,none⟩) 2 2,ah ag 5] w fun e w'=>e=aF (cD #[aO #[ah ag 21,ah ag 31],ah ag 0])∧az w.heap.size w w':=by
 have h:=aap ex m s k jQ [] [] w hL hB KS [1,3] Mr 5 (by decide) (by decide) _ (iE (l:=[1,3]) h1 (by decide));refine h.mono ?_;rintro e w' ⟨x,y,r,hn,hy,rfl,hb⟩
 have e1:gI (fun a=>ex.B5 (ex.cM+a.used) (bG [1,3]) 5) (bn ex jQ [] [])=[21,26,31]:=by
  unfold gI;rw[zV (ys:=[21,26,26,31]) (by decide+kernel) (by decide)];decide+kernel
 rw[e1] at hn;cases hn;cases hy;exact⟨rfl,hb⟩
theorem ZL(hL:Laid w)(hB:cH ex m s k jQ [] [] w)(q:Nat)(h1:w.heap[q]?=some (au #[ah ag 1,ah ag 3] 3 (0,0))) :
  bm aq 44 #[aO (ex.cells m s k),ae (some ⟨q,0,none⟩) 2 2] w fun e w'=>e=aF (cD #[ah ag 1,ah ag 0])∧az w.heap.size w w':=by
 have h:=O9 ex m s k jQ [] [] w hL hB KS [1,3] Mr _ (iE (l:=[1,3]) h1 (by decide));have e:pq (KF ex (bn ex jQ [] []) (bG [1,3])) (bn ex jQ [] []).length=1:=by decide+kernel
 rw[e] at h;exact h
theorem Wd(hL:Laid w)(hB:cH ex m s k jQ [] [] w)(q:Nat)(h1:w.heap[q]?=some (au #[ah ag 1,ah ag 2] 3 (0,0))) :
  bm aq 44 #[aO (ex.cells m s k),ae (some ⟨q,0,none⟩) 2 2] w fun e w'=>e=aF (cD #[ah ag 0,ah ag 0])∧az w.heap.size w w':=by
 have h:=O9 ex m s k jQ [] [] w hL hB KS [1,2] X8 _ (iE (l:=[1,2]) h1 (by decide));have e:pq (KF ex (bn ex jQ [] []) (bG [1,2])) (bn ex jQ [] []).length=0:=by decide+kernel
 rw[e] at h;exact h
theorem acV(hL:Laid w)(hB:cH ex m s k jQ [] [] w) :
  bm aq 63 #[aO (ex.cells m s k),ae none 0 0] w fun e w'=>e=aF (cD #[ah ag 2,aG true,ah ag 0])∧az w.heap.size w w':=by
 have h:=aam ex m s k jQ [] [] w hL hB KS [] (RQ _ TC) (ae none 0 0) (cA ⟨rfl,rfl,rfl⟩);have e:ud ex (bn ex jQ [] []) (bG [])=(2,true):=by decide+kernel
 rw[e] at h;exact h
theorem TG(hL:Laid w)(hB:cH ex m s k jQ [] [] w)(p1:Plain w m)(p2:Plain w s)(p3:Plain w k) :
  iQ aq 20 #[aO (ex.cells m s k)] w fun v w'=>∃lv:aj,v=cD #[lv,aG true,ah ag 0]∧Reads w' lv 2 ([1,3].map (aD ag))∧Old w w':=by
 have h:=TA hL hB p1 p2 p3 KS (by rw[BM];simp) (by rw[BM];decide) 10 (fun x r hp=>vu rZ 10 r x (hp.mem_iff.2 (by rw[BM];decide)) fun y hy=>by
  have:=hp.mem_iff.1 hy;rw[BM] at this;have h2:([10,12,18,20].all fun y=>y==10||(rZ 10 y && !rZ y 10))=true:=by decide+kernel
  exact aW.1 h2 y this)
 have e:gH 10=[1,3]:=by decide+kernel
 unfold O3 at h;rw[e] at h;exact h
theorem TF(hL:Laid w)(hB:cH ex m s k jQ [] [] w)(p1:Plain w m)(p2:Plain w s)(p3:Plain w k) :
  iQ aq 23 #[aO (ex.cells m s k)] w fun v w'=>∃lv:aj,v=cD #[lv,aG true,ah ag 0]∧Reads w' lv 2 ([2,4].map (aD ag))∧Old w w':=by
 have h:=SG hL hB p1 p2 p3 KS (by rw[BM];simp) (by rw[BM];decide) 20 (fun x r hp=>vu rY 20 r x (hp.mem_iff.2 (by rw[BM];decide)) fun y hy=>by
  have:=hp.mem_iff.1 hy;rw[BM] at this;have h2:([10,12,18,20].all fun y=>y==20||(rY 20 y && !rY y 20))=true:=by decide+kernel
  exact aW.1 h2 y this)
 have e:gH 20=[2,4]:=by decide+kernel
 unfold O3 at h;rw[e] at h;exact h
theorem QC(hL:Laid w)(hB:cH ex m s k jQ [] [] w)(q:Nat)(h1:w.heap[q]?=some (au #[ah ag 1,ah ag 3] 3 (0,0))) :
  bm aq 25 #[aO (ex.cells m s k),ae (some ⟨q,0,none⟩) 2 2] w fun e w'=>e=aF (cD #[ah ag 44,aG true,ah ag 0])∧az w.heap.size w w':=by
 have h:=NN ex m s k jQ [] [] w hL hB KS [1,3] Mr _ (iE (l:=[1,3]) h1 (by decide));have e:oA ex (bn ex jQ [] []) (bG [1,3]) 100=some 44:=by decide+kernel
 rw[e] at h;exact h
theorem ZM(hL:Laid w)(hB:cH ex m s k jQ [] [] w)(q:Nat)(h1:w.heap[q]?=some (au #[ah ag 1] 3 (0,0))) :
  bm aq 27 #[aO (ex.cells m s k),ae (some ⟨q,0,none⟩) 1 1] w fun e w'=>∃v,e=aF (cD #[v,aG true,ah ag 0])∧Reads w' v 1 ([0].map (aD ag))∧az w.heap.size w w':=by
 have h:=WV ex m s k jQ [] [] w hL hB KS [1] W7 _ (iE (l:=[1]) h1 (by decide));have e:iA ex (bn ex jQ [] []) (bG [1]) jQ.length (2 ^ jQ.length)=([0],true):=by decide+kernel
 rw[e] at h;exact h
theorem ZK(hL:Laid w)(hB:cH ex m s (ae none 0 0) jQ [] [] w) :
  bm aq 75 #[aO (ex.cells m s (ae none 0 0)),aO #[ah ag 1,ah ag 11,ah ag 11]] w fun e w'=>∃m' s' k',e=aF (cD #[aO (ex.cells m' s' k'),ah ag 0])∧fq ex m' s' k' jQ [] [rj] w'∧az w.heap.size w w':=WG ex m s jQ [] w hL hB rj Yo TD
theorem QD(hL:Laid w)(hB:cH ex m s k jQ [] [rj] w):bm aq 42 #[aO (ex.cells m s k)] w fun e w'=>e=aF (cD #[ah ag 3,ah ag 0])∧az w.heap.size w w':=by
 have h:=zI ex m s k jQ [] [rj] w hL hB;rw[KT] at h;exact h
theorem QE(hL:Laid w)(hB:cH ex m s k jQ [] [rj] w) :
  bm aq 58 #[aO (ex.cells m s k),ah ag 0] w fun e w'=>∃v,e=aF (cD #[v,ah ag 0])∧Reads w' v 2 ([3,4].map (aD ag))∧az w.heap.size w w':=by
 have h:=E5 ex m s k jQ [] [rj] w hL hB TD 0 (by decide)
 have e:gI (fun a=>a.get 0) (bn ex jQ [] [rj])=[3,4]:=by
  unfold gI;rw[zV (ys:=[3,4,4]) (by decide+kernel) (by decide)];decide+kernel
 rw[e] at h;exact h
theorem acW(hL:Laid w)(hB:cH ex m s k jQ [] [rj] w):bm aq 53 #[aO (ex.cells m s k)] w fun e w'=>e=aF (cD #[ah ag 0,ah ag 2,ah ag 0])∧az w.heap.size w w':=by
 have h:=aan ex m s k jQ [] [rj] w hL hB TD;have e:rb (bn ex jQ [] [rj]) jQ.length=(0,2):=by decide+kernel
 rw[e] at h;exact h
theorem Wi(hL:Laid w)(hB:cH ex m s k jQ [] [rj] w) :
  bm aq 80 #[aO (ex.cells m s k),aO #[ah ag 0,ah ag 0]] w fun e w'=>∃m' s' k',e=aF (cD #[aO ((ex.lk 0 0).cells m' s' k'),ah ag 0])∧fq (ex.lk 0 0) m' s' k' jQ [] [rj] w'∧az w.heap.size w w':=
 Uu ex m s k jQ [] [rj] w hL hB 0 0 (by decide) (by decide) (by decide) 0 0 (by decide) (by decide) (by decide) XF
theorem M7(hL:Laid w)(hB:cH (ex.lk 0 0) m s k jQ [] [rj] w) :
  bm aq 58 #[aO ((ex.lk 0 0).cells m s k),ah ag 0] w fun e w'=>∃v,e=aF (cD #[v,ah ag 0])∧Reads w' v 1 ([4].map (aD ag))∧az w.heap.size w w':=by
 have h:=E5 (ex.lk 0 0) m s k jQ [] [rj] w hL hB XF 0 (by decide)
 have e:gI (fun a=>a.get 0) (bn (ex.lk 0 0) jQ [] [rj])=[4]:=by
  unfold gI;rw[zV (ys:=[4]) (by decide+kernel) (by decide)];decide+kernel
 rw[e] at h;exact h
theorem ZI(hL:Laid w)(hB:cH ex m s k jQ [] [rj] w):bm aq 82 #[aO (ex.cells m s k),ah ag 1] w fun e w'=>e=aF (cD #[aO gT,ah ag 7])∧az w.heap.size w w':=
 Jf ex m s k jQ [] [rj] w hL hB 1 (by decide) (by decide) (by decide+kernel)
theorem TE(hB:cH ex m s k jQ [] [rj] w) :
  bm aq 88 #[aO (ex.cells m s k),aO #[ah ag 1,ah ag 12,ah ag 12]] w fun e w'=>∃k',e=aF (aO (ex.cells m s k'))∧cH ex m s k' jQ [] [rj,Yn] w'∧az w.heap.size w w':=by
 obtain⟨p1,c1,e1,_⟩:=aR hB.rm;obtain⟨p2,c2,e2,_⟩:=aR hB.rs;refine(NH ex m s k ⟨⟨_,_,_,e1⟩,⟨_,_,_,e2⟩⟩ [rj] (by decide) Yn w hB.rk).mono ?_;rintro e w' ⟨k',rfl,h1,_,hb⟩;exact⟨k',rfl,⟨TC,OM,RQ _ TC,Vm,hB.rm.below hb,hB.rs.below hb,h1⟩,hb⟩
theorem Wh(hL:Laid w)(hB:cH ex m s k jQ [] [rj,Yn] w) :
  bm aq 50 #[aO (ex.cells m s k)] w fun e w'=>∃v,e=aF (cD #[v,ah ag 0])∧Reads w' v 2 ([0,1].map (aD ag))∧az w.heap.size w w':=by
 have h:=LD ex m s k jQ [] [rj,Yn] w hL hB;have e:kj ex jQ [] [rj,Yn]=[0,1]:=by decide+kernel
 rw[e] at h;exact h
end
structure XV(m:aj)(w:ar):Prop where
 own:fq ex m (ae none 0 0) (ae none 0 0) jQ [] [] w
 pl:Plain w m
theorem QB{w:ar}(h0:1≤w.heap.size):bm aq 93 #[] w fun e w'=>∃m,e=aF (aO (ex.cells m (ae none 0 0) (ae none 0 0)))∧XV m w'∧az w.heap.size w w':=by
 refine(KR w).mono ?_;rintro e w' ⟨g,c,rfl,hr,hg,hge,hb⟩;refine⟨_,rfl,⟨⟨⟨TC,OM,RQ _ TC,⟨by simp,by simp⟩,hr,cA ⟨rfl,rfl,rfl⟩,cA ⟨rfl,rfl,rfl⟩⟩,fun g' h'=>?_,fun g' h'=>(by cases h'),fun g' h'=>(by cases h')⟩,fun g' h'=>?_⟩,hb⟩
 ·obtain rfl:g=g':=bf h';exact⟨_,hg⟩
 ·obtain rfl:g=g':=bf h';refine⟨by omega,_,_,_,hg,fun u hu=>?_⟩;simp only[fF,jQ,List.flatMap_cons,List.flatMap_nil,List.append_nil] at hu;simp at hu;rcases hu with rfl|rfl|rfl|rfl|rfl|rfl
  ·exact .inr ⟨_,rfl⟩
  ·exact cA ⟨_,_,rfl⟩
  ·exact cA ⟨_,_,rfl⟩
  ·exact .inr ⟨_,rfl⟩
  ·exact cA ⟨_,_,rfl⟩
end Go.Proofs.YtffladgmkiimjaaGreatDoor
