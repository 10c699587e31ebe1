/- LONE WALKS: Crew (27). LONE WALKS: Air (60). LONE WALKS: Ask (53). THE .. -/
import Derived.Test.YtffladgmkiimjaaGreatDoorW13
import Derived.Test.YtffladgmkiimjaaGreatDoorW07
import Derived.Test.YtffladgmkiimjaaGreatDoorW01
import Derived.Test.YtffladgmkiimjaaGreatDoorW03
import Derived.Test.YtffladgmkiimjaaGreatDoorW04
import Derived.Maps.OwnOps
import Derived.Maps.Views
import Derived.Test.YtffladgmkiimjaaGreatDoorW14
import Derived.Test.YtffladgmkiimjaaGreatDoorW05
set_option linter.all false
set_option maxHeartbeats 100000000
set_option maxRecDepth 1000000
open Array renaming getElem?_eq_some_iff → ak
open Go renaming undef → af,Value → aj,World → ar,Calls → bm
open Go.Addr renaming add → kC
open Go.Ending renaming returned → aC
open Go.IntKind renaming i64 → ag
open Go.Lib renaming hid → ai
open Go.Obj renaming cells → au
open Go.Operand renaming tmp → aJ
open Go.Proofs.Tryz renaming prog → aq,underlying3 → ig
open Go.RowKit renaming Below → az
open Go.RowKit.Below renaming heap_alloc → aS,refl → aw,heap_setCell → bj
open Go.Value renaming bool → aF,int → aG,agg → aO,slice → ae,int → ah,tuple → cA,oneCell' → cu,bool → l5
open Go.World renaming alloc_heap_new → ay,ownsRow_nil → dL
open List renaming range → aT,all_eq_true → aU,getElem_mem → bO,mem_cons → bR,take_succ_eq_append_getElem → bZ,length_pos_iff → cQ,getElem?_eq_getElem → dg,length_map → dz,map_append → fG,getD_cons_zero → fS,getD_cons_succ → fT,map → nA,length_mergeSort → xd,countP_le_length → xe
open List.range renaming loop → bT
open Nat renaming le_refl → ax,zero_add → cJ,zero_le → jS
open Option.some renaming inj → bg
open Or renaming inl → cF
namespace Go.Proofs.YtffladgmkiimjaaGreatDoor
open Go.RowKit Go.Lag
theorem gA{bs:Bool}:(l5 bs=aF true)↔bs=true:=by simp
theorem gB{bs x:Bool}:((if bs=true then l5 x else af)=aF false)↔(bs && !x)=true:=by cases bs<;>cases x<;>simp[af]
theorem X7{bs x:Bool}:((if bs=true then l5 x else af)=aF true)↔(bs&&x)=true:=by cases bs<;>cases x<;>simp[af]
theorem dT.TK{a:dT}(h:a.Ok)(i:Nat):0≤a.get i∧a.get i≤99:=by
 unfold dT.get;split
 ·exact h.m0
 ·exact h.m1
 ·exact h.m2
def dT.only(a:dT)(c:List Nat):dT:=c.foldl (fun k i=>k.put i (a.get i)) ⟨a.leak,0,0,0⟩
def iC(b:BB)(all:List dT)(p n mask:Nat):Bool:=b.sure (all.map fun a=>a.only (bS n mask)) p
def qx(bs f:Bool)(c l:List Int):Bool:=bs&&((!f||decide ((c.length:Int)>l.length))||(((c.length:Int)==(l.length:Int))&&decide (gG c l<0)))
theorem dT.VD{a:dT}(h:a.Ok)(c:List Nat):(a.only c).Ok:=by
 unfold dT.only
 have:∀(c:List Nat) (k:dT),k.Ok→(c.foldl (fun k i=>k.put i (a.get i)) k).Ok:=by
  intro c
  induction c with
  |nil=>exact fun k hk=>hk
  |cons i c ih=>exact fun k hk=>ih _ (dT.MI hk i (dT.TK h i).1 (dT.TK h i).2)
 exact this c _ ⟨h.leak,by simp,by simp,by simp⟩
def eA(b:BB)(all:List dT)(p n:Nat):Nat→List Int × Bool
 |0=>([],false)
 |m+1=>if qx (iC b all p n m) (eA b all p n m).2 (cZ n m) (eA b all p n m).1 then(cZ n m,true) else eA b all p n m
theorem Pv(b:BB)(men sent marks:aj)(ml:List Mn)(ss:List Int)(ms:List Mk)(w:ar)(hL:Laid w)(hB:cI b men sent marks ml ss ms w)(hne:aX b ml ss ms≠[])(pl:List Int)(hp:fj b pl)(lv:aj)(hl:Reads w lv pl.length (pl.map (aG ag))) :
  bm aq 27 #[aO (b.cells men sent marks),lv] w fun e w'=>∃v,e=aC (cA #[v,aF (eA b (aX b ml ss ms) (bE pl) ml.length (2 ^ ml.length)).2,ah ag 0])∧Reads w' v (eA b (aX b ml ss ms) (bE pl) ml.length (2 ^ ml.length)).1.length ((eA b (aX b ml ss ms) (bE pl) ml.length (2 ^ ml.length)).1.map (aG ag))∧az w.heap.size w w':=by
 have Tq:=hB.gX.len;obtain⟨i0,hi,hz0,hz1,hz2⟩:=info_parts info3;obtain⟨i1,FN,OT,hy1,hy2⟩:=info_parts OQ;have hlen:=ju ss ms hB.ok hB.gX;have jJ:0<(aX b ml ss ms).length:=cQ.2 hne;have cN:=hB.ok;have hao:=nT (ss:=ss) (ms:=ms) hB.ok hB.gX;have Ay:=cN.minutes;have o6:∀s∈pl,1≤s∧s≤8:=fun s h=>by have:=hp.mem s h;omega
 have Qy:bE pl<512:=mU pl o6;obtain⟨pm,cm,rfl,_⟩:=aR hB.rm;obtain⟨pn,cn,rfl,_⟩:=aR hB.rs;obtain⟨pk,ck,rfl,_⟩:=aR hB.rk;obtain⟨qi,qw,rfl,_⟩:=aR hl;have b1:az w.heap.size w (w.alloc (au (b.cells (ae pm ml.length cm) (ae pn ss.length cn) (ae pk ms.length ck)) 28)):=(aw _ _).alloc (ax _) _;have hk:=ay w (au (b.cells (ae pm ml.length cm) (ae pn ss.length cn) (ae pk ms.length ck)) 28)
 have UF:Hid (∀W cp,az w.heap.size w W→W.heap[cp]?=some (au #[ae qi pl.length qw] 25 (0,0))→bm aq 103 #[aO (b.cells (ae pm ml.length cm) (ae pn ss.length cn) (ae pk ms.length ck)),.func (.func 164) #[] #[pv cp 0]] W fun e w'=>∃v,e=aC (cA #[aO (b.open (ae pm ml.length cm) (ae pn ss.length cn) (ae pk ms.length ck) v),ah ag 0])∧gP w' W.heap.size v (aX b ml ss ms)∧az W.heap.size W w'):=
  ai fun W cp JE Ty=>CQ b _ _ _ ml ss ms W (hL.below JE) (hB.below JE) hne cp fun W' hb'=>by
   have hlt:=(ak.1 Ty).1;exact C8 b cN _ _ _ pl hp cp _ W' ((hb'.block _ hlt).trans Ty) ((hl.below JE).below hb')
 have JG:=ai hl;have Rv:=ai hao;have Xo:=ai o6;clear hL hB hl hao hp o6;generalize aX b ml ss ms=all at *;generalize ml.length=lm at *;generalize ss.length=ln at *;generalize ms.length=lk at *
 go_enter Tryz.func27,Tryz.ntmps27
 go_wp2
 refine bQ (by kernel_rfl) [
 pV (aO (b.cells (ae pm lm cm) (ae pn ln cn) (ae pk lk ck))),
  pV (ae qi pl.length qw),
  fun v ds w9=>∃cp,v=.func (.func 164) #[] #[pv cp 0]∧w9.heap[cp]?=some (au #[ae qi pl.length qw] 25 (0,0)),
  fun v ds w9=>∃gv cv,v=cA #[aO (b.open (ae pm lm cm) (ae pn ln cn) (ae pk lk ck) (ae (some ⟨gv,0,none⟩) all.length cv)),ah ag 0]∧gP w9 w.heap.size (ae (some ⟨gv,0,none⟩) all.length cv) all,
  fun v ds w9=>∃gv cv,v=cA #[aO (b.open (ae pm lm cm) (ae pn ln cn) (ae pk lk ck) (ae (some ⟨gv,0,none⟩) all.length cv)),ah ag 0]∧gP w9 w.heap.size (ae (some ⟨gv,0,none⟩) all.length cv) all,
  fun v ds w9=>∃gv cv,v=aO (b.open (ae pm lm cm) (ae pn ln cn) (ae pk lk ck) (ae (some ⟨gv,0,none⟩) all.length cv))∧gP w9 w.heap.size (ae (some ⟨gv,0,none⟩) all.length cv) all,
  pV (ah ag 0),
  fun v ds w9=>∃k,∃z:Array aj,v=pv k 0∧w.heap.size+1≤k∧w9.heap[k]?=some (au z 122 (0,0))∧z.size=16,
  fun v ds w9=>∃k gv cv,ds[0]?=some (pv k 0)∧w.heap.size+1≤k∧w9.heap[k]?=some (au (b.open (ae pm lm cm) (ae pn ln cn) (ae pk lk ck) (ae (some ⟨gv,0,none⟩) all.length cv)) 122 (0,0))∧gP w9 w.heap.size (ae (some ⟨gv,0,none⟩) all.length cv) all,
  pV (ah ag 0)]
  (fun w9=>w9.heap[w.heap.size]?=some (au (b.cells (ae pm lm cm) (ae pn ln cn) (ae pk lk ck)) 28 (0,0))∧az w.heap.size w w9) [(2,pv w.heap.size 0),(1,ae qi pl.length qw)] (by kernel_rfl) ?rst (fun w1 w2 h hb=>⟨(hb.block _ (ak.1 h.1).1).trans h.1,h.2.trans (hb.mono h.2.size)⟩) (⟨hk,b1.drew⟩) ⟨rfl,rfl,trivial⟩ ?reach ?rfin
 case rst=>
  refine⟨sV,sV,?_,?_,?_,?_,sV,?_,?_,sV,trivial⟩
  ·rintro v ds w1 w2 hS ⟨cp,h1,h2⟩ hb;exact⟨cp,h1,(hb.block _ (ak.1 h2).1).trans h2⟩
  ·rintro v ds w1 w2 hS ⟨gv,cv,h1,h2⟩ hb;exact⟨gv,cv,h1,h2.at_ fun g hg=>hb.block g (h2.1.lt g hg).2⟩
  ·rintro v ds w1 w2 hS ⟨gv,cv,h1,h2⟩ hb;exact⟨gv,cv,h1,h2.at_ fun g hg=>hb.block g (h2.1.lt g hg).2⟩
  ·rintro v ds w1 w2 hS ⟨gv,cv,h1,h2⟩ hb;exact⟨gv,cv,h1,h2.at_ fun g hg=>hb.block g (h2.1.lt g hg).2⟩
  ·rintro v ds w1 w2 hS ⟨k,z,h1,h2,h3,h4⟩ hb;exact⟨k,z,h1,h2,(hb.block _ (ak.1 h3).1).trans h3,h4⟩
  ·rintro v ds w1 w2 hS ⟨k,gv,cv,h1,h0,h3,h2⟩ hb;exact⟨k,gv,cv,h1,h0,(hb.block _ (ak.1 h3).1).trans h3,h2.at_ fun g hg=>hb.block g (h2.1.lt g hg).2⟩
 case reach=>
  refine⟨?_,?_,?_,?_,?_,?_,?_,?_,?_,?_,trivial⟩<;>rintro ev w1 hS hc hg hf ⟨b2,b1,-⟩ hd
  ·clear hd;obtain⟨x0,x1,x2,x3,x4,x5,x6,x7,x8,x9,nX,nW,oU,oh,oP⟩:=bN hS.1;exact tV
  ·clear hd;exact tV
  ·have d1:ev (aJ 19)=_:=hd.1 rfl;clear hd;refine Lag.Yields.call (f:=104) (args:=#[ae qi pl.length qw]) ?_ (Jn _ _ _ _) ?_
   ·go_simp
   ·rintro e w2 ⟨rfl,rfl⟩;exact⟨_,rfl,⟨_,rfl,ay _ _⟩,cF ((aw _ _).alloc (ax _) _)⟩
  ·have d0:ev (aJ 18)=_:=hd.1 rfl;obtain⟨cp,Fs,ym⟩:=hd.2.1 rfl;clear hd;replace Fs:ev (aJ 20)=_:=Fs;refine Lag.Yields.call (f:=103) (args:=#[aO (b.cells (ae pm lm cm) (ae pn ln cn) (ae pk lk ck)),.func (.func 164) #[] #[pv cp 0]]) ?_ (UF.out w1 cp hS.2 ym) ?_
   ·go_simp
   ·rintro e w2 ⟨v,rfl,iY,hb⟩
    obtain⟨gv,cv,rfl⟩:∃gv cv,v=ae (some ⟨gv,0,none⟩) all.length cv:=by
     rcases iY.1.2 with⟨_,h0⟩|⟨g,cap,cur,rfl,_⟩
     ·omega
     ·exact⟨g,cap,rfl⟩
    exact⟨_,rfl,⟨gv,cv,rfl,iY.base hS.2.size⟩,cF hb⟩
  ·exact yv rfl (hd.1 rfl)
  ·obtain⟨gv,cv,e11,iY⟩:=hd.1 rfl;clear hd;replace e11:ev (aJ 17)=_:=e11;refine yv ?_ (⟨gv,cv,rfl,iY⟩);go_simp
  ·obtain⟨gv,cv,e11,iY⟩:=hd.1 rfl;clear hd;replace e11:ev (aJ 17)=_:=e11;exact tV
  ·clear hd;refine Lag.Yields.value (v:=pv w1.heap.size 0) (w':=w1.alloc (au gW 122)) ?_ ⟨⟨_,_,rfl,(ak.1 hS.1).1,ay _ _,rfl⟩,cF ((aw _ _).alloc (ax _) _)⟩;go_simp
  ·obtain⟨k,z,e6,qq,hk2,hz⟩:=hd.1 rfl;replace e6:ev (aJ 7)=_:=e6;obtain⟨gv,cv,Nw,iY⟩:=hd.2.1 rfl;clear hd;replace Nw:ev (aJ 22)=_:=Nw;have CY:∀g cs t,w1.heap[g]?=some (au cs t (0,0))→t≠122→g≠k:=by rintro g cs t h1 h2 rfl;rw[hk2] at h1;cases h1;exact h2 rfl
   have Eo:∀(v:aj),gP w1 w.heap.size v all→gP (w1.setRow k (b.open (ae pm lm cm) (ae pn ln cn) (ae pk lk ck) (ae (some ⟨gv,0,none⟩) all.length cv))) w.heap.size v all:=fun v ho=>ho.at_ fun g hg=>setRow_other (by
    obtain⟨cur,q1,_⟩:=ho.2 g hg
    exact CY g _ _ q1 (by decide))
   refine Lag.Yields.nI 122 _ _ rfl k _ e6 Nw 122 z hk2 (by kernel_rfl) hz (by simp[cu]) ⟨⟨k,gv,cv,congrArg some e6,qq,cV hk2,Eo _ iY⟩,.inr ⟨⟨(setRow_other (by omega)).trans hS.1,dA hS.2 (by omega)⟩,?_⟩⟩;intro j u ds hj hp
   match j,hp with
   |0,hp=>exact hp
   |1,hp=>exact hp
   |2,⟨cp,h1,h2⟩=>exact⟨cp,h1,(setRow_other (CY _ _ _ h2 (by decide))).trans h2⟩
   |3,⟨Ex,EH,h1,h2⟩=>exact⟨Ex,EH,h1,Eo _ h2⟩
   |4,⟨Ex,EH,h1,h2⟩=>exact⟨Ex,EH,h1,Eo _ h2⟩
   |5,⟨Ex,EH,h1,h2⟩=>exact⟨Ex,EH,h1,Eo _ h2⟩
   |6,hp=>exact hp
   |7,⟨k',z',h1,h2,h3,h4⟩=>
    by_cases sS:k'=k
    ·subst sS;exact⟨k',_,h1,h2,cV h3,rfl⟩
    ·exact⟨k',z',h1,h2,(setRow_other sS).trans h3,h4⟩
   |8,_=>exact(hj rfl).elim
   |9,hp=>exact hp
   |j+10,_=>trivial
  ·have d6:ev (aJ 23)=_:=hd.1 rfl;clear hd;refine yv (v:=ev (aJ 23)) ?_ (d6);rfl
 case rfin=>
  intro a2 w2 hR;have hS:=hR.s;obtain⟨k,gv,cv,T4,qq,hk2,iY⟩:=hR.val 8 (by decide);have e9:a2.tmps.getD 6 af=_:=hR.val 9 (by decide);have ha:=hR.lits 116 rfl;simp only[aT,bT,nA] at ha;rw[hR.kp 1 (by kernel_rfl),hR.kp 2 (by kernel_rfl),hR.kp 4 (by kernel_rfl),hR.kp 5 (by kernel_rfl)] at ha;simp only[ko,fT,fS] at ha;clear hR;have e6:a2.tmps.getD 7 af=pv k 0:=bg T4;rw[e6,e9] at ha;generalize a2.tmps.getD=zz at ha;clear e6 T4 e9;subst ha;have sA:=hS.1;have rD:=hS.2;clear hS;obtain⟨x0,x1,x2,x3,x4,x5,x6,x7,x8,x9,nX,nW,oU,oh,oP⟩:=bN sA;have fx:=cM sA 12;have vO:=iY.reads (by omega)
  have HC:Hid (∀j u,(rowOf all)[j]?=some u→w2.cell? ⟨gv,0+j,none⟩=some u):=ai (by
   rcases vO with⟨h0,_⟩|⟨g,off,cap,h0,_,_,h1⟩
   ·cases h0
   ·cases h0;exact h1)
  have BR:=(iY.1.lt gv rfl).2;have xI:=(ak.1 hk2).1;have hbl:=(ak.1 sA).1;have HK:=ai hk2;have HBo:=ai sA;have Ff:=ai rD;clear hk2 vO sA rD iY hk b1 UF x0 x1 x2 x3 x4 x5 x6 x7 x8 x9 nX nW oh oP;generalize hL:all.length=L at *;have HL:=ai hL;clear hL;obtain⟨N,ZR⟩:∃N,N=2 ^ lm:=⟨_,rfl⟩
  have hN8:N≤8:=by
   have:lm=0∨lm=1∨lm=2∨lm=3:=by omega
   rcases this with h|h|h|h<;>subst h<;>omega
  have hN:wrap64 (2 ^ lm)=(N:Int):=by
   have:lm=0∨lm=1∨lm=2∨lm=3:=by omega
   rcases this with h|h|h|h<;>subst h<;>subst ZR<;>simp[wrap64]
  have HN0:=ai ZR;clear ZR;have HBe:Hid (az w2.heap.size w2 w2):=ai (aw _ _);go_wp2;rw[hN];clear hN
  go_loopw [4,5,8,9,10,11,13,14,16,31] (fun v4 f _ _ _ _ _ _ _ i wr=>∃(M:Nat) (p4:Option Addr) (c4:Nat),M≤N∧i=ah ag M∧f=aF (eA b all (bE pl) lm M).2∧v4=ae p4 (eA b all (bE pl) lm M).1.length c4∧Reads wr (ae p4 (eA b all (bE pl) lm M).1.length c4) (eA b all (bE pl) lm M).1.length ((eA b all (bE pl) lm M).1.map (aG ag))∧az w2.heap.size w2 wr) (fun _ _ _ _ _ _ _ _ _ i _=>N-(intOf i).toNat)
  case atStart=>exact⟨0,none,0,jS _,by simp,by simp[eA],by simp[eA],cF ⟨rfl,by simp[eA],by simp[eA]⟩,aw _ _⟩
  case round=>
   obtain⟨M,p4,c4,hM,rfl,rfl,rfl,hr4,dX⟩:=hrel;rename ar=>wo;have hsz:=dX.size
   by_cases hlt:M<N
   ·have hst:eA b all (bE pl) lm (M+1)=if qx (iC b all (bE pl) lm M) (eA b all (bE pl) lm M).2 (cZ lm M) (eA b all (bE pl) lm M).1 then(cZ lm M,true) else eA b all (bE pl) lm M:=rfl
    generalize eA b all (bE pl) lm M=st at *;obtain⟨lc,f⟩:=st;simp only[] at hst hr4;have UB:=ai hst;have HR4:=ai hr4;have wZ:=ai dX
    have F9:Hid (∀w9,az wo.heap.size wo w9→w9.heap[k]?=some (au (b.open (ae pm lm cm) (ae pn ln cn) (ae pk lk ck) (ae (some ⟨gv,0,none⟩) L cv)) 122 (0,0))∧w9.heap[w.heap.size]?=some (au (b.cells (ae pm lm cm) (ae pn ln cn) (ae pk lk ck)) 28 (0,0))∧(∀i u,(rowOf all)[i]?=some u→w9.cell? ⟨gv,0+i,none⟩=some u)):=ai fun w9 Nn=>by
     have h:=dX.trans (Nn.mono hsz);exact⟨(h.block _ xI).trans HK.out,(h.block _ hbl).trans HBo.out,fun i u hi=>(h.cell (p:=⟨gv,0+i,none⟩) BR).trans (HC.out i u hi)⟩
    obtain⟨q1,q2,-⟩:=F9.out wo (aw _ _);obtain⟨y0,y1,y2,y3,y4,y5,y6,y7,y8,y9,Mp,Oc,Ob,Oa,JJ,Hq⟩:=js q1;have g2:(wo.alloc (au #[ah ag b.room,ah ag b.depth,ah ag b.least,ah ag b.minutes,ah ag b.bM,ah ag b.fD,ah ag b.dc,ah ag b.fC,ah ag b.ll,ah ag b.lm,ah ag b.pl,ah ag b.pm,ae pm lm cm,ae pn ln cn,ae pk lk ck,ae none 0 0] 122)).heap[w.heap.size]?=some (au (b.cells (ae pm lm cm) (ae pn ln cn) (ae pk lk ck)) 28 (0,0)):=(aS _ _ _ (ak.1 q2).1).trans q2;have z12:=aH g2 12 (ae pm lm cm) rfl;have agX:=cM g2 12;clear hst hr4 dX q1 q2 g2 oU fx;have hb2:az wo.heap.size wo (wo.alloc (au #[ah ag b.room,ah ag b.depth,ah ag b.least,ah ag b.minutes,ah ag b.bM,ah ag b.fD,ah ag b.dc,ah ag b.fC,ah ag b.ll,ah ag b.lm,ah ag b.pl,ah ag b.pm,ae pm lm cm,ae pn ln cn,ae pk lk ck,ae none 0 0] 122)):=(aw _ _).alloc (ax _) _;have ho2:=ay wo (au #[ah ag b.room,ah ag b.depth,ah ag b.least,ah ag b.minutes,ah ag b.bM,ah ag b.fD,ah ag b.dc,ah ag b.fC,ah ag b.ll,ah ag b.lm,ah ag b.pl,ah ag b.pm,ae pm lm cm,ae pn ln cn,ae pk lk ck,ae none 0 0] 122);have o7:=ai hb2;have HO2:=ai ho2;have acu:(wo.alloc (au #[ah ag b.room,ah ag b.depth,ah ag b.least,ah ag b.minutes,ah ag b.bM,ah ag b.fD,ah ag b.dc,ah ag b.fC,ah ag b.ll,ah ag b.lm,ah ag b.pl,ah ag b.pm,ae pm lm cm,ae pn ln cn,ae pk lk ck,ae none 0 0] 122)).heap.size=wo.heap.size+1:=by simp
    clear hb2 ho2;go_wp2
    go_loopw [9,11,40] (fun v9 _ i wr=>∃j:Nat,j≤lm∧i=ah ag j∧wr.ownsRow (wo.heap.size+1) 3 1 v9 (bS j M).length ((bS j M).map fun(i:Nat)=>aG ag (i:Int))∧az (wo.heap.size+1) (wo.alloc (au #[ah ag b.room,ah ag b.depth,ah ag b.least,ah ag b.minutes,ah ag b.bM,ah ag b.fD,ah ag b.dc,ah ag b.fC,ah ag b.ll,ah ag b.lm,ah ag b.pl,ah ag b.pm,ae pm lm cm,ae pn ln cn,ae pk lk ck,ae none 0 0] 122)) wr) (fun _ _ i _=>lm-(intOf i).toNat)
    case atStart=>exact⟨0,jS _,by simp,dL _ _ _ _,aw _ _⟩
    case round=>
     obtain⟨j,hj,rfl,hown,yl⟩:=hrel;have Y8:=yl.size;rw[acu] at Y8;have hcl:=iw j M;have hM5:M<512:=Nat.lt_of_lt_of_le hlt (Nat.le_trans hN8 (by decide))
     by_cases Wl:j<lm
     ·cases hb:M.testBit j
      ·have e1:bS (j+1) M=bS j M:=by rw[mN,hb];simp
       have QG:=vW M j hM5;rw[hb] at QG;have H1:=ai e1;clear e1;go_wp2;go_roundw
       case rel=>exact⟨j+1,by omega,by simp,by rw[H1.out];exact hown,yl⟩
       case measure=>simp[intOf];omega
      ·have e1:bS (j+1) M=bS j M++[j]:=by rw[mN,hb];simp
       have QG:=vW M j hM5;rw[hb] at QG;have H1:=ai e1
       have Xp:Hid (∀(i:Nat) (u:aj),([ah ag (j:Int)]:List aj)[i]?=some u→(wr.alloc (au #[ah ag (j:Int)] 3)).cell? ((⟨wr.heap.size,0,none⟩:Addr).add i)=some u):=ai fun i u hj=>by
        match i,hj with
        |0,hj=>simp at hj;subst hj;simp[kC]
       clear e1
       go_wp2_with (at_builtin;refine wpList_append_own _ rfl _ _ 25 rfl (wo.heap.size+1) 3 i0 (ah ag 0) 1 8 Tryz.underlying25 hi hz0 hz1 hz2 rfl (by decide) u9 _ _ rfl (hown.alloc _) ⟨wr.heap.size,0,none⟩ 1 1 [ah ag (j:Int)] rfl rfl Xp.out (by simp[cu]) (by unfold maxLen;omega) (by omega) (by simp;omega) ?_;intro v' w3 KI hgrow hnil)
       go_roundw
       case rel=>exact⟨j+1,by omega,by simp,by rw[H1.out,List.length_append,fG];exact KI,sO (by omega) hown yl hgrow⟩
       case measure=>simp[intOf];omega
     ·obtain rfl:lm=j:=by omega
      rename ar=>wc;obtain⟨p9,c9,rfl⟩:=dF hown;have X4:az wo.heap.size wo wc:=o7.out.trans (yl.mono (by simp));have hoc:wc.heap[wo.heap.size]?=some (au #[ah ag b.room,ah ag b.depth,ah ag b.least,ah ag b.minutes,ah ag b.bM,ah ag b.fD,ah ag b.dc,ah ag b.fC,ah ag b.ll,ah ag b.lm,ah ag b.pl,ah ag b.pm,ae pm lm cm,ae pn ln cn,ae pk lk ck,ae none 0 0] 122 (0,0)):=(yl.block _ (by simp)).trans HO2.out;have akf:=aH (F9.out wc X4).1 15 (ae (some ⟨gv,0,none⟩) L cv) rfl;have al8:=cM (F9.out wc X4).1 15;have ahG:=ai hown;have HBc:=ai X4;have HOc:=ai hoc;have hcs:wo.heap.size+1≤wc.heap.size:=Y8;have hCb:∀i∈bS lm M,i<lm:=fun i hi=>by simp[bS] at hi;exact hi.1
      have QL:=iw lm M;unfold iC cZ at UB;clear hown yl X4 hoc y0 y1 y2 y3 y4 y5 y6 y7 y8 y9 Mp Oc Ob Oa JJ Hq z12 agX Y8;go_wp2;generalize bS lm M=C at *
      go_loopw [13,14,16,56] (fun _ _ _ i wr=>∃(j:Nat) (Rw:Option Addr) (c15:Nat),j≤L∧i=ah ag j∧wr.heap[wo.heap.size]?=some (au #[ah ag b.room,ah ag b.depth,ah ag b.least,ah ag b.minutes,ah ag b.bM,ah ag b.fD,ah ag b.dc,ah ag b.fC,ah ag b.ll,ah ag b.lm,ah ag b.pl,ah ag b.pm,ae pm lm cm,ae pn ln cn,ae pk lk ck,ae Rw j c15] 122 (0,0))∧wr.ownsRow (wo.heap.size+1) 134 4 (ae Rw j c15) j (rowOf ((all.take j).map fun a=>a.only C))∧wr.ownsRow (wo.heap.size+1) 3 1 (ae p9 C.length c9) C.length (C.map fun(i:Nat)=>aG ag (i:Int))∧az wo.heap.size wo wr) (fun _ _ _ i _=>L-(intOf i).toNat)
      case atStart=>exact⟨0,none,0,jS _,by simp,HOc.out,dL _ _ _ _,ahG.out,HBc.out⟩
      case round=>
       obtain⟨j,Rw,c15,hj,rfl,U0,KF,OX,yl⟩:=hrel;have Y8:=yl.size
       by_cases Wl:j<L
       ·rename ar=>wj;have I4:j<all.length:=by rw[HL.out];exact Wl
        obtain⟨c0,c1,c2,c3⟩:=Reads.cell (w:=wj) (cap:=cv) (n:=L) (F9.out wj yl).2.2 j I4;simp only[cJ] at c0 c1 c2 c3;have hao:=Rv.out _ (bO I4);have tq:(all.take (j+1)).map (fun a=>a.only C)=(all.take j).map (fun a=>a.only C)++[all[j].only C]:=by rw[bZ I4,fG];rfl
        have HTk:=ai tq;have Ru:=ai yl;have HOj:=ai U0;have HOA:=ai KF;have HOC:=ai OX;have HAk:=ai hao;clear tq yl U0 KF OX hao;generalize all[j]=a at *;go_wp2;have hWs:((wj.alloc (au a.cells 134)).alloc (au (⟨a.leak,0,0,0⟩:dT).cells 134)).heap.size=wj.heap.size+2:=by simp
        have hAw:((wj.alloc (au a.cells 134)).alloc (au (⟨a.leak,0,0,0⟩:dT).cells 134)).heap[wj.heap.size]?=some (au a.cells 134 (0,0)):=(aS _ _ _ (by simp)).trans (ay wj _)
        have hKw:((wj.alloc (au a.cells 134)).alloc (au (⟨a.leak,0,0,0⟩:dT).cells 134)).heap[wj.heap.size+1]?=some (au (⟨a.leak,0,0,0⟩:dT).cells 134 (0,0)):=by
         have:=ay (wj.alloc (au a.cells 134)) (au (⟨a.leak,0,0,0⟩:dT).cells 134);simpa using this
        have JE:az wj.heap.size wj ((wj.alloc (au a.cells 134)).alloc (au (⟨a.leak,0,0,0⟩:dT).cells 134)):=((aw _ _).alloc (ax _) _).alloc (by simp) _;have HAw:=ai hAw;have HKw:=ai hKw;have HbW:=ai JE;clear hAw hKw JE c0 c1 c2 c3
        go_loopw [16,65] (fun _ i wr=>∃t:Nat,t≤C.length∧i=ah ag t∧wr.heap[wj.heap.size+1]?=some (au ((C.take t).foldl (fun k i=>k.put i (a.get i)) (⟨a.leak,0,0,0⟩:dT)).cells 134 (0,0))∧az (wj.heap.size+1) ((wj.alloc (au a.cells 134)).alloc (au (⟨a.leak,0,0,0⟩:dT).cells 134)) wr) (fun _ i _=>C.length-(intOf i).toNat)
        case atStart=>exact⟨0,jS _,by simp,HKw.out,aw _ _⟩
        case round=>
         obtain⟨t,ht,rfl,OY,htx⟩:=hrel;have hts:=htx.size;rw[hWs] at hts;have QG:az wj.heap.size wj wr:=HbW.out.trans (htx.mono (by simp));have hAt:=(htx.block wj.heap.size (by simp)).trans HAw.out;have ZV:=cX HOC.out QG;have HTx:=ai htx;have HBt:=ai QG;have HKt:=ai OY
         by_cases M9:t<C.length
         ·obtain⟨g9,rfl⟩:∃g9,p9=some ⟨g9,0,none⟩:=by
           rcases ZV.2 with⟨h1,h2⟩|⟨g,cap,cur,h1,_⟩
           ·exfalso;simp at h1;omega
           ·exact⟨g,by simp at h1;exact h1.1⟩
          have hci:=ZV.cells (g:=g9) rfl t (ah ag (C[t]:Nat)) (by simp[dg M9]);have e9:(⟨g9,0,none⟩:Addr).add t=⟨g9,t,none⟩:=by cases t<;>simp[kC]
          rw[e9] at hci;have hi3:C[t]<3:=by have:=hCb _ (bO M9);omega
          have hfo:(C.take (t+1)).foldl (fun k i=>k.put i (a.get i)) (⟨a.leak,0,0,0⟩:dT)=((C.take t).foldl (fun k i=>k.put i (a.get i)) (⟨a.leak,0,0,0⟩:dT)).put C[t] (a.get C[t]):=by rw[bZ M9,List.foldl_append];rfl
          have HFo:=ai hfo;generalize (C.take t).foldl (fun k i=>k.put i (a.get i)) (⟨a.leak,0,0,0⟩:dT)=kk at *;generalize C[t]=i at *
          have hx1:wr.cell? ⟨wj.heap.size,1+i,none⟩=some (ah ag (a.get i)):=by
           match i,hi3 with
           |0,_=>exact aH hAt 1 _ rfl
           |1,_=>exact aH hAt 2 _ rfl
           |2,_=>exact aH hAt 3 _ rfl
          have hx2:wr.cell? ⟨wj.heap.size+1,1+i,none⟩=some (ah ag (kk.get i)):=by
           match i,hi3 with
           |0,_=>exact aH OY 1 _ rfl
           |1,_=>exact aH OY 2 _ rfl
           |2,_=>exact aH OY 3 _ rfl
          have hx3:=cM OY (1+i);have hst:=Pj i hi3 (a.get i) OY;have HSe:=ai hst;clear hst hfo htx QG hAt ZV OY e9;go_wp2;go_roundw
          case rel=>exact⟨t+1,by omega,by simp,by rw[HFo.out];exact HSe.out,HTx.out.setCell (p:=⟨wj.heap.size+1,1+i,none⟩) (ax _) _⟩
          case measure=>simp[intOf];omega
         ·obtain rfl:C.length=t:=by omega
          have sS:(C.take C.length).foldl (fun k i=>k.put i (a.get i)) (⟨a.leak,0,0,0⟩:dT)=a.only C:=by rw[List.take_length];rfl
          rw[sS] at OY;have HKt:=ai OY;generalize a.only C=kk at *;have k0:=aH OY 0 (ah ag kk.leak) rfl;have k1:=aH OY 1 (ah ag kk.m0) rfl;have k2:=aH OY 2 (ah ag kk.m1) rfl;have k3:=aH OY 3 (ah ag kk.m2) rfl;have hot:wr.heap[wo.heap.size]?=some (au #[ah ag b.room,ah ag b.depth,ah ag b.least,ah ag b.minutes,ah ag b.bM,ah ag b.fD,ah ag b.dc,ah ag b.fC,ah ag b.ll,ah ag b.lm,ah ag b.pl,ah ag b.pm,ae pm lm cm,ae pn ln cn,ae pk lk ck,ae Rw j c15] 122 (0,0)):=(QG.block _ (ak.1 HOj.out).1).trans HOj.out;have hAA:=cX HOA.out QG;have hol:=(ak.1 hot).1;have Hq:=aH hot 15 (ae Rw j c15) rfl
          have Xp:Hid (∀(i:Nat) (u:aj),kk.cells.toList[i]?=some u→(wr.alloc (au kk.cells 134)).cell? ((⟨wr.heap.size,0,none⟩:Addr).add i)=some u):=ai fun i u hj=>by
           have:=ay wr (au kk.cells 134);have h5:=aH this i u (by simpa using hj);have e:(⟨wr.heap.size,0,none⟩:Addr).add i=⟨wr.heap.size,i,none⟩:=by cases i<;>simp[kC]
           rw[e];exact h5
          have Ma:=ai ZV;have HAA:=ai hAA;have HOt:=ai hot;have hbo:wo.heap.size+1≤wr.heap.size:=by omega
          clear OY htx QG hAt ZV sS hot
          go_wp2_with (first
           |(at_builtin;refine wpList_append_own _ rfl _ _ 120 rfl (wo.heap.size+1) 134 i1 (aO #[ah ag 0,ah ag 0,ah ag 0,ah ag 0]) 4 32 Tryz.underlying120 FN OT hy1 hy2 rfl (by decide) (ae Rw j c15) j (rowOf ((all.take j).map fun a=>a.only C)) rfl (hAA.alloc (au kk.cells 134)) ⟨wr.heap.size,0,none⟩ 1 1 kk.cells.toList rfl rfl Xp.out (by simp[cu]) (by unfold maxLen;omega) (by omega) (by first|omega|(simp;omega)) ?_;intro v' w5 Tm hgrow hnil
             obtain⟨p16,c16,rfl⟩:=dF Tm;have ho5:w5.heap[wo.heap.size]?=some (au #[ah ag b.room,ah ag b.depth,ah ag b.least,ah ag b.minutes,ah ag b.bM,ah ag b.fD,ah ag b.dc,ah ag b.fC,ah ag b.ll,ah ag b.lm,ah ag b.pl,ah ag b.pm,ae pm lm cm,ae pn ln cn,ae pk lk ck,ae Rw j c15] 122 (0,0)):=(hgrow.block _ (by simp;omega) (mJ hAA HOt.out (by decide))).trans ((aS _ _ _ hol).trans HOt.out);have hC5:=fY (W':=w5) (Ma.out.alloc (au kk.cells 134)) fun g hg=>hgrow.block g ((Ma.out.alloc (au kk.cells 134)).lt g hg).2 (yM Ma.out hAA (by decide) hg);have HO5:=ai ho5;have HC5:=ai hC5;have HW5:=ai Tm;have HG5:=ai hgrow;have f15:=cM ho5 15;have z15:=aH ho5 15 (ae Rw j c15) rfl
             clear ho5 hC5 Tm hgrow hnil))
          go_roundw
          case rel=>
           refine⟨j+1,p16,c16,by omega,by simp,cP _ HO5.out,?_,di HC5.out HO5.out (by decide),(((Ru.out.trans (HBt.out.mono Y8)).alloc (by omega) _).grown HG5.out (by simp;omega) (fun g hg=>by have:=(HAA.out.lt g hg).1;omega)).setCell (p:=⟨wo.heap.size,15,none⟩) (ax _) _⟩;rw[HTk.out,DC];exact di HW5.out HO5.out (by decide)
          case measure=>simp[intOf];omega
       ·obtain rfl:L=j:=by omega
        rename ar=>wd;have tq:all.take L=all:=List.take_of_length_le (by rw[HL.out];exact ax _);rw[tq] at KF;have hall:(all.map fun a=>a.only C).length=L:=by rw[dz];exact HL.out
        have hrA:Reads wd (ae Rw L c15) (all.map fun a=>a.only C).length (rowOf (all.map fun a=>a.only C)):=by
         rw[hall];exact Reads.iW KF (by omega) (by rw[PX,hall];omega)
        have hrC:Reads wd (ae p9 C.length c9) (C.map fun(i:Nat)=>(i:Int)).length ((C.map fun(i:Nat)=>(i:Int)).map (aG ag)):=by
         have h1:=Reads.iW OX (by omega) (by simp);rw[dz,List.map_map];exact h1
        have hSu:=fun W (hb:az wd.heap.size wd W)=>xj b cN (ae pm lm cm) (ae pn ln cn) (ae pk lk ck) (ae Rw L c15) (all.map fun a=>a.only C) (fun a ha=>by
         obtain⟨x,hx,rfl⟩:=List.mem_map.1 ha
         exact dT.VD (Rv.out x hx) C) (bE pl) Qy W (hrA.below hb)
        have XJ:Reads wd (ae p4 lc.length c4) lc.length (lc.map (aG ag)):=HR4.out.below yl;have hpl:Reads wd (ae qi pl.length qw) pl.length (pl.map (aG ag)):=JG.out.below (Ff.out.trans ((wZ.out.mono Ff.out.size).trans (yl.mono (by have:=Ff.out.size;omega))));have hcm:=fun W (hb:az wd.heap.size wd W)=>rb (C.map fun(i:Nat)=>(i:Int)) lc (ae p9 C.length c9) (ae p4 lc.length c4) W (hrC.below hb) (XJ.below hb);have Qx:=fun W (hb:az wd.heap.size wd W)=>kW pl Xo.out (ae qi pl.length qw) W (hpl.below hb);have HSu:=ai hSu;have HCm:=ai hcm;have HPo:=ai Qx;have HRC:=ai hrC;have HRL:=ai XJ;have HQd:=ai yl;have HOd:=ai U0;clear hSu hcm Qx hrC XJ hrA hpl yl U0 KF OX tq hall;unfold qx at UB;obtain⟨g12,WH⟩:∃r,decide ((C.length:Int)>lc.length)=r:=⟨_,rfl⟩
        obtain⟨g20,h20⟩:∃r,((C.length:Int)==(lc.length:Int))=r:=⟨_,rfl⟩
        obtain⟨Pg,h24⟩:∃r,decide (gG (C.map fun(i:Nat)=>(i:Int)) lc<0)=r:=⟨_,rfl⟩
        simp only[dz] at UB;rw[WH,h20,h24] at UB;generalize b.sure (all.map fun a=>a.only C) (bE pl)=bs at *;go_wp2
        refine Gd.bQ (by kernel_rfl) [
        pV (aO (b.open (ae pm lm cm) (ae pn ln cn) (ae pk lk ck) (ae Rw L c15))),
         pV (ae qi pl.length qw),
         pV (ah ag (bE pl)),
         pV (aF bs),
         pV (aF bs),
         fun v ds w9=>bs=true→v=aF f,
         fun v ds w9=>bs=true→v=aF (!f),
         pV ((if bs=true then l5 (!f) else af)),
         fun v ds w9=>(bs && !(!f))=true→v=ae p9 C.length c9,
         fun v ds w9=>(bs && !(!f))=true→v=ah ag C.length,
         fun v ds w9=>(bs && !(!f))=true→v=ae p4 lc.length c4,
         fun v ds w9=>(bs && !(!f))=true→v=ah ag lc.length,
         fun v ds w9=>(bs && !(!f))=true→v=aF g12,
         fun v ds w9=>bs=true→v=aF (!f||g12),
         pV ((if bs=true then l5 (!f||g12) else af)),
         fun v ds w9=>(bs && !(!f||g12))=true→v=ae p9 C.length c9,
         fun v ds w9=>(bs && !(!f||g12))=true→v=ah ag C.length,
         fun v ds w9=>(bs && !(!f||g12))=true→v=ae p4 lc.length c4,
         fun v ds w9=>(bs && !(!f||g12))=true→v=ah ag lc.length,
         fun v ds w9=>(bs && !(!f||g12))=true→v=aF g20,
         pV ((if (bs && !(!f||g12))=true then l5 g20 else af)),
         fun v ds w9=>((bs && !(!f||g12))&&g20)=true→v=ae p9 C.length c9,
         fun v ds w9=>((bs && !(!f||g12))&&g20)=true→v=ae p4 lc.length c4,
         fun v ds w9=>((bs && !(!f||g12))&&g20)=true→v=ah ag (gG (C.map fun(i:Nat)=>(i:Int)) lc),
         fun v ds w9=>((bs && !(!f||g12))&&g20)=true→v=aF Pg,
         fun v ds w9=>(bs && !(!f||g12))=true→v=aF (g20&&Pg),
         fun v ds w9=>bs=true→v=aF ((!f||g12)||(g20&&Pg)),
         pV (aF (bs&&((!f||g12)||(g20&&Pg))))]
         (fun w9=>az wd.heap.size wd w9) [(1,ae qi pl.length qw),(4,ae p4 lc.length c4),(5,aF f),(9,ae p9 C.length c9),(10,pv wo.heap.size 0)] (by kernel_rfl) ?rst (fun w1 w2 h hb=>h.trans (hb.mono h.size)) ((aw _ _).drew) ⟨rfl,rfl,rfl,rfl,rfl,trivial⟩ ?reach ?rfin
        case rst=>
         refine⟨sV,sV,sV,sV,sV,fun _ _ _ _ _ h _=>h,fun _ _ _ _ _ h _=>h,sV,fun _ _ _ _ _ h _=>h,fun _ _ _ _ _ h _=>h,fun _ _ _ _ _ h _=>h,fun _ _ _ _ _ h _=>h,fun _ _ _ _ _ h _=>h,fun _ _ _ _ _ h _=>h,sV,fun _ _ _ _ _ h _=>h,fun _ _ _ _ _ h _=>h,fun _ _ _ _ _ h _=>h,fun _ _ _ _ _ h _=>h,fun _ _ _ _ _ h _=>h,sV,fun _ _ _ _ _ h _=>h,fun _ _ _ _ _ h _=>h,fun _ _ _ _ _ h _=>h,fun _ _ _ _ _ h _=>h,fun _ _ _ _ _ h _=>h,fun _ _ _ _ _ h _=>h,sV,trivial⟩
        case reach=>
         refine⟨?_,?_,?_,?_,?_,?_,?_,?_,?_,?_,?_,?_,?_,?_,?_,?_,?_,?_,?_,?_,?_,?_,?_,?_,?_,?_,?_,?_,trivial⟩<;>rintro ev w1 hS hc hg hf ⟨b1,b4,b5,b9,Xc,-⟩ hd
         ·clear hd;have q:=(Below.block hS _ (ak.1 HOd.out).1).trans HOd.out;exact Ku 122 rfl Xc q Tryz.underlying122 rfl (by kernel_rfl) (rfl)
         ·clear hd;exact tV
         ·have d1:ev (aJ 85)=_:=hd.1 rfl;clear hd;refine yq (args:=#[ae qi pl.length qw]) (HPo.out _ hS) ?_ fun _=>rfl;go_simp
         ·have d0:ev (aJ 84)=_:=hd.1 rfl;have d2:ev (aJ 86)=_:=hd.2.1 rfl;clear hd;refine yc (args:=#[aO (b.open (ae pm lm cm) (ae pn ln cn) (ae pk lk ck) (ae Rw L c15)),ah ag (bE pl)]) (HSu.out _ hS) ?_ fun _=>rfl;go_simp
         ·have d3:ev (aJ 87)=_:=hd.1 rfl;clear hd;exact tV
         ·have d4:ev (aJ 88)=_:=hd.1 rfl;clear hd;refine⟨fun hgd=>?_,fun hgd=>⟨?_,cF (aw _ _)⟩⟩
          ·have hA:=gA.1 (d4.symm.trans hgd);refine yv (v:=(aF f:aj)) ?_ (fun _=>rfl);go_simp
          ·intro hc;exact absurd (d4.trans (gA.2 hc)) hgd
         ·have d5:bs=true→(ev (aJ 89))=aF f:=hd.1 rfl;have d4:ev (aJ 88)=_:=hd.2.1 rfl;clear hd;refine⟨fun hgd=>?_,fun hgd=>⟨?_,cF (aw _ _)⟩⟩
          ·have hA:=gA.1 (d4.symm.trans hgd);have y5:=d5 hA;refine yv (v:=(aF (!f):aj)) ?_ (fun _=>rfl);go_simp
          ·intro hc;exact absurd (d4.trans (gA.2 hc)) hgd
         ·have d6:bs=true→(ev (aJ 90))=aF (!f):=hd.1 rfl;have d4:ev (aJ 88)=_:=hd.2.1 rfl;clear hd;refine⟨fun hgd=>?_,fun hgd=>⟨?_,cF (aw _ _)⟩⟩
          ·have hA:=gA.1 (d4.symm.trans hgd);have y6:=d6 hA;refine yv (v:=aF (!f)) ?_ ((if_pos hA).symm);go_simp
          ·exact(if_neg (fun hc=>absurd (d4.trans (gA.2 hc)) hgd)).symm
         ·have d7:ev (aJ 91)=_:=hd.1 rfl;clear hd;refine⟨fun hgd=>?_,fun hgd=>⟨?_,cF (aw _ _)⟩⟩
          ·have hA:=gB.1 (d7.symm.trans hgd);refine yv (v:=(ae p9 C.length c9:aj)) ?_ (fun _=>rfl);go_simp
          ·intro hc;exact absurd (d7.trans (gB.2 hc)) hgd
         ·have d8:(bs && !(!f))=true→(ev (aJ 92))=ae p9 C.length c9:=hd.1 rfl;have d7:ev (aJ 91)=_:=hd.2.1 rfl;clear hd;refine⟨fun hgd=>?_,fun hgd=>⟨?_,cF (aw _ _)⟩⟩
          ·have hA:=gB.1 (d7.symm.trans hgd);have y8:=d8 hA;refine yv (v:=(ah ag C.length:aj)) ?_ (fun _=>rfl);go_simp
          ·intro hc;exact absurd (d7.trans (gB.2 hc)) hgd
         ·have d7:ev (aJ 91)=_:=hd.1 rfl;clear hd;refine⟨fun hgd=>?_,fun hgd=>⟨?_,cF (aw _ _)⟩⟩
          ·have hA:=gB.1 (d7.symm.trans hgd);refine yv (v:=(ae p4 lc.length c4:aj)) ?_ (fun _=>rfl);go_simp
          ·intro hc;exact absurd (d7.trans (gB.2 hc)) hgd
         ·have d10:(bs && !(!f))=true→(ev (aJ 94))=ae p4 lc.length c4:=hd.1 rfl;have d7:ev (aJ 91)=_:=hd.2.1 rfl;clear hd;refine⟨fun hgd=>?_,fun hgd=>⟨?_,cF (aw _ _)⟩⟩
          ·have hA:=gB.1 (d7.symm.trans hgd);have Mp:=d10 hA;refine yv (v:=(ah ag lc.length:aj)) ?_ (fun _=>rfl);go_simp
          ·intro hc;exact absurd (d7.trans (gB.2 hc)) hgd
         ·have d9:(bs && !(!f))=true→(ev (aJ 93))=ah ag C.length:=hd.1 rfl;have d11:(bs && !(!f))=true→(ev (aJ 95))=ah ag lc.length:=hd.2.1 rfl;have d7:ev (aJ 91)=_:=hd.2.2.1 rfl;clear hd;refine⟨fun hgd=>?_,fun hgd=>⟨?_,cF (aw _ _)⟩⟩
          ·have hA:=gB.1 (d7.symm.trans hgd);have y9:=d9 hA;have Oc:=d11 hA;refine yv (v:=aF g12) ?_ (fun _=>rfl);rw[←WH];go_simp
          ·intro hc;exact absurd (d7.trans (gB.2 hc)) hgd
         ·have d7:ev (aJ 91)=_:=hd.1 rfl;have d12:(bs && !(!f))=true→(ev (aJ 96))=aF g12:=hd.2.1 rfl;have d4:ev (aJ 88)=_:=hd.2.2.1 rfl;clear hd;refine⟨fun hgd=>?_,fun hgd=>⟨?_,cF (aw _ _)⟩⟩
          ·have hA:=gA.1 (d4.symm.trans hgd);rcases Bool.eq_false_or_eq_true f with hf|hf
           ·have y7:ev (aJ 91)=aF false:=by rw[d7,if_pos hA,hf];rfl
            clear d7;have Ob:=d12 (by rw[hA,hf];rfl);refine yv (v:=aF g12) ?_ (fun _=>by rw[hf];simp);go_simp
           ·have y7:ev (aJ 91)=aF true:=by rw[d7,if_pos hA,hf];rfl
            clear d7;refine yv (v:=aF true) ?_ (fun _=>by rw[hf];simp);go_simp
          ·intro hc;exact absurd (d4.trans (gA.2 hc)) hgd
         ·have d13:bs=true→(ev (aJ 97))=aF (!f||g12):=hd.1 rfl;have d4:ev (aJ 88)=_:=hd.2.2.1 rfl;clear hd;refine⟨fun hgd=>?_,fun hgd=>⟨?_,cF (aw _ _)⟩⟩
          ·have hA:=gA.1 (d4.symm.trans hgd);have Oa:=d13 hA;refine yv (v:=aF (!f||g12)) ?_ ((if_pos hA).symm);go_simp
          ·exact(if_neg (fun hc=>absurd (d4.trans (gA.2 hc)) hgd)).symm
         ·have d14:ev (aJ 98)=_:=hd.1 rfl;clear hd;refine⟨fun hgd=>?_,fun hgd=>⟨?_,cF (aw _ _)⟩⟩
          ·have hA:=gB.1 (d14.symm.trans hgd);refine yv (v:=(ae p9 C.length c9:aj)) ?_ (fun _=>rfl);go_simp
          ·intro hc;exact absurd (d14.trans (gB.2 hc)) hgd
         ·have d15:(bs && !(!f||g12))=true→(ev (aJ 99))=ae p9 C.length c9:=hd.1 rfl;have d14:ev (aJ 98)=_:=hd.2.1 rfl;clear hd;refine⟨fun hgd=>?_,fun hgd=>⟨?_,cF (aw _ _)⟩⟩
          ·have hA:=gB.1 (d14.symm.trans hgd);have Hq:=d15 hA;refine yv (v:=(ah ag C.length:aj)) ?_ (fun _=>rfl);go_simp
          ·intro hc;exact absurd (d14.trans (gB.2 hc)) hgd
         ·have d14:ev (aJ 98)=_:=hd.1 rfl;clear hd;refine⟨fun hgd=>?_,fun hgd=>⟨?_,cF (aw _ _)⟩⟩
          ·have hA:=gB.1 (d14.symm.trans hgd);refine yv (v:=(ae p4 lc.length c4:aj)) ?_ (fun _=>rfl);go_simp
          ·intro hc;exact absurd (d14.trans (gB.2 hc)) hgd
         ·have d17:(bs && !(!f||g12))=true→(ev (aJ 101))=ae p4 lc.length c4:=hd.1 rfl;have d14:ev (aJ 98)=_:=hd.2.1 rfl;clear hd;refine⟨fun hgd=>?_,fun hgd=>⟨?_,cF (aw _ _)⟩⟩
          ·have hA:=gB.1 (d14.symm.trans hgd);have y17:=d17 hA;refine yv (v:=(ah ag lc.length:aj)) ?_ (fun _=>rfl);go_simp
          ·intro hc;exact absurd (d14.trans (gB.2 hc)) hgd
         ·have d16:(bs && !(!f||g12))=true→(ev (aJ 100))=ah ag C.length:=hd.1 rfl;have d18:(bs && !(!f||g12))=true→(ev (aJ 102))=ah ag lc.length:=hd.2.1 rfl;have d14:ev (aJ 98)=_:=hd.2.2.1 rfl;clear hd;refine⟨fun hgd=>?_,fun hgd=>⟨?_,cF (aw _ _)⟩⟩
          ·have hA:=gB.1 (d14.symm.trans hgd);have y16:=d16 hA;have y18:=d18 hA;refine yv (v:=aF g20) ?_ (fun _=>rfl);rw[←h20];go_simp
          ·intro hc;exact absurd (d14.trans (gB.2 hc)) hgd
         ·have d19:(bs && !(!f||g12))=true→(ev (aJ 103))=aF g20:=hd.1 rfl;have d14:ev (aJ 98)=_:=hd.2.1 rfl;clear hd;refine⟨fun hgd=>?_,fun hgd=>⟨?_,cF (aw _ _)⟩⟩
          ·have hA:=gB.1 (d14.symm.trans hgd);have y19:=d19 hA;refine yv (v:=aF g20) ?_ ((if_pos hA).symm);go_simp
          ·exact(if_neg (fun hc=>absurd (d14.trans (gB.2 hc)) hgd)).symm
         ·have d20:ev (aJ 104)=_:=hd.1 rfl;clear hd;refine⟨fun hgd=>?_,fun hgd=>⟨?_,cF (aw _ _)⟩⟩
          ·have hA:=X7.1 (d20.symm.trans hgd);refine yv (v:=(ae p9 C.length c9:aj)) ?_ (fun _=>rfl);go_simp
          ·intro hc;exact absurd (d20.trans (X7.2 hc)) hgd
         ·have d20:ev (aJ 104)=_:=hd.1 rfl;clear hd;refine⟨fun hgd=>?_,fun hgd=>⟨?_,cF (aw _ _)⟩⟩
          ·have hA:=X7.1 (d20.symm.trans hgd);refine yv (v:=(ae p4 lc.length c4:aj)) ?_ (fun _=>rfl);go_simp
          ·intro hc;exact absurd (d20.trans (X7.2 hc)) hgd
         ·have d21:((bs && !(!f||g12))&&g20)=true→(ev (aJ 105))=ae p9 C.length c9:=hd.1 rfl;have d22:((bs && !(!f||g12))&&g20)=true→(ev (aJ 106))=ae p4 lc.length c4:=hd.2.1 rfl;have d20:ev (aJ 104)=_:=hd.2.2.1 rfl;clear hd;refine⟨fun hgd=>?_,fun hgd=>⟨?_,cF (aw _ _)⟩⟩
          ·have hA:=X7.1 (d20.symm.trans hgd);have y21:=d21 hA;have y22:=d22 hA;refine Lag.Yields.call (f:=98) (args:=#[ae p9 C.length c9,ae p4 lc.length c4]) ?_ (HCm.out _ hS) ?_
           ·go_simp
           ·rintro e w2 ⟨rfl,rfl⟩;exact⟨_,rfl,fun _=>rfl,cF (aw _ _)⟩
          ·intro hc;exact absurd (d20.trans (X7.2 hc)) hgd
         ·have d23:((bs && !(!f||g12))&&g20)=true→(ev (aJ 107))=ah ag (gG (C.map fun(i:Nat)=>(i:Int)) lc):=hd.1 rfl;have d20:ev (aJ 104)=_:=hd.2.1 rfl;clear hd;refine⟨fun hgd=>?_,fun hgd=>⟨?_,cF (aw _ _)⟩⟩
          ·have hA:=X7.1 (d20.symm.trans hgd);have y23:=d23 hA;refine yv (v:=aF Pg) ?_ (fun _=>rfl);rw[←h24];go_simp
          ·intro hc;exact absurd (d20.trans (X7.2 hc)) hgd
         ·have d20:ev (aJ 104)=_:=hd.1 rfl;have d24:((bs && !(!f||g12))&&g20)=true→(ev (aJ 108))=aF Pg:=hd.2.1 rfl;have d14:ev (aJ 98)=_:=hd.2.2.1 rfl;clear hd;refine⟨fun hgd=>?_,fun hgd=>⟨?_,cF (aw _ _)⟩⟩
          ·have hA:=gB.1 (d14.symm.trans hgd);have y20:ev (aJ 104)=aF g20:=by rw[d20,if_pos hA]
           clear d20;rcases Bool.eq_false_or_eq_true g20 with hf|hf
           ·have y24:=d24 (by rw[hA,hf];rfl);rw[hf] at y20;refine yv (v:=aF Pg) ?_ (fun _=>by rw[hf];simp);go_simp
           ·rw[hf] at y20;refine yv (v:=aF false) ?_ (fun _=>by rw[hf];simp);go_simp
          ·intro hc;exact absurd (d14.trans (gB.2 hc)) hgd
         ·have d14:ev (aJ 98)=_:=hd.1 rfl;have d25:(bs && !(!f||g12))=true→(ev (aJ 109))=aF (g20&&Pg):=hd.2.1 rfl;have d4:ev (aJ 88)=_:=hd.2.2.1 rfl;clear hd;refine⟨fun hgd=>?_,fun hgd=>⟨?_,cF (aw _ _)⟩⟩
          ·have hA:=gA.1 (d4.symm.trans hgd);have JJ:ev (aJ 98)=aF (!f||g12):=by rw[d14,if_pos hA]
           clear d14;rcases Bool.eq_false_or_eq_true (!f||g12) with hf | hf
           ·rw[hf] at JJ;refine yv (v:=aF true) ?_ (fun _=>by rw[hf];simp);go_simp
           ·have y25:=d25 (by rw[hA,hf];rfl);rw[hf] at JJ;refine yv (v:=aF (g20&&Pg)) ?_ (fun _=>by rw[hf];simp);go_simp
          ·intro hc;exact absurd (d4.trans (gA.2 hc)) hgd
         ·have d4:ev (aJ 88)=_:=hd.1 rfl;have d26:bs=true→(ev (aJ 110))=aF ((!f||g12)||(g20&&Pg)):=hd.2.1 rfl;clear hd;rcases Bool.eq_false_or_eq_true bs with hf|hf
          ·have y26:=d26 hf;have y4:ev (aJ 88)=aF true:=d4.trans (gA.2 hf);refine yv (v:=aF ((!f||g12)||(g20&&Pg))) ?_ (by show _=l5 _;rw[hf];simp);go_simp
          ·have y4:ev (aJ 88)=aF false:=d4.trans (by rw[hf]);refine yv (v:=aF false) ?_ (by show _=l5 _;rw[hf];simp);go_simp
        case rfin=>
         intro a3 w3 hR;have hS:=hR.s;have e27:a3.tmps.getD 111 af=_:=hR.val 27 (by decide);have ha:=hR.lits 116 rfl;simp only[aT,bT,nA] at ha;rw[hR.kp 0 (by kernel_rfl),hR.kp 1 (by kernel_rfl),hR.kp 2 (by kernel_rfl),hR.kp 3 (by kernel_rfl),hR.kp 4 (by kernel_rfl),hR.kp 5 (by kernel_rfl),hR.kp 6 (by kernel_rfl),hR.kp 7 (by kernel_rfl),hR.kp 8 (by kernel_rfl),hR.kp 9 (by kernel_rfl),hR.kp 10 (by kernel_rfl),hR.kp 12 (by kernel_rfl),hR.kp 15 (by kernel_rfl),hR.kp 17 (by kernel_rfl),hR.kp 18 (by kernel_rfl),hR.kp 19 (by kernel_rfl),hR.kp 20 (by kernel_rfl),hR.kp 21 (by kernel_rfl),hR.kp 22 (by kernel_rfl),hR.kp 23 (by kernel_rfl),hR.kp 24 (by kernel_rfl),hR.kp 25 (by kernel_rfl),hR.kp 26 (by kernel_rfl),hR.kp 27 (by kernel_rfl),hR.kp 28 (by kernel_rfl),hR.kp 29 (by kernel_rfl),hR.kp 30 (by kernel_rfl),hR.kp 31 (by kernel_rfl),hR.kp 114 (by kernel_rfl),hR.kp 115 (by kernel_rfl)] at ha;simp only[ko,fT,fS] at ha;clear hR;rw[e27] at ha;generalize a3.tmps.getD=zz at ha;have pw:=ai hS;clear e27 hS;subst ha;obtain⟨r,hr⟩:∃r,(bs&&((!f||g12)||(g20&&Pg)))=r:=⟨_,rfl⟩
         rw[hr] at UB;rw[hr];clear hr;have ahD:=ai (HRL.out.below pw.out);have ahC:=ai (HRC.out.below pw.out);have HBf:=ai (wZ.out.trans ((HQd.out.trans (pw.out.mono HQd.out.size)).mono hsz));cases r
         ·have hs:eA b all (bE pl) lm (M+1)=(lc,f):=by rw[UB.out];rfl
          have HS:=ai hs;clear hs;go_wp2;go_roundw
          case rel=>
           refine⟨M+1,p4,c4,by omega,by simp,?_,?_,?_,HBf.out⟩
           ·rw[HS.out]
           ·rw[HS.out]
           ·rw[HS.out];exact ahD.out
          case measure=>simp[intOf];omega
         ·have hs:eA b all (bE pl) lm (M+1)=(C.map fun(i:Nat)=>(i:Int),true):=by rw[UB.out];rfl
          have HS:=ai hs;clear hs;go_wp2;go_roundw
          case rel=>
           refine⟨M+1,p9,c9,by omega,by simp,?_,?_,?_,HBf.out⟩
           ·rw[HS.out]
           ·rw[HS.out];simp
           ·rw[HS.out];have:=ahC.out;simp only[dz] at this ⊢;exact this
          case measure=>simp[intOf];omega
   ·obtain rfl:N=M:=by omega
    have HN1:=ai dX;have HR1:=ai hr4;clear dX hr4;rw[HN0.out] at HR1;go_wp2
    go_ret3
    exact⟨ae p4 (eA b all (bE pl) lm N).1.length c4,by rw[←HN0.out];rfl,by rw[←HN0.out] at HR1 ⊢;exact HR1.out,Ff.out.trans (HN1.out.mono Ff.out.size)⟩
structure w8(w:ar)(os:List Obj)(w':ar):Prop where
 at_:∀i o,os[i]?=some o→w'.heap[w.heap.size+i]?=some o
 below:az w.heap.size w w'
 size:w.heap.size+os.length≤w'.heap.size
theorem w8.nil(w:ar):w8 w [] w:=⟨by simp,aw _ _,by simp⟩
theorem w8.alloc{w w':ar}{os:List Obj}(h:w8 w os w')(hs:w'.heap.size=w.heap.size+os.length)(o:Obj):w8 w (os++[o]) (w'.alloc o):=by
 refine⟨fun i p hi=>?_,h.below.alloc (by omega) o,by simp;omega⟩;rcases Nat.lt_trichotomy i os.length with h1|h1|h1
 ·rw[List.getElem?_append_left h1] at hi;exact(aS _ _ _ (by omega)).trans (h.at_ i p hi)
 ·subst h1;simp at hi;subst hi;rw[←hs];exact ay w' _
 ·rw[List.getElem?_eq_none (by simp;omega)] at hi;cases hi
theorem w8.next{w w1 w2:ar}{os:List Obj}(h:w8 w os w1)(hb:az w1.heap.size w1 w2):w8 w os w2:=by
 have hs:=h.size;refine⟨fun i p hi=>(hb.block _ ?_).trans (h.at_ i p hi),h.below.trans (hb.mono (by omega)),Nat.le_trans hs hb.size⟩;have:=(List.getElem?_eq_some_iff.1 hi).1;omega
theorem aax(w:ar)(A B C D:Obj):w8 w [A,B,C,D] ((((w.alloc A).alloc B).alloc C).alloc D):=
 ((((w8.nil w).alloc (by simp) A).alloc (by simp) B).alloc (by simp) C).alloc (by simp) D
theorem NF{zs:List Int}(h:zs≠[]):Lib.compact zs≠[]:=by
 intro hc;unfold Lib.compact Lib.compactUpTo at hc;have h1:=List.map_eq_nil_iff.1 hc;have h2:(0:Nat)∈(aT zs.length).filter (Lib.keeps zs.toArray):=List.mem_filter.2 ⟨List.mem_range.2 (cQ.2 h),Lib.keeps_lt_one _ 0 (by omega)⟩;rw[h1] at h2;cases h2
theorem aaT(b:BB)(men sent marks:aj)(ml:List Mn)(ss:List Int)(ms:List Mk)(w:ar)(hL:Laid w)(hB:cI b men sent marks ml ss ms w)(hne:aX b ml ss ms≠[])(pl:List Int)(hp:fj b pl)(mi:Nat)(h1:1≤mi)(h2:(mi:Int)≤b.minutes)
  (lv:aj) (hl:Reads w lv pl.length (pl.map (aG ag))) :
  bm aq 60 #[aO (b.cells men sent marks),lv,ah ag mi] w fun e w'=>∃x y r,gO (fun a=>b.wW (b.bM+a.used) (bE pl) mi) (aX b ml ss ms)=x::r∧(x::r).getLast?=some y∧e=aC (cA #[aO #[ah ag x,ah ag y],ah ag 0])∧az w.heap.size w w':=by
 have hlen:=ju ss ms hB.ok hB.gX;have jJ:0<(aX b ml ss ms).length:=cQ.2 hne;have cN:=hB.ok;have hao:=nT (ss:=ss) (ms:=ms) hB.ok hB.gX;obtain⟨pm,cm,rfl,_⟩:=aR hB.rm;obtain⟨pn,cn,rfl,_⟩:=aR hB.rs;obtain⟨pk,ck,rfl,_⟩:=aR hB.rk;obtain⟨qi,qw,rfl,_⟩:=aR hl;have ht:=aax w (au (b.cells (ae pm ml.length cm) (ae pn ss.length cn) (ae pk ms.length ck)) 28) (au #[ae qi pl.length qw] 25) (au #[ah ag mi] 3) (au #[ah ag 0,ah ag 0] 23)
 have hop:=Sz b (ae pm ml.length cm) (ae pn ss.length cn) (ae pk ms.length ck) ml ss ms _ (hL.below ht.below) (hB.below ht.below) hne (w.heap.size+1) (w.heap.size+2) (fun W hb=>by
  have hw:=hb
  exact Uq b cN _ _ _ pl hp mi h1 h2 _ _ _ W ((hb.block (w.heap.size+1) (by simp)).trans (ht.at_ 1 _ rfl)) ((hb.block (w.heap.size+2) (by simp)).trans (ht.at_ 2 _ rfl)) ((hl.below ht.below).below hb))
 have HO:=ai hop;have HT:=ai ht;have HRl:=ai hl;have Rv:=ai hao;clear hop ht hL hB hl hao;generalize hall:aX b ml ss ms=all at *;clear hall;generalize ml.length=lm at *;generalize ss.length=ln at *;generalize ms.length=lk at *;obtain⟨of,hof⟩:∃of:dT→Int,(fun a=>b.wW (b.bM+a.used) (bE pl) mi)=of:=⟨_,rfl⟩
 rw[hof];have HOf:=ai hof;clear hof
 go_enter Tryz.func60,Tryz.ntmps60
 go_wp2_with (first
  |(go_at_call 103;refine HO.out.mono ?_;clear HO;rintro e w1 ⟨v,rfl,iY,hb1⟩
    have rN:=HT.out.next hb1
    obtain⟨gv,cv,rfl⟩:∃gv cv,v=ae (some ⟨gv,0,none⟩) all.length cv:=by
     rcases iY.1.2 with⟨_,h0⟩|⟨g,cap,cur,rfl,_⟩
     ·omega
     ·exact⟨g,cap,rfl⟩
    have oQ:=ai rN;have UC:Hid (Reads (w1.alloc (au (b.open (ae pm lm cm) (ae pn ln cn) (ae pk lk ck) (ae (some ⟨gv,0,none⟩) all.length cv)) 122)) (ae (some ⟨gv,0,none⟩) all.length cv) all.length (rowOf all)):=ai ((iY.reads (by omega)).below ((aw _ _).alloc (ax _) _))
    have HNu:=ai (Kl b (ae pm lm cm) (ae pn ln cn) (ae pk lk ck) all hne (by omega) of w1.heap.size (w.heap.size+1) (w.heap.size+2) _ _ UC.out (fun a ha W hb=>by
     have q:=(oQ.out.next ((aw _ _).alloc (ax _) (au (b.open (ae pm lm cm) (ae pn ln cn) (ae pk lk ck) (ae (some ⟨gv,0,none⟩) all.length cv)) 122))).next hb
     have q1:=(hb.block w1.heap.size (by simp)).trans (ay w1 _);rw[←HOf.out]
     exact Uo b cN _ _ _ _ pl hp mi h1 h2 a (Rv.out a ha) _ _ _ _ W q1 (q.at_ 1 _ rfl) (q.at_ 2 _ rfl) (HRl.out.below q.below)))
    clear rN iY hb1)
  |(go_at_call 124;refine HNu.out.mono ?_;rintro e w2 ⟨gn,cgn,rfl,ho2,hb2⟩;have HO2:=ai ho2;have o7:=ai hb2;clear ho2 hb2))
 have hq:=(oQ.out.next ((aw _ _).alloc (ax _) (au (b.open (ae pm lm cm) (ae pn ln cn) (ae pk lk ck) (ae (some ⟨gv,0,none⟩) all.length cv)) 122))).next o7.out
 have Md:gO of all≠[]:=by
  have h1:sorted (all.map of)≠[]:=by
   intro h;have h2:(sorted (all.map of)).length=(all.map of).length:=xd _;rw[h] at h2;simp at h2;exact hne (List.eq_nil_of_length_eq_zero h2.symm)
  exact NF h1
 have hnl:(gO of all).length≤1000:=by
  have h1:=Lib.compact_length_le (sorted (all.map of));have h2:(sorted (all.map of)).length=all.length:=(xd _).trans (dz _);unfold gO;omega
 obtain⟨x,r,hxr⟩:∃x r,gO of all=x::r:=by
  cases h:gO of all with
  |nil=>exact(Md h).elim
  |cons x r=>exact⟨x,r,rfl⟩
 have hN:∃N,(gO of all).length=N:=⟨_,rfl⟩
 obtain⟨N,hN⟩:=hN;have hN1:1≤N:=by rw[←hN,hxr];simp
 obtain⟨y,hy⟩:∃y,(gO of all)[N-1]?=some y:=⟨_,dg (by omega)⟩
 obtain⟨cur,hgb,BR,hc0,hcl⟩:∃cur:Array aj,w2.heap[gn]?=some (au cur 3 (0,0))∧w1.heap.size+1≤gn∧cur[0]?=some (ah ag x)∧cur[N-1]?=some (ah ag y):=by
  rcases HO2.out.2 with⟨h0,_⟩|⟨g',cap',cur,h0,hb0,h1,h2,h3,h4,h5⟩
  ·cases h0
  ·cases h0;rw[Nat.mul_one,hN] at h5
   have hz:∀(j:Nat) (u:Int),(gO of all)[j]?=some u→cur[j]?=some (ah ag u):=fun j u hj=>by
    have h6:(cur.toList.take N)[j]?=some (aG ag u):=by rw[h5,List.getElem?_map,hj];rfl
    rw[List.getElem?_take] at h6;split at h6
    ·simpa using h6
    ·cases h6
   refine⟨cur,h1,by simpa using hb0,hz 0 x (by rw[hxr];rfl),hz _ _ hy⟩
 have afx:=oQ.out.size;simp at afx;have hwr:IntKind.i64.wrap ((N:Int)-1)=((N-1:Nat):Int):=by rw[eY _ (by omega) (by omega)];omega
 have i1:((N-1:Nat):Int)<(N:Int):=by omega
 have i2:(0:Int)≤((N-1:Nat):Int):=by omega
 have i3:(0:Int)<(N:Int):=by omega
 have hgB:gn≠w.heap.size+1+1+1:=by omega
 have HXR:=ai hxr;have HY:=ai hy;have HNN:=ai hN;rw[hN];clear hxr hy Md hnl hN UC HNu HO2 HRl Rv HT
 refine bQ (by kernel_rfl) [
 pV (ae (some ⟨gn,0,none⟩) N cgn),
  pV (pv gn 0),
  pV (ah ag x),
  pV (ae (some ⟨gn,0,none⟩) N cgn),
  pV (ae (some ⟨gn,0,none⟩) N cgn),
  pV (ah ag N),
  pV (ah ag ((N-1:Nat):Int)),
  pV (pv gn (N-1)),
  pV (ah ag y),
  pV (aO #[ah ag x,ah ag y]),
  fun v ds w9=>w9.heap[w.heap.size+1+1+1]?=some (au #[ah ag x,ah ag y] 23 (0,0)),
  pV (ah ag 0)]
  (fun w9=>w9.heap[gn]?=some (au cur 3 (0,0))∧(∃z1 z2,w9.heap[w.heap.size+1+1+1]?=some (au #[z1,z2] 23 (0,0)))∧az w.heap.size w w9) [(10,ae (some ⟨gn,0,none⟩) N cgn),(6,pv (w.heap.size+1+1+1) 0)] (by kernel_rfl) ?rst (fun w1 w2 h hb=>⟨(hb.block _ (ak.1 h.1).1).trans h.1,h.2.1.imp fun z1 h1=>h1.imp fun z2 h2=>(hb.block _ (ak.1 h2).1).trans h2,h.2.2.trans (hb.mono h.2.2.size)⟩) (⟨hgb,⟨_,_,hq.at_ 3 _ rfl⟩,hq.below.drew⟩) ⟨rfl,rfl,trivial⟩ ?reach ?rfin
 case rst=>
  refine⟨sV,sV,sV,sV,sV,sV,sV,sV,sV,sV,?_,sV,trivial⟩
  ·rintro v ds w1 w2 hS h hb;exact(hb.block _ (ak.1 h).1).trans h
 case reach=>
  refine⟨?_,?_,?_,?_,?_,?_,?_,?_,?_,?_,?_,?_,trivial⟩<;>rintro ev w1 hS hc hg hf ⟨Xc,b6,-⟩ hd
  ·clear hd;exact tV
  ·have d0:ev (aJ 24)=_:=hd.1 rfl;clear hd;refine yv ?_ rfl;go_simp;intro hx;exfalso;omega
  ·have d1:ev (aJ 25)=_:=hd.1 rfl;clear hd;have z:=aH hS.1 0 _ hc0;exact tV
  ·clear hd;exact tV
  ·clear hd;exact tV
  ·have d4:ev (aJ 28)=_:=hd.1 rfl;clear hd;exact tV
  ·have d5:ev (aJ 29)=_:=hd.1 rfl;clear hd;exact tV
  ·have d3:ev (aJ 27)=_:=hd.1 rfl;have d6:ev (aJ 30)=_:=hd.2.1 rfl;clear hd;exact tV
  ·have d7:ev (aJ 31)=_:=hd.1 rfl;clear hd;have z:=aH hS.1 _ _ hcl;exact tV
  ·have d2:ev (aJ 26)=_:=hd.1 rfl;have d8:ev (aJ 32)=_:=hd.2.1 rfl;clear hd;exact tV
  ·have d9:ev (aJ 33)=_:=hd.1 rfl;clear hd;obtain⟨hg1,⟨z1,z2,hz⟩,uz⟩:=hS;have c0:=aH hz 0 _ rfl;have c1:=aH hz 1 _ rfl;have f0:=cM hz 0;have f1:=cM hz 1;refine Lag.Yields.skip (w':=(w1.setCell ⟨w.heap.size+1+1+1,0,none⟩ (ah ag x)).setCell ⟨w.heap.size+1+1+1,1,none⟩ (ah ag y)) ?_ ⟨cP _ (cP _ hz),.inr ⟨⟨(bj _ _ _ _ hgB).trans ((bj _ _ _ _ hgB).trans hg1),⟨_,_,cP _ (cP _ hz)⟩,(uz.setCell (p:=⟨_,0,none⟩) (by show _≤w.heap.size+1+1+1;omega) _).setCell (p:=⟨_,1,none⟩) (by show _≤w.heap.size+1+1+1;omega) _⟩,?_⟩⟩
   ·go_simp
   ·intro j u ds hj hp
    match j,hp with
    |0,hp=>exact hp
    |1,hp=>exact hp
    |2,hp=>exact hp
    |3,hp=>exact hp
    |4,hp=>exact hp
    |5,hp=>exact hp
    |6,hp=>exact hp
    |7,hp=>exact hp
    |8,hp=>exact hp
    |9,hp=>exact hp
    |10,_=>exact(hj rfl).elim
    |11,hp=>exact hp
    |j+12,_=>trivial
  ·clear hd;exact tV
 case rfin=>
  intro a2 w2 hR;have hS:=hR.s;have Nx:w2.heap[w.heap.size+1+1+1]?=some (au #[ah ag x,ah ag y] 23 (0,0)):=hR.val 10 (by decide);have e11:a2.tmps.getD 7 af=_:=hR.val 11 (by decide);have k6:a2.tmps.getD 6 af=pv (w.heap.size+1+1+1) 0:=hR.kept (by kernel_rfl);have ha:=hR.lits 34 rfl;simp only[aT,bT,nA] at ha;clear hR;rw[e11,k6] at ha;clear e11;generalize a2.tmps.getD=zz at ha;have HE:=ai Nx;have HF:=ai hS.2.2;clear Nx hS k6;subst ha;go_wp2;refine bodyPost_ret (results_cell_tmp (g:=w.heap.size+1+1+1) rfl rfl (run_loadVar_row _ _ 23 23 _ (0,0) _ HE.out Tryz.underlying23 rfl (by kernel_rfl))) rfl ⟨x,y,r,HXR.out,?_,rfl,HF.out⟩;rw[←HXR.out,List.getLast?_eq_getElem?,HNN.out];exact HY.out
end Go.Proofs.YtffladgmkiimjaaGreatDoor
namespace Go.Proofs.YtffladgmkiimjaaGreatDoor
open Go.RowKit Go.Lag Go.Maps
theorem wfI{n:Int}(h0 : -9223372036854775808≤n)(h1:n≤9223372036854775807):(Lit.int .i64 n).wf=true:=by
 simp[Lit.wf,IntKind.min,IntKind.max,IntKind.signed,IntKind.bits];omega
def cnt(i:Nat)(l:List dT)(n:Int):Nat:=l.countP fun a=>a.get i==n
def tW(i:Nat)(all:List dT):Nat→Nat
 |0=>0
 |j+1=>max (tW i all j) (cnt i (all.take (j+1)) ((all.getD j ⟨0,0,0,0⟩).get i))
def rq(all:List dT):Nat→Int × Nat
 |0=>(-1,all.length)
 |i+1=>if tW i all all.length<(rq all i).2 then((i:Int),tW i all all.length) else rq all i
theorem Ar:Keyed aq 3:=int_keyed ig
theorem CN(w:ar):(zeroValue 3).run aq w=.ok (.int .i64 0) w:=by kernel_rfl
def yj(D:DataW Unit)(i:Nat)(l:List dT):Prop:=IsMap D∧∀n:Int,D.atKey (.int .i64 n) (.lit (.int .i64 0))=.lit (.int .i64 (cnt i l n))
theorem yj.nil(i:Nat):yj (.map []) i []:=⟨⟨_,rfl⟩,fun n=>rfl⟩
theorem yj.put{D:DataW Unit}{i:Nat}{l:List dT}(h:yj D i l)(a:dT):yj (D.put (.int .i64 (a.get i)) (.lit (.int .i64 ((cnt i l (a.get i):Int)+1)))) i (l++[a]):=by
 refine⟨h.1.put _ _,fun n=>?_⟩
 by_cases hn:a.get i=n
 ·subst hn;rw[atKey_put_same h.1 (by trivial)];simp[cnt,List.countP_append]
 ·rw[atKey_put_other (by simpa using fun e=>hn e.symm),h.2 n];simp[cnt,List.countP_append,hn]
theorem JM(i:Nat)(all:List dT):∀j,j≤all.length→tW i all j≤j
 |0,_=>ax _
 |j+1,h=>by
  have h1:=JM i all j (by omega);have h2:cnt i (all.take (j+1)) ((all.getD j ⟨0,0,0,0⟩).get i)≤(all.take (j+1)).length:=xe;simp only[List.length_take] at h2;unfold tW;omega
theorem LO(all:List dT):∀i,(rq all i).2≤all.length
 |0=>ax _
 |i+1=>by
  have:=LO all i;unfold rq;split<;>simp<;>omega
theorem aaR(b:BB)(men sent marks:aj)(ml:List Mn)(ss:List Int)(ms:List Mk)(w:ar)(hL:Laid w)(hB:cI b men sent marks ml ss ms w)(hne:aX b ml ss ms≠[]) :
  bm aq 53 #[.agg (b.cells men sent marks)] w fun e w'=>e=.returned (.tuple #[.int .i64 (rq (aX b ml ss ms) ml.length).1,.int .i64 (rq (aX b ml ss ms) ml.length).2,.int .i64 0])∧az w.heap.size w w':=by
 have hlen:=ju ss ms hB.ok hB.gX;have jJ:0<(aX b ml ss ms).length:=cQ.2 hne;have cN:=hB.ok;have hao:=nT (ss:=ss) (ms:=ms) hB.ok hB.gX;have Tq:=hB.gX.len;obtain⟨pm,cm,rfl,_⟩:=aR hB.rm;obtain⟨pn,cn,rfl,_⟩:=aR hB.rs;obtain⟨pk,ck,rfl,_⟩:=aR hB.rk;have b1:az w.heap.size w (w.alloc (.cells (b.cells (.slice pm ml.length cm) (.slice pn ss.length cn) (.slice pk ms.length ck)) 28)):=(aw _ _).alloc (ax _) _;have HX:=ai (ay w (.cells (b.cells (.slice pm ml.length cm) (.slice pn ss.length cn) (.slice pk ms.length ck)) 28));have HO:=ai (yP b _ _ _ ml ss ms _ (hL.below b1) (hB.below b1) hne (fun W' _=>BL b _ _ _ W'));have yo:=ai b1;have Rv:=ai hao;clear hL hB hne hao b1;generalize aX b ml ss ms=all at *;generalize ml.length=lm at *;generalize ss.length=ln at *;generalize ms.length=lk at *;have hmm:=@run_makeMap aq
 go_enter Tryz.func53,Tryz.ntmps53
 go_wp2_with (first
  |(refine wpList_load_row rfl 28 _ rfl _ rfl 28 _ (0,0) _ HX.out Tryz.underlying28 rfl (by kernel_rfl) ?_)
  |(refine wpList_store_row rfl 122 _ _ rfl _ _ rfl rfl 122 _ Xn.out (by kernel_rfl) rfl (by simp[cu]) ?_)
  |(go_at_call 103;refine HO.out.mono ?_;clear HO;rintro e w1 ⟨v,rfl,iY,hb1⟩
    obtain⟨gv,cv,rfl⟩:∃gv cv,v=.slice (some ⟨gv,0,none⟩) all.length cv:=by
     rcases iY.1.2 with⟨_,h0⟩|⟨g,cap,cur,rfl,_⟩
     ·omega
     ·exact⟨g,cap,rfl⟩
    have L8:=ai iY;have o7:=ai hb1;have Xn:=ai (ay w1 (.cells gW 122))
    clear iY hb1))
 have hk2:((w1.alloc (.cells gW 122)).setRow w1.heap.size (b.open (.slice pm lm cm) (.slice pn ln cn) (.slice pk lk ck) (.slice (some ⟨gv,0,none⟩) all.length cv))).heap[w1.heap.size]?=some (.cells (b.open (.slice pm lm cm) (.slice pn ln cn) (.slice pk lk ck) (.slice (some ⟨gv,0,none⟩) all.length cv)) 122 (0,0)):=cV Xn.out
 have uz:az w.heap.size w ((w1.alloc (.cells gW 122)).setRow w1.heap.size (b.open (.slice pm lm cm) (.slice pn ln cn) (.slice pk lk ck) (.slice (some ⟨gv,0,none⟩) all.length cv))):=by
  have h1:=yo.out.trans (o7.out.mono yo.out.size);exact dA (h1.alloc h1.size _) h1.size
 have BR:=(L8.out.1.lt gv rfl).2
 have Za:=L8.out.at_ (W':=((w1.alloc (.cells gW 122)).setRow w1.heap.size (b.open (.slice pm lm cm) (.slice pn ln cn) (.slice pk lk ck) (.slice (some ⟨gv,0,none⟩) all.length cv)))) fun g hg=>by
  have:g=gv:=by simpa [Value.ownBlock] using hg.symm
  subst this;exact(setRow_other (by omega)).trans (aS _ _ _ BR)
 have ki:w.heap.size<w1.heap.size:=by have:=o7.out.size;simp at this;omega
 have hx2:((w1.alloc (.cells gW 122)).setRow w1.heap.size (b.open (.slice pm lm cm) (.slice pn ln cn) (.slice pk lk ck) (.slice (some ⟨gv,0,none⟩) all.length cv))).heap[w.heap.size]?=some (.cells (b.cells (.slice pm lm cm) (.slice pn ln cn) (.slice pk lk ck)) 28 (0,0)):=by
  refine(setRow_other (by omega)).trans ((aS _ _ _ (by omega)).trans ((o7.out.block _ ?_).trans HX.out));simp
 have vO:=Za.reads (by omega);generalize hWe:((w1.alloc (.cells gW 122)).setRow w1.heap.size (b.open (.slice pm lm cm) (.slice pn ln cn) (.slice pk lk ck) (.slice (some ⟨gv,0,none⟩) all.length cv)))=W2 at *;generalize w1.heap.size=k at *
 have HC:Hid (∀j u,(rowOf all)[j]?=some u→W2.cell? ⟨gv,0+j,none⟩=some u):=ai (by
  rcases vO with⟨h0,_⟩|⟨g,off,cap,h0,_,_,h1⟩
  ·cases h0
  ·cases h0;exact h1)
 have af7:=(Za.1.lt gv rfl).2;have y1:=aH hk2 15 _ rfl;have f1:=cM hk2 15;have Ga:=ai hk2;have HX2:=ai hx2;have Va:=ai uz;have HWe:=ai hWe;clear hWe vO Za L8 yo o7 HX Xn uz BR hk2 hx2
 have F9:Hid (∀w9,az W2.heap.size W2 w9→w9.cell? ⟨k,15,none⟩=some (.slice (some ⟨gv,0,none⟩) all.length cv)∧w9.heap[k]?=some (.cells (b.open (.slice pm lm cm) (.slice pn ln cn) (.slice pk lk ck) (.slice (some ⟨gv,0,none⟩) all.length cv)) 122 (0,0))∧w9.heap[w.heap.size]?=some (.cells (b.cells (.slice pm lm cm) (.slice pn ln cn) (.slice pk lk ck)) 28 (0,0))):=ai fun w9 Nn=>by
  have h1:=(Nn.block _ (ak.1 Ga.out).1).trans Ga.out;exact⟨aH h1 15 _ rfl,h1,(Nn.block _ (ak.1 HX2.out).1).trans HX2.out⟩
 refine bQ (by kernel_rfl) [
 pV (.pointer (some ⟨k,15,none⟩)),
  pV (.slice (some ⟨gv,0,none⟩) all.length cv),
  pV (.int .i64 all.length),
  pV (.int .i64 (-1)),
  pV (.int .i64 all.length)]
  (fun w9=>az W2.heap.size W2 w9) [(1,pv w.heap.size 0),(5,pv k 0)] (by kernel_rfl) ?rst (fun w1 w2 h hb=>h.trans (hb.mono h.size)) (by have:=HWe.out;subst this;exact(aw _ _).drew) ⟨rfl,rfl,trivial⟩ ?reach ?rfin
 case rst=>
  refine⟨sV,sV,sV,sV,sV,trivial⟩
 case reach=>
  refine⟨?_,?_,?_,?_,?_,trivial⟩<;>rintro ev w1 hS hc hg hf ⟨b1,b5,-⟩ hd
  ·clear hd;exact tV
  ·have d0:ev (.tmp 19)=_:=hd.1 rfl;clear hd;obtain y1:=(F9.out w1 hS).1;exact tV
  ·have d1:ev (.tmp 20)=_:=hd.1 rfl;clear hd;exact tV
  ·clear hd;exact tV
  ·have d2:ev (.tmp 21)=_:=hd.1 rfl;clear hd;exact tV
 case rfin=>
  intro a2 w2 hR;have hS:=hR.s;have e3:a2.tmps.getD 2 af=_:=hR.val 3 (by decide);have e4:a2.tmps.getD 3 af=_:=hR.val 4 (by decide);have k1:a2.tmps.getD 1 af=pv w.heap.size 0:=hR.kept (by kernel_rfl);have k4:a2.tmps.getD 4 af=.int .i64 0:=hR.kept (by kernel_rfl);have k5:a2.tmps.getD 5 af=pv k 0:=hR.kept (by kernel_rfl);have ha:=hR.lits 60 rfl;simp only[aT,bT,nA] at ha;clear hR;rw[e3,e4,k1,k4,k5] at ha;generalize a2.tmps.getD=zz at ha;have o7:=ai hS;clear e3 e4 k1 k4 k5 hS y1 f1;subst ha;obtain⟨y1,hk2,hx2⟩:=F9.out w2 o7.out;have f1:=cM hk2 15;obtain⟨x0,x1,x2,x3,x4,x5,x6,x7,x8,x9,nX,nW,oU,oh,oP⟩:=bN hx2;have fx:=cM hx2 12;clear hk2 hx2;generalize hL:all.length=L at *;have HL:=ai hL;clear hL x0 x1 x2 x3 x4 x5 x6 x7 x8 x9 nX nW oh oP;go_wp2
  go_loopw [2,3,6,7,8,10,25] (fun mn lf _ _ _ _ i wr=>∃m:Nat,m≤lm∧i=.int .i64 m∧mn=.int .i64 (rq all m).1∧lf=.int .i64 (rq all m).2∧az w2.heap.size w2 wr) (fun _ _ _ _ _ _ i _=>lm-(intOf i).toNat)
  case atStart=>exact⟨0,by omega,rfl,rfl,by simp[rq,HL.out],aw _ _⟩
  case round=>
   obtain⟨m,hm,rfl,rfl,rfl,dX⟩:=hrel;rename ar=>wo;have hsz:=dX.size
   by_cases hlt:m<lm
   ·have Hq:=(dX.cell (p:=⟨k,15,none⟩) (ak.1 (F9.out w2 o7.out).2.1).1).trans y1;have wZ:=ai dX
    have hkb:k<wo.heap.size:=by
     have:=(ak.1 (F9.out w2 o7.out).2.1).1;omega
    have hgb:gv<wo.heap.size:=by have:=o7.out.size;omega
    have fz:(wo.alloc (.map #[] 0)).frozen? ⟨k,15,none⟩=false:=by
     have:=(F9.out wo (o7.out.trans (dX.mono o7.out.size))).2.1;exact cM ((aS _ _ _ hkb).trans this) 15
    have HCr:Hid (∀W,az (wo.heap.size) wo W→∀i u,(rowOf all)[i]?=some u→W.cell? ⟨gv,0+i,none⟩=some u):=ai fun W hW i u hi=>by
     have:=HC.out i u hi;have h2:=(o7.out.trans ((dX.mono o7.out.size).trans (hW.mono (by have:=o7.out.size;omega)))).cell (p:=⟨gv,0+i,none⟩) af7;exact h2.trans this
    have HAs:Hid (rq all (m+1)=if tW m all all.length<(rq all m).2 then((m:Int),tW m all all.length) else rq all m):=ai rfl;have hal:=LO all m;generalize rq all m=am at *;obtain⟨am,al⟩:=am;simp only[] at hal;clear dX;go_wp2
    go_loopw [8,10,32] (fun wst _ i wq=>∃j:Nat,j≤L∧i=.int .i64 j∧wst=.int .i64 (tW m all j)∧(∃D,yj D m (all.take j)∧wq.ownsMap aq 3 (plainElem (H:=Unit) aq 3) wo.heap.size j D)∧az wo.heap.size wo wq) (fun _ _ i _=>L-(intOf i).toNat)
    case atStart=>exact⟨0,by omega,rfl,rfl,⟨_,yj.nil _,World.ownsMap_made _ _ _ _⟩,(aw _ _).alloc (ax _) _⟩
    case round=>
     obtain⟨j,hj,rfl,rfl,⟨D,hD,hown⟩,yl⟩:=hrel
     by_cases Wl:j<L
     ·have I4:j<all.length:=by rw[HL.out];exact Wl
      have Y8:=yl.size;have hql:=hown.lt;have hbq:=o7.out.size;obtain⟨c0,c1,c2,c3⟩:=Reads.cell (w:=wr) (cap:=cv) (n:=L) (fun i u hi=>HCr.out wr yl i u hi) j I4;simp only[cJ] at c0 c1 c2 c3;have hw1:tW m all (j+1)=max (tW m all j) (cnt m (all.take (j+1)) ((all.getD j ⟨0,0,0,0⟩).get m)):=rfl;have hwl:=JM m all j (by omega);have hgd:all.getD j ⟨0,0,0,0⟩=all[j]:=by simp[List.getD,dg I4]
      have tq:all.take (j+1)=all.take j++[all[j]]:=List.take_append_getElem I4 |>.symm
      have hcl:cnt m (all.take j) (all[j].get m)≤(all.take j).length:=xe
      have Wq:cnt m (all.take (j+1)) (all[j].get m)=cnt m (all.take j) (all[j].get m)+1:=by
       show List.countP _ (all.take (j+1))=_;rw[tq,List.countP_append,List.countP_singleton];simp[cnt]
      have hDp:=hD.put all[j];rw[←tq] at hDp;have hDk:=hD.2 (all[j].get m);simp only[List.length_take] at hcl
      have hgo:0≤all[j].get m∧all[j].get m≤99:=by
       have:=Rv.out _ (bO I4);unfold dT.get;split
       ·exact this.m0
       ·exact this.m1
       ·exact this.m2
      rw[hgd,Wq] at hw1;have HCn:=ai Wq;have TC:=ay wr (.cells all[j].cells 134)
      have hx:(wr.alloc (.cells all[j].cells 134)).cell? ⟨wr.heap.size,1+m,none⟩=some (.int .i64 (all[j].get m)):=by
       have h3:m<3:=by omega
       match m,h3 with
       |0,_=>exact aH TC 1 _ rfl
       |1,_=>exact aH TC 2 _ rfl
       |2,_=>exact aH TC 3 _ rfl
      have hoa:=hown.alloc (.cells all[j].cells 134);have HBa:=ai TC;have Ru:=ai yl;have HDp:=ai hDp;have HDk:=ai hDk;have HW1:=ai hw1;clear hD hown tq hgd Wq TC yl hDp hDk;generalize all[j]=a at *;generalize hcc:cnt m (all.take j) (a.get m)=cc at *;generalize hww:tW m all j=ww at *;have hkey:keyOf aq 3 (.int .i64 (a.get m))=some (.int .i64 (a.get m)):=keyOf_int_mk ig (wfI (by omega) (by omega));have zz:IntKind.i64.wrap ((cc:Int)+1)=(cc:Int)+1:=by rw[IntKind.wrap_i64];omega
      have HNe:Hid (wr.heap.size≠wo.heap.size):=ai (by omega);rcases Int.lt_or_le (ww:Int) ((cc:Int)+1) with q1|q1
      ·go_wp2_with (first
        |(at_lookup;refine wpList_lookup_own_int _ rfl _ _ 146 rfl 3 3 .i64 Ar Tryz.underlying146 ig (CN _) wo.heap.size j _ rfl hoa _ _ rfl hkey ?_;intro c hat hwc
          obtain rfl:c=(cc:Int):=by rw[HDk.out] at hat;simpa using hat.symm)
        |(at_lookup;refine wpList_lookup_own_int _ rfl _ _ 146 rfl 3 3 .i64 Ar Tryz.underlying146 ig (CN _) wo.heap.size (j+1) _ rfl hown1 _ _ rfl hkey ?_;intro c hat hwc
          obtain rfl:c=(cc:Int)+1:=by have:=HDp.out.2 (a.get m);rw[HCn.out] at this;rw[this] at hat;simpa using hat.symm)
        |(at_mapUpdate;refine wpList_mapUpdate_own _ rfl _ _ _ 146 rfl 3 3 Ar Tryz.underlying146 _ wo.heap.size j _ rfl hoa (by unfold maxLen;omega) _ _ _ rfl rfl hkey _ [] (plainElem_int ig (wfI (by omega) (by omega))) ?_;intro w1 hown1 Ep
          have hx1:=(Ep.cell hx (by simpa using HNe.out))
          clear hx)
        |go_in)
       go_roundw
       case rel=>
        refine⟨j+1,by omega,by simp,?_,⟨_,HDp.out,hown1⟩,(Ru.out.alloc (by omega) _).grown Ep (by simp;omega) (fun k hk=>by cases hk;exact ax _)⟩;exact congrArg (aG .i64) (by have:=HW1.out;omega)
       case measure=>simp[intOf];omega
      ·go_wp2_with (first
        |(at_lookup;refine wpList_lookup_own_int _ rfl _ _ 146 rfl 3 3 .i64 Ar Tryz.underlying146 ig (CN _) wo.heap.size j _ rfl hoa _ _ rfl hkey ?_;intro c hat hwc
          obtain rfl:c=(cc:Int):=by rw[HDk.out] at hat;simpa using hat.symm)
        |(at_lookup;refine wpList_lookup_own_int _ rfl _ _ 146 rfl 3 3 .i64 Ar Tryz.underlying146 ig (CN _) wo.heap.size (j+1) _ rfl hown1 _ _ rfl hkey ?_;intro c hat hwc
          obtain rfl:c=(cc:Int)+1:=by have:=HDp.out.2 (a.get m);rw[HCn.out] at this;rw[this] at hat;simpa using hat.symm)
        |(at_mapUpdate;refine wpList_mapUpdate_own _ rfl _ _ _ 146 rfl 3 3 Ar Tryz.underlying146 _ wo.heap.size j _ rfl hoa (by unfold maxLen;omega) _ _ _ rfl rfl hkey _ [] (plainElem_int ig (wfI (by omega) (by omega))) ?_;intro w1 hown1 Ep
          have hx1:=(Ep.cell hx (by simpa using HNe.out))
          clear hx)
        |go_in)
       go_roundw
       case rel=>
        refine⟨j+1,by omega,by simp,?_,⟨_,HDp.out,hown1⟩,(Ru.out.alloc (by omega) _).grown Ep (by simp;omega) (fun k hk=>by cases hk;exact ax _)⟩;exact congrArg (aG .i64) (by have:=HW1.out;omega)
       case measure=>simp[intOf];omega
     ·obtain rfl:j=L:=by omega
      have Ru:=ai yl;have HHm:=hmm;rw[HL.out] at HAs;clear hown yl hD;generalize tW m all j=ww at *
      by_cases h9:(ww:Int)<al
      ·go_wp2;go_roundw
       case rel=>
        refine⟨m+1,by omega,by simp,?_,?_,wZ.out.trans (Ru.out.mono hsz)⟩
        ·rw[HAs.out,if_pos (by omega)]
        ·rw[HAs.out,if_pos (by omega)]
       case measure=>simp[intOf];omega
      ·go_wp2;go_roundw
       case rel=>
        refine⟨m+1,by omega,by simp,?_,?_,wZ.out.trans (Ru.out.mono hsz)⟩
        ·rw[HAs.out,if_neg (by omega)]
        ·rw[HAs.out,if_neg (by omega)]
       case measure=>simp[intOf];omega
   ·obtain rfl:m=lm:=by omega
    have wZ:=ai dX;clear dX;go_wp2
    go_ret3
    exact⟨rfl,Va.out.trans ((o7.out.trans (wZ.out.mono o7.out.size)).mono Va.out.size)⟩
end Go.Proofs.YtffladgmkiimjaaGreatDoor
namespace Go.Proofs.YtffladgmkiimjaaGreatDoor
open Go.RowKit Go.Lag
open Go.Conc
theorem TV:ex.Ok:=⟨by decide,by decide,by decide,by decide,by decide,by decide,by decide,by decide,by decide,by decide⟩
theorem Pa:mR jO:=by
 refine⟨fun m h=>?_,fun i k hi hk hik=>?_,by decide⟩
 ·simp only[jO,bR,List.not_mem_nil,or_false] at h;rcases h with rfl|rfl
  ·refine⟨⟨by decide,fun k h=>?_⟩,by decide⟩;have h3:k<3:=h
   match k,h3 with
   |0,_=>exact cF (show 97≤97∧97≤122 from by decide)
   |1,_=>exact cF (show 97≤110∧110≤122 from by decide)
   |2,_=>exact cF (show 97≤110∧110≤122 from by decide)
  ·refine⟨⟨by decide,fun k h=>?_⟩,by decide⟩;have h3:k<2:=h
   match k,h3 with
   |0,_=>exact cF (show 97≤98∧98≤122 from by decide)
   |1,_=>exact cF (show 97≤111∧111≤122 from by decide)
 ·have h2:k<2:=hk;obtain⟨rfl,rfl⟩:i=0∧k=1:=by omega
  show(⟨#[97,110,110]⟩:ByteArray)≠⟨#[98,111]⟩;decide
def rz:Mk:=⟨1,11,11⟩
def YN:Mk:=⟨1,12,12⟩
theorem YO:lH ex [rz]:=⟨by decide,by decide⟩
theorem VO:lH ex [rz,YN]:=⟨by decide,by decide⟩
theorem Pb:aX ex jO [] []=[⟨0,3,4,0⟩,⟨0,4,4,0⟩,⟨1,3,4,0⟩,⟨1,4,4,0⟩]:=by decide+kernel
theorem Le:aX ex jO [] [rz]=[⟨0,4,4,0⟩,⟨1,3,4,0⟩,⟨1,4,4,0⟩]:=by decide+kernel
theorem T3:aX (ex.lk 0 0) jO [] [rz]=[⟨0,4,4,0⟩]:=by decide+kernel
theorem Ld:aX ex jO [] []≠[]:=by rw[Pb];simp
theorem TW:aX ex jO [] [rz]≠[]:=by rw[Le];simp
theorem X9:aX (ex.lk 0 0) jO [] [rz]≠[]:=by rw[T3];simp
theorem Ik{b:BB}{pl:List Int}(h:(pl.all fun p=>decide (1≤p∧p≤b.minutes))=true)(ha:∀(k:Nat) (h:k+1<pl.length),pl[k]<pl[k+1])(hl:(pl.length:Int)≤b.dc):fj b pl:=
 ⟨fun p hp=>by have:=aU.1 h p hp;simpa using this,ha,hl⟩
theorem MO:fj ex [1,3]:=Ik (by decide) (fun k h=>by have h2:k+1<2:=h;obtain rfl:k=0:=(by omega);simp) (by decide)
theorem Yy:fj ex [1,2]:=Ik (by decide) (fun k h=>by have h2:k+1<2:=h;obtain rfl:k=0:=(by omega);simp) (by decide)
theorem Xx:fj ex [1]:=Ik (by decide) (fun k h=>by have h2:k+1<1:=h;omega) (by decide)
theorem Sl(b:BB)(h:b.Ok):fj b []:=⟨by simp,fun k h=>by simp at h,by have:=h.dc;simpa using this.1⟩
theorem Af{zs ys:List Int}(hp:zs.Perm ys)(hs:ys.Pairwise (·≤·)):sorted zs=ys:=by
 have h1:(sorted zs).Pairwise (fun a b=>(decide (a≤b))=true):=List.pairwise_mergeSort (fun a b c h1 h2=>by simp at *;omega) (fun a b=>by simp;omega) zs;exact List.Perm.eq_of_pairwise (le:=fun a b=>a≤b) (fun a b _ _ h1 h2=>by omega) (h1.imp fun h=>by simpa using h) hs ((List.mergeSort_perm zs _).trans hp)
theorem vA(lt:Nat→Nat→Bool)(p:Nat):∀(r:List Nat) (x:Nat),p∈x::r→(∀y∈x::r,(y==p||(lt p y && !lt y p))=true)→jB lt x r=p
 |[],x,hm,_=>(List.mem_singleton.1 hm).symm
 |y::r,x,hm,h=>by
  show jB lt (if lt y x=true then y else x) r=p;have hx:=h x (by simp);have hy:=h y (by simp);have hr:∀z∈r,(z==p||(lt p z && !lt z p))=true:=fun z hz=>h z (by simp[hz])
  by_cases e1:x=p
  ·subst e1
   have:(if lt y x=true then y else x)=x:=by
    by_cases hl:lt y x=true
    ·simp[hl] at hy;rw[if_pos hl];exact hy
    ·rw[if_neg hl]
   rw[this]
   exact vA lt x r x (by simp) fun z hz=>by
    rcases bR.1 hz with rfl|hz
    ·simp
    ·exact hr z hz
  ·by_cases e2:y=p
   ·subst e2
    have hx':lt y x=true:=by
     rw[Bool.or_eq_true,Bool.and_eq_true] at hx;rcases hx with hx|hx
     ·exact absurd (by simpa using hx) e1
     ·exact hx.1
    rw[if_pos hx']
    exact vA lt y r y (by simp) fun z hz=>by
     rcases bR.1 hz with rfl|hz
     ·simp
     ·exact hr z hz
   ·have hp:p∈r:=by
     rcases bR.1 hm with h1|h1
     ·exact absurd h1.symm e1
     ·rcases bR.1 h1 with h2|h2
      ·exact absurd h2.symm e2
      ·exact h2
    refine vA lt p r _ (by simp[hp]) fun z hz=>?_;rcases bR.1 hz with rfl|hz
    ·by_cases hl:lt y x=true
     ·rw[if_pos hl];exact hy
     ·rw[if_neg hl];exact hx
    ·exact hr z hz
theorem BW:jQ ex (dv [] []).toNat (bE []) (aX ex jO [] []) 512=[10,12,18,20]:=by decide+kernel
section
variable{w:ar}{m s k:aj}
theorem WU(hL:Laid w)(hB:cI ex m s k jO [] [] w):bm aq 33 #[aO (ex.cells m s k)] w fun e w'=>e=aC (cA #[ah ag 60,ah ag 0])∧az w.heap.size w w':=UA ex m s k jO [] [] w hL hB
theorem ady(hL:Laid w)(hB:cI ex m s k jO [] [] w):bm aq 65 #[aO (ex.cells m s k),ah ag 37] w fun e w'=>e=aC (cA #[ah ag 18,ah ag 0])∧az w.heap.size w w':=aaO ex m s k jO [] [] w hL hB 37 (by decide)
theorem iJ{q:Nat}{l:List Int}{t:TypeId}(h:w.heap[q]?=some (au ((l.map (aG ag)).toArray) t (0,0)))(hl:l.length≤100):Reads w (ae (some ⟨q,0,none⟩) l.length l.length) l.length (l.map (aG ag)):=
 .inr ⟨q,0,l.length,rfl,by omega,(ak.1 h).1,fun j u hj=>by rw[cJ];exact aH h j u (by simpa using hj)⟩
theorem aah(hL:Laid w)(hB:cI ex m s k jO [] [] w)(q q2:Nat)(h1:w.heap[q]?=some (au #[ah ag 3,ah ag 4] 3 (0,0)))(h2:w.heap[q2]?=some (au #[ah ag 1] 3 (0,0))) :
  bm aq 32 #[aO (ex.cells m s k),aO #[ah ag 0,ae (some ⟨q,0,none⟩) 2 2],ae (some ⟨q2,0,none⟩) 1 1] w fun e w'=>∃v,e=aC (cA #[v,ah ag 0])∧Reads w' v 5 ([44,38,29,20,11].map (aG ag))∧az w.heap.size w w':=by
 have h:=Xj ex m s k jO [] [] w hL hB 0 (by decide) [3,4] (by decide) rfl q 0 2 (ak.1 h1).1 (by decide) (fun j u hj=>by rw[cJ];exact aH h1 j u (by simpa using hj)) [1] Xx _ (iJ (l:=[1]) h2 (by decide));have e:ex.lN (ex.bM+(pq 0 [3,4]).used) (bE [1]) ex.minutes.toNat=[44,38,29,20,11]:=by decide+kernel
 rw[e] at h;exact h
theorem T2(hL:Laid w)(hB:cI ex m s k jO [] [] w):bm aq 42 #[aO (ex.cells m s k)] w fun e w'=>e=aC (cA #[ah ag 4,ah ag 0])∧az w.heap.size w w':=by
 have h:=Mc ex m s k jO [] [] w hL hB;rw[Pb] at h;exact h
theorem adB(hL:Laid w)(hB:cI ex m s k jO [] [] w)(q:Nat)(h1:w.heap[q]?=some (au #[ah ag 1,ah ag 3] 3 (0,0))) :
  bm aq 60 #[aO (ex.cells m s k),ae (some ⟨q,0,none⟩) 2 2,ah ag 5] w fun e w'=>e=aC (cA #[aO #[ah ag 21,ah ag 31],ah ag 0])∧az w.heap.size w w':=by
 have h:=aaT ex m s k jO [] [] w hL hB Ld [1,3] MO 5 (by decide) (by decide) _ (iJ (l:=[1,3]) h1 (by decide));refine h.mono ?_;rintro e w' ⟨x,y,r,hn,hy,rfl,hb⟩
 have e1:gO (fun a=>ex.wW (ex.bM+a.used) (bE [1,3]) 5) (aX ex jO [] [])=[21,26,31]:=by
  unfold gO;rw[Af (ys:=[21,26,26,31]) (by decide+kernel) (by decide)];decide+kernel
 rw[e1] at hn;cases hn;cases hy;exact⟨rfl,hb⟩
theorem aaj(hL:Laid w)(hB:cI ex m s k jO [] [] w)(q:Nat)(h1:w.heap[q]?=some (au #[ah ag 1,ah ag 3] 3 (0,0))) :
  bm aq 44 #[aO (ex.cells m s k),ae (some ⟨q,0,none⟩) 2 2] w fun e w'=>e=aC (cA #[ah ag 1,ah ag 0])∧az w.heap.size w w':=by
 have h:=Db ex m s k jO [] [] w hL hB Ld [1,3] MO _ (iJ (l:=[1,3]) h1 (by decide));have e:kh (qW ex (aX ex jO [] []) (bE [1,3])) (aX ex jO [] []).length=1:=by decide+kernel
 rw[e] at h;exact h
theorem WV(hL:Laid w)(hB:cI ex m s k jO [] [] w)(q:Nat)(h1:w.heap[q]?=some (au #[ah ag 1,ah ag 2] 3 (0,0))) :
  bm aq 44 #[aO (ex.cells m s k),ae (some ⟨q,0,none⟩) 2 2] w fun e w'=>e=aC (cA #[ah ag 0,ah ag 0])∧az w.heap.size w w':=by
 have h:=Db ex m s k jO [] [] w hL hB Ld [1,2] Yy _ (iJ (l:=[1,2]) h1 (by decide));have e:kh (qW ex (aX ex jO [] []) (bE [1,2])) (aX ex jO [] []).length=0:=by decide+kernel
 rw[e] at h;exact h
theorem adz(hL:Laid w)(hB:cI ex m s k jO [] [] w) :
  bm aq 63 #[aO (ex.cells m s k),ae none 0 0] w fun e w'=>e=aC (cA #[ah ag 2,aF true,ah ag 0])∧az w.heap.size w w':=by
 have h:=aaQ ex m s k jO [] [] w hL hB Ld [] (Sl _ TV) (ae none 0 0) (cF ⟨rfl,rfl,rfl⟩);have e:uk ex (aX ex jO [] []) (bE [])=(2,true):=by decide+kernel
 rw[e] at h;exact h
theorem T1(hL:Laid w)(hB:cI ex m s k jO [] [] w)(p1:Plain w m)(p2:Plain w s)(p3:Plain w k) :
  iV aq 20 #[aO (ex.cells m s k)] w fun v w'=>∃lv:aj,v=cA #[lv,aF true,ah ag 0]∧Reads w' lv 2 ([1,3].map (aG ag))∧Old w w':=by
 have h:=TT hL hB p1 p2 p3 Ld (by rw[BW];simp) (by rw[BW];decide) 10 (fun x r hp=>vA sj 10 r x (hp.mem_iff.2 (by rw[BW];decide)) fun y hy=>by
  have:=hp.mem_iff.1 hy;rw[BW] at this;have h2:([10,12,18,20].all fun y=>y==10||(sj 10 y && !sj y 10))=true:=by decide+kernel
  exact aU.1 h2 y this)
 have e:gJ 10=[1,3]:=by decide+kernel
 unfold Po at h;rw[e] at h;exact h
theorem TY(hL:Laid w)(hB:cI ex m s k jO [] [] w)(p1:Plain w m)(p2:Plain w s)(p3:Plain w k) :
  iV aq 23 #[aO (ex.cells m s k)] w fun v w'=>∃lv:aj,v=cA #[lv,aF true,ah ag 0]∧Reads w' lv 2 ([2,4].map (aG ag))∧Old w w':=by
 have h:=S4 hL hB p1 p2 p3 Ld (by rw[BW];simp) (by rw[BW];decide) 20 (fun x r hp=>vA si 20 r x (hp.mem_iff.2 (by rw[BW];decide)) fun y hy=>by
  have:=hp.mem_iff.1 hy;rw[BW] at this;have h2:([10,12,18,20].all fun y=>y==20||(si 20 y && !si y 20))=true:=by decide+kernel
  exact aU.1 h2 y this)
 have e:gJ 20=[2,4]:=by decide+kernel
 unfold Po at h;rw[e] at h;exact h
theorem QV(hL:Laid w)(hB:cI ex m s k jO [] [] w)(q:Nat)(h1:w.heap[q]?=some (au #[ah ag 1,ah ag 3] 3 (0,0))) :
  bm aq 25 #[aO (ex.cells m s k),ae (some ⟨q,0,none⟩) 2 2] w fun e w'=>e=aC (cA #[ah ag 44,aF true,ah ag 0])∧az w.heap.size w w':=by
 have h:=N9 ex m s k jO [] [] w hL hB Ld [1,3] MO _ (iJ (l:=[1,3]) h1 (by decide));have e:oG ex (aX ex jO [] []) (bE [1,3]) 100=some 44:=by decide+kernel
 rw[e] at h;exact h
theorem aak(hL:Laid w)(hB:cI ex m s k jO [] [] w)(q:Nat)(h1:w.heap[q]?=some (au #[ah ag 1] 3 (0,0))) :
  bm aq 27 #[aO (ex.cells m s k),ae (some ⟨q,0,none⟩) 1 1] w fun e w'=>∃v,e=aC (cA #[v,aF true,ah ag 0])∧Reads w' v 1 ([0].map (aG ag))∧az w.heap.size w w':=by
 have h:=Pv ex m s k jO [] [] w hL hB Ld [1] Xx _ (iJ (l:=[1]) h1 (by decide));have e:eA ex (aX ex jO [] []) (bE [1]) jO.length (2 ^ jO.length)=([0],true):=by decide+kernel
 rw[e] at h;exact h
theorem aai(hL:Laid w)(hB:cI ex m s (ae none 0 0) jO [] [] w) :
  bm aq 75 #[aO (ex.cells m s (ae none 0 0)),aO #[ah ag 1,ah ag 11,ah ag 11]] w fun e w'=>∃m' s' k',e=aC (cA #[aO (ex.cells m' s' k'),ah ag 0])∧fB ex m' s' k' jO [] [rz] w'∧az w.heap.size w w':=Xk ex m s jO [] w hL hB rz YO TW
theorem QW(hL:Laid w)(hB:cI ex m s k jO [] [rz] w):bm aq 42 #[aO (ex.cells m s k)] w fun e w'=>e=aC (cA #[ah ag 3,ah ag 0])∧az w.heap.size w w':=by
 have h:=Mc ex m s k jO [] [rz] w hL hB;rw[Le] at h;exact h
theorem QX(hL:Laid w)(hB:cI ex m s k jO [] [rz] w) :
  bm aq 58 #[aO (ex.cells m s k),ah ag 0] w fun e w'=>∃v,e=aC (cA #[v,ah ag 0])∧Reads w' v 2 ([3,4].map (aG ag))∧az w.heap.size w w':=by
 have h:=Fj ex m s k jO [] [rz] w hL hB TW 0 (by decide)
 have e:gO (fun a=>a.get 0) (aX ex jO [] [rz])=[3,4]:=by
  unfold gO;rw[Af (ys:=[3,4,4]) (by decide+kernel) (by decide)];decide+kernel
 rw[e] at h;exact h
theorem adA(hL:Laid w)(hB:cI ex m s k jO [] [rz] w):bm aq 53 #[aO (ex.cells m s k)] w fun e w'=>e=aC (cA #[ah ag 0,ah ag 2,ah ag 0])∧az w.heap.size w w':=by
 have h:=aaR ex m s k jO [] [rz] w hL hB TW;have e:rq (aX ex jO [] [rz]) jO.length=(0,2):=by decide+kernel
 rw[e] at h;exact h
theorem WX(hL:Laid w)(hB:cI ex m s k jO [] [rz] w) :
  bm aq 80 #[aO (ex.cells m s k),aO #[ah ag 0,ah ag 0]] w fun e w'=>∃m' s' k',e=aC (cA #[aO ((ex.lk 0 0).cells m' s' k'),ah ag 0])∧fB (ex.lk 0 0) m' s' k' jO [] [rz] w'∧az w.heap.size w w':=
 UR ex m s k jO [] [rz] w hL hB 0 0 (by decide) (by decide) (by decide) 0 0 (by decide) (by decide) (by decide) X9
theorem Nv(hL:Laid w)(hB:cI (ex.lk 0 0) m s k jO [] [rz] w) :
  bm aq 58 #[aO ((ex.lk 0 0).cells m s k),ah ag 0] w fun e w'=>∃v,e=aC (cA #[v,ah ag 0])∧Reads w' v 1 ([4].map (aG ag))∧az w.heap.size w w':=by
 have h:=Fj (ex.lk 0 0) m s k jO [] [rz] w hL hB X9 0 (by decide)
 have e:gO (fun a=>a.get 0) (aX (ex.lk 0 0) jO [] [rz])=[4]:=by
  unfold gO;rw[Af (ys:=[4]) (by decide+kernel) (by decide)];decide+kernel
 rw[e] at h;exact h
theorem aag(hL:Laid w)(hB:cI ex m s k jO [] [rz] w):bm aq 82 #[aO (ex.cells m s k),ah ag 1] w fun e w'=>e=aC (cA #[aO gV,ah ag 7])∧az w.heap.size w w':=
 Ju ex m s k jO [] [rz] w hL hB 1 (by decide) (by decide) (by decide+kernel)
theorem TX(hB:cI ex m s k jO [] [rz] w) :
  bm aq 88 #[aO (ex.cells m s k),aO #[ah ag 1,ah ag 12,ah ag 12]] w fun e w'=>∃k',e=aC (aO (ex.cells m s k'))∧cI ex m s k' jO [] [rz,YN] w'∧az w.heap.size w w':=by
 obtain⟨p1,c1,e1,_⟩:=aR hB.rm;obtain⟨p2,c2,e2,_⟩:=aR hB.rs;refine(N1 ex m s k ⟨⟨_,_,_,e1⟩,⟨_,_,_,e2⟩⟩ [rz] (by decide) YN w hB.rk).mono ?_;rintro e w' ⟨k',rfl,h1,_,hb⟩;exact⟨k',rfl,⟨TV,Pa,Sl _ TV,VO,hB.rm.below hb,hB.rs.below hb,h1⟩,hb⟩
theorem WW(hL:Laid w)(hB:cI ex m s k jO [] [rz,YN] w) :
  bm aq 50 #[aO (ex.cells m s k)] w fun e w'=>∃v,e=aC (cA #[v,ah ag 0])∧Reads w' v 2 ([0,1].map (aG ag))∧az w.heap.size w w':=by
 have h:=UQ ex m s k jO [] [rz,YN] w hL hB;have e:qy ex jO [] [rz,YN]=[0,1]:=by decide+kernel
 rw[e] at h;exact h
end
structure Yp(m:aj)(w:ar):Prop where
 own:fB ex m (ae none 0 0) (ae none 0 0) jO [] [] w
 pl:Plain w m
theorem QU{w:ar}(h0:1≤w.heap.size):bm aq 93 #[] w fun e w'=>∃m,e=aC (aO (ex.cells m (ae none 0 0) (ae none 0 0)))∧Yp m w'∧az w.heap.size w w':=by
 refine(Lc w).mono ?_;rintro e w' ⟨g,c,rfl,hr,hg,hge,hb⟩;refine⟨_,rfl,⟨⟨⟨TV,Pa,Sl _ TV,⟨by simp,by simp⟩,hr,cF ⟨rfl,rfl,rfl⟩,cF ⟨rfl,rfl,rfl⟩⟩,fun g' h'=>?_,fun g' h'=>(by cases h'),fun g' h'=>(by cases h')⟩,fun g' h'=>?_⟩,hb⟩
 ·obtain rfl:g=g':=bg h';exact⟨_,hg⟩
 ·obtain rfl:g=g':=bg h';refine⟨by omega,_,_,_,hg,fun u hu=>?_⟩;simp only[dS,jO,List.flatMap_cons,List.flatMap_nil,List.append_nil] at hu;simp at hu;rcases hu with rfl|rfl|rfl|rfl|rfl|rfl
  ·exact .inr ⟨_,rfl⟩
  ·exact cF ⟨_,_,rfl⟩
  ·exact cF ⟨_,_,rfl⟩
  ·exact .inr ⟨_,rfl⟩
  ·exact cF ⟨_,_,rfl⟩
end Go.Proofs.YtffladgmkiimjaaGreatDoor
