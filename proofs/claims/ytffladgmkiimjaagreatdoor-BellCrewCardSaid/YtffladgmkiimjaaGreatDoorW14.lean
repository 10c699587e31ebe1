/- LONE WALKS: Good (44). LONE WALKS: Bad (63). Regions beside leavers; f .. -/
import Derived.Test.YtffladgmkiimjaaGreatDoorW13
import Derived.WalkMore
import Derived.Test.YtffladgmkiimjaaGreatDoorW01
import Derived.Test.YtffladgmkiimjaaGreatDoorW12
import Derived.Test.YtffladgmkiimjaaGreatDoorW02
import Derived.Test.YtffladgmkiimjaaGreatDoorW05
import Derived.Test.YtffladgmkiimjaaGreatDoorW04
set_option linter.all false
set_option maxHeartbeats 100000000
set_option maxRecDepth 1000000
open Array renaming replicate → aV,getElem?_eq_some_iff → ak
open Go renaming Program → aI,Value → aj,World → ar,Oper → cy,Tmp → kr
open Go.Ending renaming returned → aC
open Go.IntKind renaming i64 → ag
open Go.Lib renaming hid → ai
open Go.Obj renaming cells → au
open Go.Operand renaming tmp → aJ
open Go.Proofs.Tryz renaming prog → aq
open Go.RowKit renaming Below → az
open Go.RowKit.Below renaming refl → aw
open Go.Value renaming int → aG,agg → aO,slice → ae,int → ah,tuple → cA,oneCell' → cu
open Go.World renaming alloc_heap_new → ay
open List renaming range → aT,mem_append → bG,getElem_mem → bO,range' → bV,take_succ_eq_append_getElem → bZ,mem_range → bt,length_pos_iff → cQ,take_of_length_le → cS,getD_cons_zero → fS,getD_cons_succ → fT,map → nA
open List.range renaming loop → bT
open Nat renaming le_refl → ax
open Option.some renaming inj → bg
open Prod.mk renaming injEq → iB
namespace Go.Proofs.YtffladgmkiimjaaGreatDoor
open Go.RowKit Go.Lag
def kh(n L:Nat):Int:=if n=0 then 2 else if n=L then 1 else 0
def qW(b:BB)(all:List dT)(p:Nat):Nat:=all.countP fun a=>decide (b.bad (b.bM+a.used) p=0)
theorem Lq{α:Type}(f:α→Bool)(l:List α){k:Nat}(h:k<l.length):(l.take (k+1)).countP f=(l.take k).countP f+(if f l[k] then 1 else 0):=by
 rw[bZ h,List.countP_append,List.countP_singleton]
theorem Db(b:BB)(men sent marks:aj)(ml:List Mn)(ss:List Int)(ms:List Mk)(w:ar)(hL:Laid w)(hB:cI b men sent marks ml ss ms w)(hne:aX b ml ss ms≠[])(pl:List Int)(hp:fj b pl)(lv:aj)(hl:Reads w lv pl.length (pl.map (aG ag))) :
  Calls aq 44 #[aO (b.cells men sent marks),lv] w fun e w'=>e=aC (cA #[ah ag (kh (qW b (aX b ml ss ms) (bE pl)) (aX b ml ss ms).length),ah ag 0])∧az w.heap.size w w':=by
 have hlen:=ju ss ms hB.ok hB.gX;have jJ:0<(aX b ml ss ms).length:=cQ.2 hne;have cN:=hB.ok;have hao:=nT (ss:=ss) (ms:=ms) hB.ok hB.gX;have Ay:=cN.minutes;have o6:∀s∈pl,1≤s∧s≤8:=fun s h=>by have:=hp.mem s h;omega
 have Qy:bE pl<512:=mU pl o6;obtain⟨pm,cm,rfl,_⟩:=aR hB.rm;obtain⟨pn,cn,rfl,_⟩:=aR hB.rs;obtain⟨pk,ck,rfl,_⟩:=aR hB.rk;obtain⟨qi,qw,rfl,_⟩:=aR hl;have b1:az w.heap.size w (w.alloc (au (b.cells (ae pm ml.length cm) (ae pn ss.length cn) (ae pk ms.length ck)) 28)):=(aw _ _).alloc (ax _) _;have hk:=ay w (au (b.cells (ae pm ml.length cm) (ae pn ss.length cn) (ae pk ms.length ck)) 28)
 have UF:Hid (∀W cp,az w.heap.size w W→W.heap[cp]?=some (au #[ae qi pl.length qw] 25 (0,0))→Calls aq 103 #[aO (b.cells (ae pm ml.length cm) (ae pn ss.length cn) (ae pk ms.length ck)),.func (.func 164) #[] #[pv cp 0]] W fun e w'=>∃v,e=aC (cA #[aO (b.open (ae pm ml.length cm) (ae pn ss.length cn) (ae pk ms.length ck) v),ah ag 0])∧gP w' W.heap.size v (aX b ml ss ms)∧az W.heap.size W w'):=
  ai fun W cp JE Ty=>CQ b _ _ _ ml ss ms W (hL.below JE) (hB.below JE) hne cp fun W' hb'=>by
   have hlt:=(ak.1 Ty).1;exact C8 b cN _ _ _ pl hp cp _ W' ((hb'.block _ hlt).trans Ty) ((hl.below JE).below hb')
 have JG:=ai hl;have Rv:=ai hao;have Xo:=ai o6;clear hL hB hl hao hp o6;generalize aX b ml ss ms=all at *;generalize ml.length=lm at *;generalize ss.length=ln at *;generalize ms.length=lk at *
 go_enter Tryz.func44,Tryz.ntmps44
 go_wp2
 refine bQ (by kernel_rfl) [
 pV (aO (b.cells (ae pm lm cm) (ae pn ln cn) (ae pk lk ck))),
  pV (ae qi pl.length qw),
  fun v ds w9=>∃cp,v=.func (.func 164) #[] #[pv cp 0]∧w9.heap[cp]?=some (au #[ae qi pl.length qw] 25 (0,0)),
  fun v ds w9=>∃gv cv,v=cA #[aO (b.open (ae pm lm cm) (ae pn ln cn) (ae pk lk ck) (ae (some ⟨gv,0,none⟩) all.length cv)),ah ag 0]∧gP w9 w.heap.size (ae (some ⟨gv,0,none⟩) all.length cv) all,
  fun v ds w9=>∃gv cv,v=cA #[aO (b.open (ae pm lm cm) (ae pn ln cn) (ae pk lk ck) (ae (some ⟨gv,0,none⟩) all.length cv)),ah ag 0]∧gP w9 w.heap.size (ae (some ⟨gv,0,none⟩) all.length cv) all,
  fun v ds w9=>∃gv cv,v=aO (b.open (ae pm lm cm) (ae pn ln cn) (ae pk lk ck) (ae (some ⟨gv,0,none⟩) all.length cv))∧gP w9 w.heap.size (ae (some ⟨gv,0,none⟩) all.length cv) all,
  pV (ah ag 0),
  fun v ds w9=>∃k,∃z:Array aj,v=pv k 0∧w.heap.size+1≤k∧w9.heap[k]?=some (au z 122 (0,0))∧z.size=16,
  fun v ds w9=>∃k gv cv,ds[0]?=some (pv k 0)∧w.heap.size+1≤k∧w9.heap[k]?=some (au (b.open (ae pm lm cm) (ae pn ln cn) (ae pk lk ck) (ae (some ⟨gv,0,none⟩) all.length cv)) 122 (0,0))∧gP w9 w.heap.size (ae (some ⟨gv,0,none⟩) all.length cv) all,
  pV (ah ag 0)]
  (fun w9=>w9.heap[w.heap.size]?=some (au (b.cells (ae pm lm cm) (ae pn ln cn) (ae pk lk ck)) 28 (0,0))∧az w.heap.size w w9) [(2,pv w.heap.size 0),(1,ae qi pl.length qw)] (by kernel_rfl) ?rst (fun w1 w2 h hb=>⟨(hb.block _ (ak.1 h.1).1).trans h.1,h.2.trans (hb.mono h.2.size)⟩) (⟨hk,b1.drew⟩) ⟨rfl,rfl,trivial⟩ ?reach ?rfin
 case rst=>
  refine⟨sV,sV,?_,?_,?_,?_,sV,?_,?_,sV,trivial⟩
  ·rintro v ds w1 w2 hS ⟨cp,h1,h2⟩ hb;exact⟨cp,h1,(hb.block _ (ak.1 h2).1).trans h2⟩
  ·rintro v ds w1 w2 hS ⟨gv,cv,h1,h2⟩ hb;exact⟨gv,cv,h1,h2.at_ fun g hg=>hb.block g (h2.1.lt g hg).2⟩
  ·rintro v ds w1 w2 hS ⟨gv,cv,h1,h2⟩ hb;exact⟨gv,cv,h1,h2.at_ fun g hg=>hb.block g (h2.1.lt g hg).2⟩
  ·rintro v ds w1 w2 hS ⟨gv,cv,h1,h2⟩ hb;exact⟨gv,cv,h1,h2.at_ fun g hg=>hb.block g (h2.1.lt g hg).2⟩
  ·rintro v ds w1 w2 hS ⟨k,z,h1,h2,h3,h4⟩ hb;exact⟨k,z,h1,h2,(hb.block _ (ak.1 h3).1).trans h3,h4⟩
  ·rintro v ds w1 w2 hS ⟨k,gv,cv,h1,h0,h3,h2⟩ hb;exact⟨k,gv,cv,h1,h0,(hb.block _ (ak.1 h3).1).trans h3,h2.at_ fun g hg=>hb.block g (h2.1.lt g hg).2⟩
 case reach=>
  refine⟨?_,?_,?_,?_,?_,?_,?_,?_,?_,?_,trivial⟩<;>rintro ev w1 hS hc hg hf ⟨b2,b1,-⟩ hd
  ·clear hd;obtain⟨x0,x1,x2,x3,x4,x5,x6,x7,x8,x9,nX,nW,oU,oh,oP⟩:=bN hS.1;exact tV
  ·clear hd;exact tV
  ·have d1:ev (aJ 13)=_:=hd.1 rfl;clear hd;refine Lag.Yields.call (f:=104) (args:=#[ae qi pl.length qw]) ?_ (Jn _ _ _ _) ?_
   ·go_simp
   ·rintro e w2 ⟨rfl,rfl⟩;exact⟨_,rfl,⟨_,rfl,ay _ _⟩,.inl ((aw _ _).alloc (ax _) _)⟩
  ·have d0:ev (aJ 12)=_:=hd.1 rfl;obtain⟨cp,Fs,ym⟩:=hd.2.1 rfl;clear hd;replace Fs:ev (aJ 14)=_:=Fs;refine Lag.Yields.call (f:=103) (args:=#[aO (b.cells (ae pm lm cm) (ae pn ln cn) (ae pk lk ck)),.func (.func 164) #[] #[pv cp 0]]) ?_ (UF.out w1 cp hS.2 ym) ?_
   ·go_simp
   ·rintro e w2 ⟨v,rfl,iY,hb⟩
    obtain⟨gv,cv,rfl⟩:∃gv cv,v=ae (some ⟨gv,0,none⟩) all.length cv:=by
     rcases iY.1.2 with⟨_,h0⟩|⟨g,cap,cur,rfl,_⟩
     ·omega
     ·exact⟨g,cap,rfl⟩
    exact⟨_,rfl,⟨gv,cv,rfl,iY.base hS.2.size⟩,.inl hb⟩
  ·exact yv rfl (hd.1 rfl)
  ·obtain⟨gv,cv,e11,iY⟩:=hd.1 rfl;clear hd;replace e11:ev (aJ 11)=_:=e11;refine yv ?_ (⟨gv,cv,rfl,iY⟩);go_simp
  ·obtain⟨gv,cv,e11,iY⟩:=hd.1 rfl;clear hd;replace e11:ev (aJ 11)=_:=e11;exact tV
  ·clear hd;refine Lag.Yields.value (v:=pv w1.heap.size 0) (w':=w1.alloc (au gW 122)) ?_ ⟨⟨_,_,rfl,(ak.1 hS.1).1,ay _ _,rfl⟩,.inl ((aw _ _).alloc (ax _) _)⟩;go_simp
  ·obtain⟨k,z,e6,qq,hk2,hz⟩:=hd.1 rfl;replace e6:ev (aJ 6)=_:=e6;obtain⟨gv,cv,Nw,iY⟩:=hd.2.1 rfl;clear hd;replace Nw:ev (aJ 16)=_:=Nw;have CY:∀g cs t,w1.heap[g]?=some (au cs t (0,0))→t≠122→g≠k:=by rintro g cs t h1 h2 rfl;rw[hk2] at h1;cases h1;exact h2 rfl
   have Eo:∀(v:aj),gP w1 w.heap.size v all→gP (w1.setRow k (b.open (ae pm lm cm) (ae pn ln cn) (ae pk lk ck) (ae (some ⟨gv,0,none⟩) all.length cv))) w.heap.size v all:=fun v ho=>ho.at_ fun g hg=>setRow_other (by
    obtain⟨cur,q1,_⟩:=ho.2 g hg
    exact CY g _ _ q1 (by decide))
   refine Lag.Yields.nI 122 _ _ rfl k _ e6 Nw 122 z hk2 (by kernel_rfl) hz (by simp[cu]) ⟨⟨k,gv,cv,congrArg some e6,qq,cV hk2,Eo _ iY⟩,.inr ⟨⟨(setRow_other (by omega)).trans hS.1,dA hS.2 (by omega)⟩,?_⟩⟩;intro j u ds hj hp
   match j,hp with
   |0,hp=>exact hp
   |1,hp=>exact hp
   |2,⟨cp,h1,h2⟩=>exact⟨cp,h1,(setRow_other (CY _ _ _ h2 (by decide))).trans h2⟩
   |3,⟨Ex,EH,h1,h2⟩=>exact⟨Ex,EH,h1,Eo _ h2⟩
   |4,⟨Ex,EH,h1,h2⟩=>exact⟨Ex,EH,h1,Eo _ h2⟩
   |5,⟨Ex,EH,h1,h2⟩=>exact⟨Ex,EH,h1,Eo _ h2⟩
   |6,hp=>exact hp
   |7,⟨k',z',h1,h2,h3,h4⟩=>
    by_cases sS:k'=k
    ·subst sS;exact⟨k',_,h1,h2,cV h3,rfl⟩
    ·exact⟨k',z',h1,h2,(setRow_other sS).trans h3,h4⟩
   |8,_=>exact(hj rfl).elim
   |9,hp=>exact hp
   |j+10,_=>trivial
  ·have d6:ev (aJ 17)=_:=hd.1 rfl;clear hd;refine yv (v:=ev (aJ 17)) ?_ (d6);rfl
 case rfin=>
  intro a2 w2 hR;have hS:=hR.s;obtain⟨k,gv,cv,T4,qq,hk2,iY⟩:=hR.val 8 (by decide);have e9:a2.tmps.getD 7 undef=_:=hR.val 9 (by decide);have ha:=hR.lits 46 rfl;simp only[aT,bT,nA] at ha;rw[hR.kp 1 (by kernel_rfl),hR.kp 2 (by kernel_rfl)] at ha;simp only[ko,fT,fS] at ha;clear hR;have e6:a2.tmps.getD 6 undef=pv k 0:=bg T4;rw[e6,e9] at ha;generalize a2.tmps.getD=zz at ha;clear e6 T4 e9;subst ha;have sA:=hS.1;have rD:=hS.2;clear hS;have Hq:=aH hk2 15 _ rfl;have vO:=iY.reads (by omega)
  have HC:Hid (∀j u,(rowOf all)[j]?=some u→w2.cell? ⟨gv,0+j,none⟩=some u):=ai (by
   rcases vO with⟨h0,_⟩|⟨g,off,cap,h0,_,_,h1⟩
   ·cases h0
   ·cases h0;exact h1)
  have BR:=(iY.1.lt gv rfl).2;have xI:=(ak.1 hk2).1;have HK:=ai hk2;have HB:=ai sA;have Ff:=ai rD;have L8:=ai iY;clear hk2 vO sA rD iY hk b1 UF;generalize hL:all.length=L at *;have HL:=ai hL;clear hL;go_wp2
  go_loopw [8,10,24] (fun n _ i wr=>∃j:Nat,j≤L∧i=ah ag j∧n=ah ag ((all.take j).countP fun a=>decide (b.bad (b.bM+a.used) (bE pl)=0):Nat)∧az w2.heap.size w2 wr) (fun _ _ i _=>L-(intOf i).toNat)
  case atStart=>exact⟨0,by omega,rfl,rfl,aw _ _⟩
  case round=>
   obtain⟨j,hj,rfl,rfl,dX⟩:=hrel;have hsz:=dX.size
   have hcj:(all.take j).countP (fun a=>decide (b.bad (b.bM+a.used) (bE pl)=0))≤j:=by
    refine Nat.le_trans List.countP_le_length ?_;rw[List.length_take];omega
   by_cases hlt:j<L
   ·have I4:j<all.length:=by rw[HL.out];exact hlt
    obtain⟨c0,c1,c2,c3⟩:=Reads.cell (w:=wr) (cap:=cv) (n:=L) (fun i u hi=>(dX.cell (p:=⟨gv,0+i,none⟩) BR).trans (HC.out i u hi)) j I4;simp only[Nat.zero_add] at c0 c1 c2 c3;have U2:(all.take (j+1)).countP (fun a=>decide (b.bad (b.bM+a.used) (bE pl)=0))=(all.take j).countP (fun a=>decide (b.bad (b.bM+a.used) (bE pl)=0))+(if b.bad (b.bM+all[j].used) (bE pl)=0 then 1 else 0):=by rw[Lq _ all I4];simp
    have TC:=fun W=>Jp b cN (ae pm lm cm) (ae pn ln cn) (ae pk lk ck) all[j] (Rv.out _ (bO I4)) (bE pl) Qy W;have Ma:=ai U2;have HBa:=ai TC;have wZ:=ai dX
    have F9:Hid (∀w9,az (wr.alloc (au all[j].cells 134)).heap.size (wr.alloc (au all[j].cells 134)) w9→w9.heap[k]?=some (au (b.open (ae pm lm cm) (ae pn ln cn) (ae pk lk ck) (ae (some ⟨gv,0,none⟩) L cv)) 122 (0,0))∧w9.heap[wr.heap.size]?=some (au all[j].cells 134 (0,0))∧Reads w9 (ae qi pl.length qw) pl.length (pl.map (aG ag))):=ai fun w9 Nn=>by
     have hs:(wr.alloc (au all[j].cells 134)).heap.size=wr.heap.size+1:=by simp
     have hb0:az wr.heap.size wr (wr.alloc (au all[j].cells 134)):=(aw _ _).alloc (ax _) _;have zX:=Ff.out.size;exact⟨(Nn.block _ (by omega)).trans ((hb0.block _ (by omega)).trans ((dX.block _ xI).trans HK.out)),(Nn.block _ (by omega)).trans (ay wr _),JG.out.below (Ff.out.trans ((dX.mono zX).trans ((hb0.mono (by omega)).trans (Nn.mono (by omega)))))⟩
    clear U2 TC dX;generalize all[j]=a at *;generalize zm:b.bad (b.bM+a.used) (bE pl)=bd at *;obtain⟨r,hr⟩:∃r,(bd==0)=r:=⟨_,rfl⟩
    go_wp2
    refine bQ (by kernel_rfl) [
    pV (pv k 0),
     pV (aO (b.cells (ae pm lm cm) (ae pn ln cn) (ae pk lk ck))),
     pV (aO a.cells),
     pV (ae qi pl.length qw),
     pV (ah ag (bE pl)),
     pV (ah ag bd),
     pV (.bool r)]
     (fun w9=>az (wr.alloc (au a.cells 134)).heap.size (wr.alloc (au a.cells 134)) w9) [(1,ae qi pl.length qw),(6,pv k 0),(10,pv wr.heap.size 0)] (by kernel_rfl) ?rst (fun w1 w2 h hb=>h.trans (hb.mono h.size)) ((aw _ _).drew) ⟨rfl,rfl,rfl,trivial⟩ ?reach ?rfin
    case rst=>
     refine⟨sV,sV,sV,sV,sV,sV,sV,trivial⟩
    case reach=>
     refine⟨?_,?_,?_,?_,?_,?_,?_,trivial⟩<;>rintro ev w1 hS hc hg hf ⟨b1,b6,Xc,-⟩ hd
     ·clear hd;exact tV
     ·have d0:ev (aJ 28)=_:=hd.1 rfl;clear hd;have q:=F9.out w1 hS;obtain⟨x0,x1,x2,x3,x4,x5,x6,x7,x8,x9,nX,nW,oU,oh,oP,x15⟩:=js q.1;exact tV
     ·clear hd;have q:=F9.out w1 hS;obtain⟨y0,y1,y2,y3⟩:=qc q.2.1;exact tV
     ·clear hd;exact tV
     ·have d3:ev (aJ 31)=_:=hd.1 rfl;clear hd;have q:=F9.out w1 hS;refine yq (args:=#[ae qi pl.length qw]) (kW pl Xo.out _ _ q.2.2) ?_ fun _=>rfl;go_simp
     ·have d1:ev (aJ 29)=_:=hd.1 rfl;have d2:ev (aJ 30)=_:=hd.2.1 rfl;have d4:ev (aJ 32)=_:=hd.2.2.1 rfl;clear hd;refine yc (HBa.out w1) ?_ fun _=>rfl;go_simp
     ·have d5:ev (aJ 33)=_:=hd.1 rfl;clear hd;exact tV
    case rfin=>
     intro a3 w3 hR;have hS:=hR.s;have e6:a3.tmps.getD 34 undef=_:=hR.val 6 (by decide);have ha:=hR.lits 46 rfl;simp only[aT,bT,nA] at ha;rw[hR.kp 0 (by kernel_rfl),hR.kp 1 (by kernel_rfl),hR.kp 2 (by kernel_rfl),hR.kp 3 (by kernel_rfl),hR.kp 4 (by kernel_rfl),hR.kp 5 (by kernel_rfl),hR.kp 6 (by kernel_rfl),hR.kp 7 (by kernel_rfl),hR.kp 8 (by kernel_rfl),hR.kp 9 (by kernel_rfl),hR.kp 11 (by kernel_rfl),hR.kp 12 (by kernel_rfl),hR.kp 13 (by kernel_rfl),hR.kp 14 (by kernel_rfl),hR.kp 15 (by kernel_rfl),hR.kp 16 (by kernel_rfl),hR.kp 17 (by kernel_rfl),hR.kp 18 (by kernel_rfl),hR.kp 19 (by kernel_rfl),hR.kp 20 (by kernel_rfl),hR.kp 21 (by kernel_rfl),hR.kp 22 (by kernel_rfl),hR.kp 23 (by kernel_rfl),hR.kp 24 (by kernel_rfl),hR.kp 38 (by kernel_rfl),hR.kp 39 (by kernel_rfl),hR.kp 40 (by kernel_rfl),hR.kp 41 (by kernel_rfl),hR.kp 42 (by kernel_rfl),hR.kp 43 (by kernel_rfl),hR.kp 44 (by kernel_rfl),hR.kp 45 (by kernel_rfl)] at ha;simp only[ko,fT,fS] at ha;clear hR;rw[e6] at ha;generalize a3.tmps.getD=zz at ha;have pw:=ai hS;clear e6 hS;subst ha;have hwr:az w2.heap.size wr w3:=((aw _ wr).alloc hsz _).trans (pw.out.mono (by simp;omega));have HWr:=ai hwr;clear hwr;generalize hc0:List.countP (fun a=>decide (b.bad (b.bM+a.used) (bE pl)=0)) (List.take j all)=cn0 at *;have HC0:=ai hc0;clear hc0;cases r
     ·go_wp2;go_roundw
      case rel=>
       refine⟨j+1,by omega,by simp,?_,wZ.out.trans HWr.out⟩;rw[Ma.out,if_neg (by intro h;rw[h] at hr;cases hr)];simp
      case measure=>simp[intOf];omega
     ·go_wp2;go_roundw
      case rel=>
       refine⟨j+1,by omega,by simp,?_,wZ.out.trans HWr.out⟩;rw[Ma.out,if_pos (by simpa using hr)];simp
      case measure=>simp[intOf];omega
   ·obtain rfl:j=L:=by omega
    have M9:all.take j=all:=cS (by rw[HL.out];exact ax _);have hgn:(all.take j).countP (fun a=>decide (b.bad (b.bM+a.used) (bE pl)=0))=qW b all (bE pl):=by rw[M9];rfl
    obtain⟨gn,Er⟩:∃gn,qW b all (bE pl)=gn:=⟨_,rfl⟩
    rw[hgn,Er] at hcj;rw[hgn,Er];have HGn:=ai Er;clear Er;have wZ:=ai dX;have z15:=aH ((dX.block _ xI).trans HK.out) 15 _ rfl;clear hgn M9 dX;have pE:az w.heap.size w wr:=Ff.out.trans (wZ.out.mono Ff.out.size);have UG:=ai pE;clear pE
    by_cases h0:gn=0
    ·subst h0;have HQ:Hid (kh 0 j=2):=ai (by simp[kh]);go_wp2;go_ret2;exact⟨by rw[HGn.out,HL.out,HQ.out];rfl,UG.out⟩
    ·have g0:((gn:Int)==0)=false:=by simp;omega
     by_cases h1:gn=j
     ·subst h1;have HQ:Hid (kh gn gn=1):=ai (by simp[kh,h0]);go_wp2;go_ret2;exact⟨by rw[HGn.out,HL.out,HQ.out];rfl,UG.out⟩
     ·have g1:((gn:Int)==(j:Int))=false:=by simp;omega
      have HQ:Hid (kh gn j=0):=ai (by simp[kh,h0,h1]);go_wp2;go_ret2;exact⟨by rw[HGn.out,HL.out,HQ.out];rfl,UG.out⟩
def C9(b:BB)(p:Nat)(s:Int × Bool)(a:dT):Int × Bool:=
 if b.bad (b.bM+a.used) p=0 then s else if s.2=false∨b.bad (b.bM+a.used) p<s.1 then(b.bad (b.bM+a.used) p,true) else s
def uk(b:BB)(all:List dT)(p:Nat):Int × Bool:=all.foldl (C9 b p) (0,false)
theorem NS(b:BB)(all:List dT)(p:Nat){j:Nat}(h:j<all.length):uk b (all.take (j+1)) p=C9 b p (uk b (all.take j) p) all[j]:=by
 unfold uk;rw[bZ h,List.foldl_append];rfl
theorem aaQ(b:BB)(men sent marks:aj)(ml:List Mn)(ss:List Int)(ms:List Mk)(w:ar)(hL:Laid w)(hB:cI b men sent marks ml ss ms w)(hne:aX b ml ss ms≠[])(pl:List Int)(hp:fj b pl)(lv:aj)(hl:Reads w lv pl.length (pl.map (aG ag))) :
  Calls aq 63 #[aO (b.cells men sent marks),lv] w fun e w'=>e=aC (cA #[ah ag (uk b (aX b ml ss ms) (bE pl)).1,.bool (uk b (aX b ml ss ms) (bE pl)).2,ah ag 0])∧az w.heap.size w w':=by
 have hlen:=ju ss ms hB.ok hB.gX;have jJ:0<(aX b ml ss ms).length:=cQ.2 hne;have cN:=hB.ok;have hao:=nT (ss:=ss) (ms:=ms) hB.ok hB.gX;have Ay:=cN.minutes;have o6:∀s∈pl,1≤s∧s≤8:=fun s h=>by have:=hp.mem s h;omega
 have Qy:bE pl<512:=mU pl o6;obtain⟨pm,cm,rfl,_⟩:=aR hB.rm;obtain⟨pn,cn,rfl,_⟩:=aR hB.rs;obtain⟨pk,ck,rfl,_⟩:=aR hB.rk;obtain⟨qi,qw,rfl,_⟩:=aR hl;have b1:az w.heap.size w (w.alloc (au (b.cells (ae pm ml.length cm) (ae pn ss.length cn) (ae pk ms.length ck)) 28)):=(aw _ _).alloc (ax _) _;have hk:=ay w (au (b.cells (ae pm ml.length cm) (ae pn ss.length cn) (ae pk ms.length ck)) 28)
 have UF:Hid (∀W cp,az w.heap.size w W→W.heap[cp]?=some (au #[ae qi pl.length qw] 25 (0,0))→Calls aq 103 #[aO (b.cells (ae pm ml.length cm) (ae pn ss.length cn) (ae pk ms.length ck)),.func (.func 164) #[] #[pv cp 0]] W fun e w'=>∃v,e=aC (cA #[aO (b.open (ae pm ml.length cm) (ae pn ss.length cn) (ae pk ms.length ck) v),ah ag 0])∧gP w' W.heap.size v (aX b ml ss ms)∧az W.heap.size W w'):=
  ai fun W cp JE Ty=>CQ b _ _ _ ml ss ms W (hL.below JE) (hB.below JE) hne cp fun W' hb'=>by
   have hlt:=(ak.1 Ty).1;exact C8 b cN _ _ _ pl hp cp _ W' ((hb'.block _ hlt).trans Ty) ((hl.below JE).below hb')
 have JG:=ai hl;have Rv:=ai hao;have Xo:=ai o6;clear hL hB hl hao hp o6;generalize aX b ml ss ms=all at *;generalize ml.length=lm at *;generalize ss.length=ln at *;generalize ms.length=lk at *
 go_enter Tryz.func63,Tryz.ntmps63
 go_wp2;refine wp_scope_straight ?_;go_wp2
 refine bQ (by kernel_rfl) [
 pV (aO (b.cells (ae pm lm cm) (ae pn ln cn) (ae pk lk ck))),
  pV (ae qi pl.length qw),
  fun v ds w9=>∃cp,v=.func (.func 164) #[] #[pv cp 0]∧w9.heap[cp]?=some (au #[ae qi pl.length qw] 25 (0,0)),
  fun v ds w9=>∃gv cv,v=cA #[aO (b.open (ae pm lm cm) (ae pn ln cn) (ae pk lk ck) (ae (some ⟨gv,0,none⟩) all.length cv)),ah ag 0]∧gP w9 w.heap.size (ae (some ⟨gv,0,none⟩) all.length cv) all,
  fun v ds w9=>∃gv cv,v=cA #[aO (b.open (ae pm lm cm) (ae pn ln cn) (ae pk lk ck) (ae (some ⟨gv,0,none⟩) all.length cv)),ah ag 0]∧gP w9 w.heap.size (ae (some ⟨gv,0,none⟩) all.length cv) all,
  fun v ds w9=>∃gv cv,v=aO (b.open (ae pm lm cm) (ae pn ln cn) (ae pk lk ck) (ae (some ⟨gv,0,none⟩) all.length cv))∧gP w9 w.heap.size (ae (some ⟨gv,0,none⟩) all.length cv) all,
  pV (ah ag 0),
  fun v ds w9=>∃k,∃z:Array aj,v=pv k 0∧w.heap.size+1≤k∧w9.heap[k]?=some (au z 122 (0,0))∧z.size=16,
  fun v ds w9=>∃k gv cv,ds[0]?=some (pv k 0)∧w.heap.size+1≤k∧w9.heap[k]?=some (au (b.open (ae pm lm cm) (ae pn ln cn) (ae pk lk ck) (ae (some ⟨gv,0,none⟩) all.length cv)) 122 (0,0))∧gP w9 w.heap.size (ae (some ⟨gv,0,none⟩) all.length cv) all,
  pV (ah ag 0)]
  (fun w9=>w9.heap[w.heap.size]?=some (au (b.cells (ae pm lm cm) (ae pn ln cn) (ae pk lk ck)) 28 (0,0))∧az w.heap.size w w9) [(2,pv w.heap.size 0),(1,ae qi pl.length qw)] (by kernel_rfl) ?rst (fun w1 w2 h hb=>⟨(hb.block _ (ak.1 h.1).1).trans h.1,h.2.trans (hb.mono h.2.size)⟩) (⟨hk,b1.drew⟩) ⟨rfl,rfl,trivial⟩ ?reach ?rfin
 case rst=>
  refine⟨sV,sV,?_,?_,?_,?_,sV,?_,?_,sV,trivial⟩
  ·rintro v ds w1 w2 hS ⟨cp,h1,h2⟩ hb;exact⟨cp,h1,(hb.block _ (ak.1 h2).1).trans h2⟩
  ·rintro v ds w1 w2 hS ⟨gv,cv,h1,h2⟩ hb;exact⟨gv,cv,h1,h2.at_ fun g hg=>hb.block g (h2.1.lt g hg).2⟩
  ·rintro v ds w1 w2 hS ⟨gv,cv,h1,h2⟩ hb;exact⟨gv,cv,h1,h2.at_ fun g hg=>hb.block g (h2.1.lt g hg).2⟩
  ·rintro v ds w1 w2 hS ⟨gv,cv,h1,h2⟩ hb;exact⟨gv,cv,h1,h2.at_ fun g hg=>hb.block g (h2.1.lt g hg).2⟩
  ·rintro v ds w1 w2 hS ⟨k,z,h1,h2,h3,h4⟩ hb;exact⟨k,z,h1,h2,(hb.block _ (ak.1 h3).1).trans h3,h4⟩
  ·rintro v ds w1 w2 hS ⟨k,gv,cv,h1,h0,h3,h2⟩ hb;exact⟨k,gv,cv,h1,h0,(hb.block _ (ak.1 h3).1).trans h3,h2.at_ fun g hg=>hb.block g (h2.1.lt g hg).2⟩
 case reach=>
  refine⟨?_,?_,?_,?_,?_,?_,?_,?_,?_,?_,trivial⟩<;>rintro ev w1 hS hc hg hf ⟨b2,b1,-⟩ hd
  ·clear hd;obtain⟨x0,x1,x2,x3,x4,x5,x6,x7,x8,x9,nX,nW,oU,oh,oP⟩:=bN hS.1;exact tV
  ·clear hd;exact tV
  ·have d1:ev (aJ 13)=_:=hd.1 rfl;clear hd;refine Lag.Yields.call (f:=104) (args:=#[ae qi pl.length qw]) ?_ (Jn _ _ _ _) ?_
   ·go_simp
   ·rintro e w2 ⟨rfl,rfl⟩;exact⟨_,rfl,⟨_,rfl,ay _ _⟩,.inl ((aw _ _).alloc (ax _) _)⟩
  ·have d0:ev (aJ 12)=_:=hd.1 rfl;obtain⟨cp,Fs,ym⟩:=hd.2.1 rfl;clear hd;replace Fs:ev (aJ 14)=_:=Fs;refine Lag.Yields.call (f:=103) (args:=#[aO (b.cells (ae pm lm cm) (ae pn ln cn) (ae pk lk ck)),.func (.func 164) #[] #[pv cp 0]]) ?_ (UF.out w1 cp hS.2 ym) ?_
   ·go_simp
   ·rintro e w2 ⟨v,rfl,iY,hb⟩
    obtain⟨gv,cv,rfl⟩:∃gv cv,v=ae (some ⟨gv,0,none⟩) all.length cv:=by
     rcases iY.1.2 with⟨_,h0⟩|⟨g,cap,cur,rfl,_⟩
     ·omega
     ·exact⟨g,cap,rfl⟩
    exact⟨_,rfl,⟨gv,cv,rfl,iY.base hS.2.size⟩,.inl hb⟩
  ·exact yv rfl (hd.1 rfl)
  ·obtain⟨gv,cv,e11,iY⟩:=hd.1 rfl;clear hd;replace e11:ev (aJ 11)=_:=e11;refine yv ?_ (⟨gv,cv,rfl,iY⟩);go_simp
  ·obtain⟨gv,cv,e11,iY⟩:=hd.1 rfl;clear hd;replace e11:ev (aJ 11)=_:=e11;exact tV
  ·clear hd;refine Lag.Yields.value (v:=pv w1.heap.size 0) (w':=w1.alloc (au gW 122)) ?_ ⟨⟨_,_,rfl,(ak.1 hS.1).1,ay _ _,rfl⟩,.inl ((aw _ _).alloc (ax _) _)⟩;go_simp
  ·obtain⟨k,z,e6,qq,hk2,hz⟩:=hd.1 rfl;replace e6:ev (aJ 7)=_:=e6;obtain⟨gv,cv,Nw,iY⟩:=hd.2.1 rfl;clear hd;replace Nw:ev (aJ 16)=_:=Nw;have CY:∀g cs t,w1.heap[g]?=some (au cs t (0,0))→t≠122→g≠k:=by rintro g cs t h1 h2 rfl;rw[hk2] at h1;cases h1;exact h2 rfl
   have Eo:∀(v:aj),gP w1 w.heap.size v all→gP (w1.setRow k (b.open (ae pm lm cm) (ae pn ln cn) (ae pk lk ck) (ae (some ⟨gv,0,none⟩) all.length cv))) w.heap.size v all:=fun v ho=>ho.at_ fun g hg=>setRow_other (by
    obtain⟨cur,q1,_⟩:=ho.2 g hg
    exact CY g _ _ q1 (by decide))
   refine Lag.Yields.nI 122 _ _ rfl k _ e6 Nw 122 z hk2 (by kernel_rfl) hz (by simp[cu]) ⟨⟨k,gv,cv,congrArg some e6,qq,cV hk2,Eo _ iY⟩,.inr ⟨⟨(setRow_other (by omega)).trans hS.1,dA hS.2 (by omega)⟩,?_⟩⟩;intro j u ds hj hp
   match j,hp with
   |0,hp=>exact hp
   |1,hp=>exact hp
   |2,⟨cp,h1,h2⟩=>exact⟨cp,h1,(setRow_other (CY _ _ _ h2 (by decide))).trans h2⟩
   |3,⟨Ex,EH,h1,h2⟩=>exact⟨Ex,EH,h1,Eo _ h2⟩
   |4,⟨Ex,EH,h1,h2⟩=>exact⟨Ex,EH,h1,Eo _ h2⟩
   |5,⟨Ex,EH,h1,h2⟩=>exact⟨Ex,EH,h1,Eo _ h2⟩
   |6,hp=>exact hp
   |7,⟨k',z',h1,h2,h3,h4⟩=>
    by_cases sS:k'=k
    ·subst sS;exact⟨k',_,h1,h2,cV h3,rfl⟩
    ·exact⟨k',z',h1,h2,(setRow_other sS).trans h3,h4⟩
   |8,_=>exact(hj rfl).elim
   |9,hp=>exact hp
   |j+10,_=>trivial
  ·have d6:ev (aJ 17)=_:=hd.1 rfl;clear hd;refine yv (v:=ev (aJ 17)) ?_ (d6);rfl
 case rfin=>
  intro a2 w2 hR;have hS:=hR.s;obtain⟨k,gv,cv,T4,qq,hk2,iY⟩:=hR.val 8 (by decide);have e9:a2.tmps.getD 6 undef=_:=hR.val 9 (by decide);have ha:=hR.lits 47 rfl;simp only[aT,bT,nA] at ha;rw[hR.kp 1 (by kernel_rfl),hR.kp 2 (by kernel_rfl),hR.kp 4 (by kernel_rfl),hR.kp 5 (by kernel_rfl)] at ha;simp only[ko,fT,fS] at ha;clear hR;have e6:a2.tmps.getD 7 undef=pv k 0:=bg T4;rw[e6,e9] at ha;generalize a2.tmps.getD=zz at ha;clear e6 T4 e9;subst ha;have sA:=hS.1;have rD:=hS.2;clear hS;have Hq:=aH hk2 15 _ rfl;have vO:=iY.reads (by omega)
  have HC:Hid (∀j u,(rowOf all)[j]?=some u→w2.cell? ⟨gv,0+j,none⟩=some u):=ai (by
   rcases vO with⟨h0,_⟩|⟨g,off,cap,h0,_,_,h1⟩
   ·cases h0
   ·cases h0;exact h1)
  have BR:=(iY.1.lt gv rfl).2;have xI:=(ak.1 hk2).1;have HK:=ai hk2;have HB:=ai sA;have Ff:=ai rD;have L8:=ai iY;clear hk2 vO sA rD iY hk b1 UF;generalize hL:all.length=L at *;have HL:=ai hL;clear hL;go_wp2;refine wp_label ?_;go_wp2
  go_loopw [4,5,9,10,24] (fun m f _ _ i wr=>∃j:Nat,j≤L∧i=ah ag j∧m=ah ag (uk b (all.take j) (bE pl)).1∧f=.bool (uk b (all.take j) (bE pl)).2∧az w2.heap.size w2 wr) (fun _ _ _ _ i _=>L-(intOf i).toNat)
  case atStart=>exact⟨0,by omega,rfl,rfl,rfl,aw _ _⟩
  case round=>
   obtain⟨j,hj,rfl,rfl,rfl,dX⟩:=hrel;have hsz:=dX.size
   by_cases hlt:j<L
   ·have I4:j<all.length:=by rw[HL.out];exact hlt
    obtain⟨c0,c1,c2,c3⟩:=Reads.cell (w:=wr) (cap:=cv) (n:=L) (fun i u hi=>(dX.cell (p:=⟨gv,0+i,none⟩) BR).trans (HC.out i u hi)) j I4;simp only[Nat.zero_add] at c0 c1 c2 c3;have U2:uk b (all.take (j+1)) (bE pl)=C9 b (bE pl) (uk b (all.take j) (bE pl)) all[j]:=NS b all (bE pl) I4;have TC:=fun W=>Jp b cN (ae pm lm cm) (ae pn ln cn) (ae pk lk ck) all[j] (Rv.out _ (bO I4)) (bE pl) Qy W;have HBa:=ai TC;have wZ:=ai dX
    have F9:Hid (∀w9,az (wr.alloc (au all[j].cells 134)).heap.size (wr.alloc (au all[j].cells 134)) w9→w9.heap[k]?=some (au (b.open (ae pm lm cm) (ae pn ln cn) (ae pk lk ck) (ae (some ⟨gv,0,none⟩) L cv)) 122 (0,0))∧w9.heap[wr.heap.size]?=some (au all[j].cells 134 (0,0))∧Reads w9 (ae qi pl.length qw) pl.length (pl.map (aG ag))):=ai fun w9 Nn=>by
     have hs:(wr.alloc (au all[j].cells 134)).heap.size=wr.heap.size+1:=by simp
     have hb0:az wr.heap.size wr (wr.alloc (au all[j].cells 134)):=(aw _ _).alloc (ax _) _;have zX:=Ff.out.size;exact⟨(Nn.block _ (by omega)).trans ((hb0.block _ (by omega)).trans ((dX.block _ xI).trans HK.out)),(Nn.block _ (by omega)).trans (ay wr _),JG.out.below (Ff.out.trans ((dX.mono zX).trans ((hb0.mono (by omega)).trans (Nn.mono (by omega)))))⟩
    unfold C9 at U2;clear TC dX;generalize all[j]=a at *;generalize zm:b.bad (b.bM+a.used) (bE pl)=bd at *;generalize uk b (all.take j) (bE pl)=s at *;obtain⟨sm,sf⟩:=s;simp only[] at U2;have Ma:=ai U2;clear U2;simp only[];go_wp2
    refine bQ (by kernel_rfl) [
    pV (pv k 0),
     pV (aO (b.cells (ae pm lm cm) (ae pn ln cn) (ae pk lk ck))),
     pV (aO a.cells),
     pV (ae qi pl.length qw),
     pV (ah ag (bE pl)),
     pV (ah ag bd),
     pV (ah ag bd)]
     (fun w9=>az (wr.alloc (au a.cells 134)).heap.size (wr.alloc (au a.cells 134)) w9) [(1,ae qi pl.length qw),(7,pv k 0),(9,pv wr.heap.size 0)] (by kernel_rfl) ?rst (fun w1 w2 h hb=>h.trans (hb.mono h.size)) ((aw _ _).drew) ⟨rfl,rfl,rfl,trivial⟩ ?reach ?rfin
    case rst=>
     refine⟨sV,sV,sV,sV,sV,sV,sV,trivial⟩
    case reach=>
     refine⟨?_,?_,?_,?_,?_,?_,?_,trivial⟩<;>rintro ev w1 hS hc hg hf ⟨b1,b7,b9,-⟩ hd
     ·clear hd;exact tV
     ·have d0:ev (aJ 28)=_:=hd.1 rfl;clear hd;have q:=F9.out w1 hS;obtain⟨x0,x1,x2,x3,x4,x5,x6,x7,x8,x9,nX,nW,oU,oh,oP,x15⟩:=js q.1;exact tV
     ·clear hd;have q:=F9.out w1 hS;obtain⟨y0,y1,y2,y3⟩:=qc q.2.1;exact tV
     ·clear hd;exact tV
     ·have d3:ev (aJ 31)=_:=hd.1 rfl;clear hd;have q:=F9.out w1 hS;refine yq (args:=#[ae qi pl.length qw]) (kW pl Xo.out _ _ q.2.2) ?_ fun _=>rfl;go_simp
     ·have d1:ev (aJ 29)=_:=hd.1 rfl;have d2:ev (aJ 30)=_:=hd.2.1 rfl;have d4:ev (aJ 32)=_:=hd.2.2.1 rfl;clear hd;refine yc (HBa.out w1) ?_ fun _=>rfl;go_simp
     ·have d5:ev (aJ 33)=_:=hd.1 rfl;clear hd;refine yv (v:=ev (aJ 33)) ?_ (d5);rfl
    case rfin=>
     intro a3 w3 hR;have hS:=hR.s;have e6:a3.tmps.getD 10 undef=_:=hR.val 6 (by decide);have ha:=hR.lits 47 rfl;simp only[aT,bT,nA] at ha;rw[hR.kp 0 (by kernel_rfl),hR.kp 1 (by kernel_rfl),hR.kp 2 (by kernel_rfl),hR.kp 3 (by kernel_rfl),hR.kp 4 (by kernel_rfl),hR.kp 5 (by kernel_rfl),hR.kp 6 (by kernel_rfl),hR.kp 7 (by kernel_rfl),hR.kp 8 (by kernel_rfl),hR.kp 11 (by kernel_rfl),hR.kp 12 (by kernel_rfl),hR.kp 13 (by kernel_rfl),hR.kp 14 (by kernel_rfl),hR.kp 15 (by kernel_rfl),hR.kp 16 (by kernel_rfl),hR.kp 17 (by kernel_rfl),hR.kp 18 (by kernel_rfl),hR.kp 19 (by kernel_rfl),hR.kp 20 (by kernel_rfl),hR.kp 21 (by kernel_rfl),hR.kp 22 (by kernel_rfl),hR.kp 23 (by kernel_rfl),hR.kp 24 (by kernel_rfl),hR.kp 45 (by kernel_rfl),hR.kp 46 (by kernel_rfl)] at ha;simp only[ko,fT,fS] at ha;clear hR;rw[e6] at ha;generalize a3.tmps.getD=zz at ha;have pw:=ai hS;clear e6 hS;subst ha;have hwr:az w2.heap.size wr w3:=((aw _ wr).alloc hsz _).trans (pw.out.mono (by simp;omega));have HWr:=ai hwr;clear hwr
     by_cases h0:bd=0
     ·have g0:(bd==0)=true:=by simpa using h0
      clear h0;have H0:Hid (bd=0):=ai (by simpa using g0);go_wp2;go_roundw
      case rel=>
       refine⟨j+1,by omega,by simp,?_,?_,wZ.out.trans HWr.out⟩
       ·rw[Ma.out];simp[H0.out]
       ·rw[Ma.out];simp[H0.out]
      case measure=>simp[intOf];omega
     ·have g0:(bd==0)=false:=by simpa using h0
      have H0:=ai h0;clear h0;cases sf
      ·go_wp2;go_roundw
       case rel=>
        refine⟨j+1,by omega,by simp,?_,?_,wZ.out.trans HWr.out⟩
        ·rw[Ma.out];simp[H0.out]
        ·rw[Ma.out];simp[H0.out]
       case measure=>simp[intOf];omega
      ·by_cases h1:bd<sm
       ·have H1:=ai h1;go_wp2;go_roundw
        case rel=>
         refine⟨j+1,by omega,by simp,?_,?_,wZ.out.trans HWr.out⟩
         ·rw[Ma.out];simp[H0.out,H1.out]
         ·rw[Ma.out];simp[H0.out,H1.out]
        case measure=>simp[intOf];omega
       ·have H1:=ai h1;go_wp2;go_roundw
        case rel=>
         refine⟨j+1,by omega,by simp,?_,?_,wZ.out.trans HWr.out⟩
         ·rw[Ma.out];simp[H0.out,H1.out]
         ·rw[Ma.out];simp[H0.out,H1.out]
        case measure=>simp[intOf];omega
   ·obtain rfl:j=L:=by omega
    have M9:all.take j=all:=cS (by rw[HL.out];exact ax _);obtain⟨s,hs⟩:∃s,uk b all (bE pl)=s:=⟨_,rfl⟩
    rw[M9,hs];have wZ:=ai dX;have RI:=ai hs;clear M9 dX hs;have pE:az w.heap.size w wr:=Ff.out.trans (wZ.out.mono Ff.out.size);have UG:=ai pE;clear pE;obtain⟨sm,sf⟩:=s;go_wp2
    (try simp only[Exit.inBlock,Exit.then,Exit.noGoto_ret])
    go_ret3
    exact⟨by rw[RI.out];rfl,UG.out⟩
end Go.Proofs.YtffladgmkiimjaaGreatDoor
namespace Go.Lag
open Go Go.RowKit Go.Conc Go.Proofs.YtffladgmkiimjaaGreatDoor
namespace Gd
section
variable{P:aI}{ops:Array cy}{Q:Exit→Act→ar→Prop}{Vs:List Pred}{S:ar→Prop}{base:List (kr × aj)}{n:Nat}
end
end Gd
theorem kg(W:ar)(τ:Nat→Question→Nat)(d:Nat):Old W (dx W τ d):=⟨rfl,rfl,ax _,fun _ _=>rfl⟩
section
variable{P:aI}{ops:Array cy}{Q:Exit→Act→ar→Prop}{n:Nat}
theorem Pd(T:Quiet P)(hm:P.follows .mixedOrders=true){id:Nat}{y:Code}{a0:Act}{W:ar}(hf:∀e a w,Q e a w→sB e=true)(Vs:List Pred)(base:List (kr × aj))(cN:jf ops n base=true)(hn:a0.tmps.size=n)(hbase:gH a0.eval base)(Ev:jl (Old W) Vs)
  (hE:Gd.Each (Yields P) ops Vs (Old W) base 0 ops.toList) (hy:∀a w,ja ops Vs (Old W) a0 (aV ops.size true) a w→nt P y Q a w):nt P (.seq (.region id ops true) y) Q a0 W:=
 nH T hf (fun a w=>ja ops Vs (Old W) a0 (aV ops.size true) a w) (fun τ d=>
  Gd.bQ hm Vs (Old W) base (by rw[hn];exact cN) Ev (fun _ _ h hb=>h.trans (Old.of_below hb)) ((kg W τ d).trans ⟨rfl,rfl,ax _,fun _ _=>rfl⟩) hbase hE fun a w h=>⟨rfl,h⟩) hy
theorem dO{R:Act→ar→Prop}(hf:∀e a w,Q e a w→sB e=true):∀e a w,Exit.then R Q e a w→sB e=true:=fun e a w h=>by cases e<;>first|rfl|exact hf _ a w h
theorem oq(T:Quiet P){a:Act}{W:ar}(hf:∀e a w,Q e a w→sB e=true)(h:∀τ d,Q .normal a (dx W τ d)):nt P .skip Q a W:=kO T hf fun τ d=>wp_skip (h τ d)
def Pm(P:aI)(o:cy)(ev:Operand→aj)(W:ar)(R:aj→ar→Prop):Prop:=
 ∃f args R2,(∀w,(execOp ev o).run P w=.ok (.enter f args) w)∧iV P f args W R2∧∀v W',R2 v W'→R v W'
def RZ(P:aI)(YX:Nat→Bool)(i:Nat):lM:=match YX i with|true=>Pm P|false=>Yields P
def UN(P:aI)(YX:Nat→Bool)(ops:Array cy)(Vs:List Pred)(S:ar→Prop)(base:List (kr × aj)):Nat→List cy→Prop
 |_,[]=>True
 |i,o::l=>Gd.Mm (RZ P YX i) ops Vs S base i o∧UN P YX ops Vs S base (i+1) l
theorem UN.get{YX:Nat→Bool}{Vs:List Pred}{S:ar→Prop}{base:List (kr × aj)}{i:Nat}{l:List cy}(h:UN P YX ops Vs S base i l){j:Nat}{o:cy}(hj:l[j]?=some o):Gd.Mm (RZ P YX (i+j)) ops Vs S base (i+j) o:=by
 induction l generalizing i j with
 |nil=>simp at hj
 |cons x l ih=>
  cases j with
  |zero=>simp at hj;subst hj;exact h.1
  |succ j=>have:=ih h.2 (j:=j) (by simpa using hj);rwa [Nat.add_assoc,Nat.add_comm 1 j] at this
def Xh(Vs:List Pred):Prop:=∀i u ds w w',fJ Vs i u ds w→Old w w'→fJ Vs i u ds w'
def tR:List Pred→Prop
 |[]=>True
 |V::l=>(∀u ds w w',V u ds w→Old w w'→V u ds w')∧tR l
theorem tR.all:∀ {Vs:List Pred},tR Vs→Xh Vs
 |[],_=>fun i u ds w w' h _=>trivial
 |V::l,h=>fun i u ds w w' hp ho=>by
  cases i with
  |zero=>exact h.1 u ds w w' hp ho
  |succ i=>exact tR.all h.2 i u ds w w' hp ho
theorem tR.below{S:ar→Prop}:∀ {Vs:List Pred},tR Vs→jl S Vs
 |[],_=>trivial
 |_::_,h=>⟨fun u ds w w' _ hv hb=>h.1 u ds w w' hv (Old.of_below hb),tR.below h.2⟩
end
section
variable{P:aI}{ops:Array cy}{Q:Exit→Act→ar→Prop}{n:Nat}
theorem Ac(T:Quiet P){a:Act}{W:ar}{c:Operand}{x y:Code}{t:Bool}(hc:a.eval c=.bool t)(h1:t=true→nt P x Q a W)(h2:t=false→nt P y Q a W):nt P (.cond c x y) Q a W:=by
 cases t
 ·exact ot T hc (h2 rfl)
 ·exact ot T hc (h1 rfl)
end
section
variable{P:aI}{ops:Array cy}{base:List (kr × aj)}{C:Cf}{n:Nat}{S:ar→Prop}{outs:List (kr × aj)}{Q:Exit→Act→ar→Prop}{s:Sem Next}{w:ar}{v:aj}
def UK(P:aI)(s:Sem Next)(w:ar)(v:aj):Prop:=∃f args R2,look P #[] s=some (.enter f args,[])∧iV P f args w R2∧∀v' W',R2 v' W'→v'=v∧Old w W'
theorem gv{f:FuncId}{args:Array aj}(h:iV P f args w fun u W'=>u=v∧Old w W')(he:look P #[] s=some (.enter f args,[]):=by kernel_rfl):UK P s w v:=⟨f,args,_,he,h,fun _ _ h=>h⟩
end
section
variable{P:aI}{ops:Array cy}{base:List (kr × aj)}{C:Cf}{n:Nat}{S:ar→Prop}{a0:Act}
variable{Q:Exit→Act→ar→Prop}
def YV(P:aI):lM:=fun o ev w R=>(∀τ d,Yields P o ev (dx w τ d) R)∨Pm P o ev w R
theorem OM(T:Quiet P):vZ ops (ey P ops Q) (YV P):=
 ⟨fun i rest o a w R ho hw hY hk=>by
  rcases hY with h|⟨f,args,R2,he,hc,h2⟩
  ·exact fR T ho hw fun τ d=>(h τ d).wp fun v w' hv=>hk v w' hv
  ·exact qN T ho hw he hc fun v W' _ hv=>hk v W' (h2 v W' hv),
 fun i rest o a w ho hw hk=>JL T ho (by simpa using hw) hk⟩
theorem dh(T:Quiet P)(i k m:Nat)(C:Cf)(outs:List (kr × aj)){dK:List (kr × aj)}{W:ar}(hF:jg n a0 base)(hF2:jg n a0 dK)(hm:nE (Old W) C.mem)(hh:RH P ops base C (fun _=>lZ P) (Old W) i C.hs)(hy:uH (fun l=>∀a w,Old W w→jg n a l→ey P ops Q (bV (i+k) m) a w) outs dK)(hr:yI P ops base C n dK i k outs=yH P ops base C i k outs:=by kernel_rfl):ey P ops Q (bV i (k+m)) a0 W:=
 Il (T:=Old) (OM T) (fun _ _ h hb=>h.trans hb) Old.refl (fun i _ s w v h=>gr h)
  (fun i o ev w v R hS hg hR=>.inl fun τ d=>(hg _ (hS.trans (kg w τ d))).yields fun w' hb=>hR w' ((kg w τ d).trans (Old.of_below hb))) hF hF2 hr (Old.refl _) hm hh hy
def GX(P:aI)(kv i:Nat):Sem Next→ar→aj→Prop:=match Nat.beq i kv with|true=>UK P|false=>lZ P
theorem Vy(T:Quiet P)(kv i k m:Nat)(C:Cf)(hkv:(lQ C.hs kv).isSome=true)(outs:List (kr × aj)){dK:List (kr × aj)}{W:ar}(hF:jg n a0 base)(hF2:jg n a0 dK)(hm:nE (Old W) C.mem)(hh:RH P ops base C (GX P kv) (Old W) i C.hs)(hy:uH (fun l=>∀a w,Old W w→jg n a l→ey P ops Q (bV (i+k) m) a w) outs dK)(hr:yI P ops base C n dK i k outs=yH P ops base C i k outs:=by kernel_rfl):ey P ops Q (bV i (k+m)) a0 W:=
 Il (T:=Old) (OM T) (fun _ _ h hb=>h.trans hb) Old.refl (fun i hi s w v h=>by
   unfold GX;cases hb:Nat.beq i kv with
   |true=>rw[Nat.eq_of_beq_eq_true hb] at hi;rw[hi] at hkv;cases hkv
   |false=>exact gr h)
  (fun i o ev w v R hS hg hR=>by
   unfold GX at hg;cases hb:Nat.beq i kv with
   |true=>
    simp only[hb] at hg;obtain⟨f,args,R2,h1,h2,h3⟩:=hg w hS;exact .inr ⟨f,args,R2,fun w9=>m5 h1 (by simp),h2,fun v' W' hv=>by obtain⟨rfl,ho⟩:=h3 v' W' hv;exact hR _ ho⟩
   |false=>
    simp only[hb] at hg
    exact .inl fun τ d=>(hg _ (hS.trans (kg w τ d))).yields fun w' hb=>hR w' ((kg w τ d).trans (Old.of_below hb))) hF hF2 hr (Old.refl _) hm hh hy
section
variable{id:Nat}{y:Code}{W:ar}{dK:List (kr × aj)}
theorem Yr(h:nt P y Q a0 W)(τ:Nat→Question→Nat)(d:Nat):nt P y Q a0 (dx W τ d):=(Vc (τ:=W.tape) (d:=W.drawn) h)
theorem kG(T:Quiet P){N:Nat}(hN:ops.size=N)(h:ey P ops (Exit.then (fun a w=>nt P y Q a w) Q) (bV 0 N) a0 W):nt P (.seq (.region id ops false) y) Q a0 W:=
 j7 T (sT T (by rw[List.range_eq_range',hN];exact h))
theorem kF(T:Quiet P)(hf:∀e a w,Q e a w→sB e=true){i:Nat}(h:nt P y Q a0 W):ey P ops (Exit.then (fun a w=>nt P y Q a w) Q) (bV i 0) a0 W:=
 qM T (dO hf) fun τ d=>Yr h τ d
theorem JF(T:Quiet P)(hf:∀e a w,Q e a w→sB e=true)(C:Cf)(outs:List (kr × aj))(hF:jg n a0 base)(hF2:jg n a0 dK)(hm:nE (Old W) C.mem)(hh:RH P ops base C (fun _=>lZ P) (Old W) 0 C.hs)(hy:uH (fun l=>∀a w,Old W w→jg n a l→nt P y Q a w) outs dK)(hr:yI P ops base C n dK 0 ops.size outs=yH P ops base C 0 ops.size outs:=by kernel_rfl):nt P (.seq (.region id ops false) y) Q a0 W:=
 kG T rfl (dh (hr:=hr) T 0 ops.size 0 C outs hF hF2 hm hh (hy.mono fun l h a w ho hl=>kF T hf (h a w ho hl)))
theorem ckX(T:Quiet P)(hf:∀e a w,Q e a w→sB e=true)(kv:Nat)(C:Cf)(hkv:(lQ C.hs kv).isSome=true)(outs:List (kr × aj))(hF:jg n a0 base)(hF2:jg n a0 dK)(hm:nE (Old W) C.mem)(hh:RH P ops base C (GX P kv) (Old W) 0 C.hs)(hy:uH (fun l=>∀a w,Old W w→jg n a l→nt P y Q a w) outs dK)(hr:yI P ops base C n dK 0 ops.size outs=yH P ops base C 0 ops.size outs:=by kernel_rfl):nt P (.seq (.region id ops false) y) Q a0 W:=
 kG T rfl (Vy (hr:=hr) T kv 0 ops.size 0 C hkv outs hF hF2 hm hh (hy.mono fun l h a w ho hl=>kF T hf (h a w ho hl)))
end
section
variable{dK:List (kr × aj)}{i m:Nat}{W:ar}
theorem YD(T:Quiet P)(C:Cf)(d:Option kr){R:aj→ar→Prop}(hF:jg n a0 base)(hF2:jg n a0 dK)(hc:Dh P ops base C n dK i d=true)(hY:∀w,Old W w→Yields P (opAt ops i) (qZ base []) w R)
  (hk:∀v w,R v w→∀a,jg n a (jE d v dK)→ey P ops Q (bV (i+1) m) a w):ey P ops Q (bV i (m+1)) a0 W:=
 Hw (OM T) hF hF2 hc (fun ev he=>.inl fun τ d=>(hY _ (kg W τ d)).ex he) hk
theorem rJ(T:Quiet P)(C:Cf)(d:Option kr){f:FuncId}{args:Array aj}{Φ:ar→Ending→ar→Prop}(hF:jg n a0 base)(hF2:jg n a0 dK)(hc:∀w,Old W w→Calls P f args w (Φ w))(hk:∀w0 e w,Old W w0→Φ w0 e w→∃v,e=.returned v∧∀a,jg n a (jE d v dK)→ey P ops Q (bV (i+1) m) a w)(he:(Dh P ops base C n dK i d,look P #[] (execOp (qZ base []) (opAt ops i)))=(true,some (.enter f args,[])):=by kernel_rfl):ey P ops Q (bV i (m+1)) a0 W:=by
 rw[iB] at he;exact YD T C d (R:=fun v w=>∀a,jg n a (jE d v dK)→ey P ops Q (bV (i+1) m) a w) hF hF2 he.1 (fun w hw=>.call (m5 he.2 (by simp)) (hc w hw) fun e w' h=>hk w e w' hw h) fun v w h=>h
theorem Uj(T:Quiet P)(C:Cf)(d:Option kr){f:FuncId}{args:Array aj}{Φ:aj→ar→Prop}(hF:jg n a0 base)(hF2:jg n a0 dK)(hc:iV P f args W Φ)(hk:∀v w,Φ v w→∀a,jg n a (jE d v dK)→ey P ops Q (bV (i+1) m) a w)(he:(Dh P ops base C n dK i d,look P #[] (execOp (qZ base []) (opAt ops i)))=(true,some (.enter f args,[])):=by kernel_rfl):ey P ops Q (bV i (m+1)) a0 W:=by
 rw[iB] at he;exact Hw (OM T) hF hF2 he.1 (fun ev hx=>.inr ⟨f,args,Φ,fun w=>by rw[hx];exact m5 he.2 (by simp),hc,fun v W' h=>h⟩) hk
theorem oA(T:Quiet P)(C:Cf)(d:Option kr)(vf:Nat→aj)(cs:Array aj)(t:TypeId)(hF:jg n a0 base)(hF2:jg n a0 dK)(hk:∀B w a,W.heap.size≤B→Old W w→w.heap[B]?=some (.cells cs t (0,0))→jg n a (jE d (vf B) dK)→ey P ops Q (bV (i+1) m) a w)(hc:Dh P ops base C n dK i d=true:=by kernel_rfl)(he:∀r,SK P r (execOp (qZ base []) (opAt ops i))=some (cs,t,0,0,some (.value (vf r),[])):=by intro r;kernel_rfl):ey P ops Q (bV i (m+1)) a0 W:=
 YD T C d (R:=fun v w=>∃B,v=vf B∧W.heap.size≤B∧Old W w∧w.heap[B]?=some (.cells cs t (0,0))) hF hF2 hc (fun w hw=>.value (OH (he _)) ⟨_,rfl,hw.size,hw.trans (Old.of_below ((aw _ _).alloc (ax _) _)),ay _ _⟩)
  fun v w ⟨B,e,h1,h2,h3⟩ a hl=>hk B w a h1 h2 h3 (e▸hl)
theorem But.old{B:Nat}{V w w':ar}(h:But B w w')(ho:Old V w)(hB:V.heap.size≤B):Old V w':=⟨h.os.trans ho.os,h.output.trans ho.output,by rw[h.size];exact ho.size,fun k hk=>(h.block k (by omega)).trans (ho.block k hk)⟩
theorem Gw(T:Quiet P)(C:Cf){B:Nat}(cs cs':Array aj){t:TypeId}(l:List Nat)(hF:jg n a0 base)(hF2:jg n a0 dK)(hB:W.heap[B]?=some (.cells cs t (0,0)))(hk:∀w a,(∀V,Old V W→V.heap.size≤B→Old V w)→w.heap[B]?=some (.cells cs' t (0,0))→jg n a dK→ey P ops Q (bV (i+1) m) a w)(he:(Dh P ops base C n dK i none,(stores P (execOp (qZ base []) (opAt ops i))).map fun q=>(q.map (·.1),(q.all fun p=>Nat.blt p.2.1 cs.size),DK cs q))=(true,some (l.map fun _=>B,true,cs')):=by kernel_rfl):ey P ops Q (bV i (m+1)) a0 W:=by
 obtain⟨h1,h2⟩:=abH C cs cs' hB l he
 exact YD T C none (R:=fun v w=>(∀V,Old V W→V.heap.size≤B→Old V w)∧w.heap[B]?=some (.cells cs' t (0,0))) hF hF2 h1 (fun w hw=>by
  obtain⟨w',g1,g2,g3⟩:=h2 w ((hw.block B (ak.1 hB).1).trans hB)
  exact .skip g1 ⟨fun V hV hs=>g3.old (hV.trans hw) hs,g2⟩) fun v w h a hl=>hk w a h.1 h.2 hl
end
end
end Go.Lag
namespace Go.Proofs.YtffladgmkiimjaaGreatDoor
open Go.RowKit Go.Lag
theorem aay(b:BB)(used:Int)(p:Nat):0≤b.bad used p:=by
 have:=(E8 b (b.lN used p b.minutes.toNat) 0).1;unfold BB.bad;omega
theorem zf(b:BB){all:List dT}(hne:all≠[])(p:Nat):kh (qW b all p) all.length=1↔b.sure all p=true:=by
 have hl:0<all.length:=cQ.2 hne
 have e:b.sure all p=true↔qW b all p=all.length:=by
  unfold BB.sure qW;rw[List.all_eq_true,List.countP_eq_length];constructor
  ·intro h a ha;have h1:=h a ha;have:=aay b (b.bM+a.used) p;simp only[decide_eq_true_eq] at h1 ⊢;omega
  ·intro h a ha;have h1:=h a ha;simp only[decide_eq_true_eq] at h1 ⊢;omega
 rw[e];unfold kh
 by_cases h0:qW b all p=0
 ·rw[if_pos h0,h0];constructor
  ·intro h;omega
  ·intro h;omega
 ·rw[if_neg h0]
  by_cases h1:qW b all p=all.length
  ·rw[if_pos h1];simp[h1]
  ·rw[if_neg h1];constructor
   ·intro h;omega
   ·intro h;exact absurd h h1
theorem GN(ok:dT→Bool)(cN:∀a,ok a=true):∀(r:List Mn) (iX:Nat) (a:dT),(∀m∈r,m.lo≤m.hi)→leaves ok r iX a≠[]
 |[],iX,a,_=>by simp[leaves,cN]
 |m::r,iX,a,h=>by
  have h1:=h m (by simp);have hm:m.lo∈fh m.lo m.hi:=List.mem_map.2 ⟨0,bt.2 (by omega),by simp⟩;unfold leaves;intro he;rw[List.flatMap_eq_nil_iff] at he;exact GN ok cN r (iX+1) _ (fun x hx=>h x (by simp[hx])) (he m.lo hm)
theorem lW{b:BB}(hb:b.Ok){ml:List Mn}(hm:mR ml)(ss:List Int):aX b ml ss []≠[]:=by
 have h1:=hb.leak;have hmm:b.ll∈fh b.ll b.lm:=List.mem_map.2 ⟨0,bt.2 (by omega),by simp⟩;unfold aX;intro he;rw[List.flatMap_eq_nil_iff] at he;exact GN _ (fun _=>rfl) ml 0 _ (fun m h=>by have:=hm.mem m h;omega) (he b.ll hmm)
theorem fj.nil{b:BB}(h:b.Ok):fj b []:=⟨by simp,by simp,by have:=h.dc;simpa using this.1⟩
theorem fj.next{b:BB}{pl:List Int}(h:fj b pl){k:Nat}(hk:∀p∈pl,p≤k)(h1:(k:Int)+1≤b.minutes)(h2:(pl.length:Int)<b.dc):fj b (pl++[((k:Int)+1)]):=by
 refine⟨fun p hp=>?_,fun i hi=>?_,by simp;omega⟩
 ·rcases bG.1 hp with hp|hp
  ·exact h.mem p hp
  ·simp at hp;omega
 ·simp at hi
  by_cases hi':i+1<pl.length
  ·rw[List.getElem_append_left (by omega),List.getElem_append_left hi'];exact h.asc i hi'
  ·have:=hk pl[i] (bO (by omega));rw[List.getElem_append_left (by omega),List.getElem_append_right (by omega)];simp;omega
theorem Kh(b:BB)(hb:b.Ok)(p1 p2 p3:Option Addr)(n1 c1 n2 c2 n3 c3:Nat)(x:Int)(w:ar) :
  Calls aq 31 #[aO (b.cells (ae p1 n1 c1) (ae p2 n2 c2) (ae p3 n3 c3)),ah .u16 x] w fun e w'=>∃v pl,e=aC v∧fj b pl∧w'.ownsRow w.heap.size 3 1 v pl.length (pl.map (aG ag))∧az w.heap.size w w':=by
 obtain⟨i0,hi,hz0,hz1,hz2⟩:=info_parts info3;have hm:=hb.minutes;have hc:=hb.dc;have HN:=ai (fj.nil hb)
 go_enter Tryz.func31,Tryz.ntmps31
 go_wp2
 go_loopw [5,6] (fun v i wr=>∃(k:Nat) (pl:List Int),(k:Int)≤b.minutes∧i=ah ag (k+1)∧fj b pl∧(∀p∈pl,p≤k)∧wr.ownsRow (w.heap.size+1) 3 1 v pl.length (pl.map (aG ag))∧az (w.heap.size+1) (w.alloc (au (b.cells (ae p1 n1 c1) (ae p2 n2 c2) (ae p3 n3 c3)) 28)) wr)
  (fun _ i _=>10-(intOf i).toNat)
 case atStart=>exact⟨0,[],by omega,rfl,HN.out,by simp,World.ownsRow_nil _ _ _ _,aw _ _⟩
 case round=>
  obtain⟨k,pl,hk,rfl,hpl,hle,hown,dX⟩:=hrel;obtain⟨po,co,rfl⟩:=dF hown;have K:=aH (aL (ay w (au (b.cells (ae p1 n1 c1) (ae p2 n2 c2) (ae p3 n3 c3)) 28)) (dX.mono (by simp)));have z3:wr.cell? ⟨w.heap.size,3,none⟩=some (ah ag b.minutes):=K 3 _ rfl;have z6:wr.cell? ⟨w.heap.size,6,none⟩=some (ah ag b.dc):=K 6 _ rfl;clear K;have H1:=ai hpl;have H2:=ai hle;clear hpl hle;have hB:w.heap.size+1≤wr.heap.size:=by simpa using dX.size
  have pE:az w.heap.size w wr:=((aw _ _).alloc (ax _) _).trans (dX.mono (by omega))
  by_cases hlt:(k:Int)+1≤b.minutes
  ·by_cases hlc:(pl.length:Int)<b.dc
   ·go_wp2_with (at_builtin;refine wpList_append_own _ rfl _ _ 25 rfl (w.heap.size+1) 3 i0 (ah ag 0) 1 8 Tryz.underlying25 hi hz0 hz1 hz2 rfl (by decide) _ _ _ rfl (hown.alloc _) ⟨wr.heap.size,0,none⟩ 1 1 [ah ag (k+1)] rfl rfl ?c1 ?c2 ?c3 ?c4 ?c5 ?_)
    case c1=>
     intro j u hj
     match j,hj with
     |0,hj=>simp at hj;subst hj;simp[Addr.add]
    case c2=>intro u hu;simp at hu;subst hu;rfl
    case c3=>unfold maxLen;omega
    case c4=>omega
    case c5=>simp;omega
    ·intro v' w1 hown' hgrow _;have hb1:az (w.heap.size+1) _ w1:=sO hB hown dX hgrow;clear hgrow dX hown
     have acQ:∀p∈pl++[((k:Int)+1)],p≤((k+1:Nat):Int):=by
      intro p hp;rcases bG.1 hp with hp|hp
      ·have:=H2.out p hp;omega
      ·simp at hp;omega
     have HL:=ai acQ;clear acQ;go_wp2;go_roundw
     case rel=>exact⟨k+1,pl++[((k:Int)+1)],by omega,by go_num,H1.out.next H2.out hlt hlc,HL.out,by simpa using hown',hb1⟩
     case measure=>simp[intOf];omega
    ·go_roundw
     case rel=>exact⟨k+1,pl,by omega,by go_num,H1.out,fun p hp=>by have:=H2.out p hp;omega,hown,dX⟩
     case measure=>simp[intOf];omega
   ·go_wp2
    go_ret
    exact⟨_,rfl,pl,H1.out,ownsRow_base hown (by omega),pE⟩
  ·go_wp2
   go_ret
   exact⟨_,rfl,pl,H1.out,ownsRow_base hown (by omega),pE⟩
end Go.Proofs.YtffladgmkiimjaaGreatDoor
