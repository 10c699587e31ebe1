/- LONE WALKS: Crew (27). LONE WALKS: Air (60). LONE WALKS: Ask (53). THE .. -/
import Derived.Test.YtffladgmkiimjaaGreatDoorW14
import Derived.Test.YtffladgmkiimjaaGreatDoorW07
import Derived.Test.YtffladgmkiimjaaGreatDoorW01
import Derived.Test.YtffladgmkiimjaaGreatDoorW02
import Derived.Test.YtffladgmkiimjaaGreatDoorW05
import Derived.Test.YtffladgmkiimjaaGreatDoorW15
import Derived.Maps.OwnOps
import Derived.Maps.Views
import Derived.Test.YtffladgmkiimjaaGreatDoorW03
import Derived.Test.YtffladgmkiimjaaGreatDoorW04
set_option linter.all false
set_option maxHeartbeats 100000000
set_option maxRecDepth 1000000
open Array renaming getElem?_eq_some_iff → zb
open Go renaming World → WO,undef → aaC,Calls → aaF,Value → aag
open Go.Ending renaming returned → aas
open Go.IntKind renaming i64 → jx
open Go.Lib renaming hid → Fc
open Go.Obj renaming cells → aae
open Go.Operand renaming tmp → aal
open Go.Proofs.Tryz renaming underlying3 → aaA,prog → pO
open Go.RowKit renaming Below → aaj
open Go.RowKit.Below renaming refl → WB,heap_alloc → aaO
open Go.Value renaming bool → L9,agg → aaf,int → aaq,tuple → aat,bool → aav,slice → cO,int → k8
open Go.World renaming alloc_heap_new → aah
open List renaming getElem_mem → aaB,range → aaG,getElem?_eq_getElem → aau
open Nat renaming le_refl → aai
namespace Go.Proofs.YtffladgmkiimjaaGreatDoor
open Go.RowKit Go.Lag
theorem gA{bs:Bool}:(aav bs=L9 true)↔bs=true:=by simp
theorem gB{bs x:Bool}:((if bs=true then aav x else aaC)=L9 false)↔(bs && !x)=true:=by cases bs<;>cases x<;>simp[aaC]
theorem XB{bs x:Bool}:((if bs=true then aav x else aaC)=L9 true)↔(bs&&x)=true:=by cases bs<;>cases x<;>simp[aaC]
theorem eA.Tr{a:eA}(h:a.Ok)(i:Nat):0≤a.get i∧a.get i≤99:=by
 unfold eA.get;split
 ·exact h.m0
 ·exact h.m1
 ·exact h.m2
def eA.only(a:eA)(c:List Nat):eA:=c.foldl (fun k i=>k.put i (a.get i)) ⟨a.leak,0,0,0⟩
def Ev(b:BB)(all:List eA)(p n mask:Nat):Bool:=b.sure (all.map fun a=>a.only (cJ n mask)) p
def Eu(bs f:Bool)(c l:List Int):Bool:=bs&&((!f||decide ((c.length:Int)>l.length))||(((c.length:Int)==(l.length:Int))&&decide (gp c l<0)))
theorem eA.Ve{a:eA}(h:a.Ok)(c:List Nat):(a.only c).Ok:=by
 unfold eA.only
 have:∀(c:List Nat) (k:eA),k.Ok→(c.foldl (fun k i=>k.put i (a.get i)) k).Ok:=by
  intro c
  induction c with
  |nil=>exact fun k hk=>hk
  |cons i c ih=>exact fun k hk=>ih _ (eA.Mj hk i (eA.Tr h i).1 (eA.Tr h i).2)
 exact this c _ ⟨h.leak,by simp,by simp,by simp⟩
def iA(b:BB)(all:List eA)(p n:Nat):Nat→List Int × Bool
 |0=>([],false)
 |m+1=>if Eu (Ev b all p n m) (iA b all p n m).2 (dt n m) (iA b all p n m).1 then(dt n m,true) else iA b all p n m
theorem WV(b:BB)(men sent marks:aag)(ml:List Mn)(ss:List Int)(ms:List Mk)(w:WO)(hL:Laid w)(hB:cH b men sent marks ml ss ms w)(hne:bn b ml ss ms≠[])(pl:List Int)(hp:js b pl)(lv:aag)(hl:Reads w lv pl.length (pl.map (aaq jx))) :
  aaF pO 27 #[aaf (b.cells men sent marks),lv] w fun e w'=>∃v,e=aas (aat #[v,L9 (iA b (bn b ml ss ms) (bG pl) ml.length (2 ^ ml.length)).2,k8 jx 0])∧Reads w' v (iA b (bn b ml ss ms) (bG pl) ml.length (2 ^ ml.length)).1.length ((iA b (bn b ml ss ms) (bG pl) ml.length (2 ^ ml.length)).1.map (aaq jx))∧aaj w.heap.size w w':=by
 have S5:=hB.gV.len;obtain⟨i0,hi,hz0,hz1,hz2⟩:=info_parts info3;obtain⟨i1,E7,Ov,hy1,hy2⟩:=info_parts Ot;have hlen:=jq ss ms hB.ok hB.gV;have kg:0<(bn b ml ss ms).length:=List.length_pos_iff.2 hne;have cS:=hB.ok;have hao:=nO (ss:=ss) (ms:=ms) hB.ok hB.gV;have xq:=cS.minutes;have oW:∀s∈pl,1≤s∧s≤8:=fun s h=>by have:=hp.mem s h;omega
 have Qh:bG pl<512:=mS pl oW;obtain⟨pm,cm,rfl,_⟩:=aR hB.rm;obtain⟨pn,cn,rfl,_⟩:=aR hB.rs;obtain⟨pk,ck,rfl,_⟩:=aR hB.rk;obtain⟨pZ,qj,rfl,_⟩:=aR hl;have b1:aaj w.heap.size w (w.alloc (aae (b.cells (cO pm ml.length cm) (cO pn ss.length cn) (cO pk ms.length ck)) 28)):=(WB _ _).alloc (aai _) _;have hk:=aah w (aae (b.cells (cO pm ml.length cm) (cO pn ss.length cn) (cO pk ms.length ck)) 28)
 have Uj:Hid (∀W cp,aaj w.heap.size w W→W.heap[cp]?=some (aae #[cO pZ pl.length qj] 25 (0,0))→aaF pO 103 #[aaf (b.cells (cO pm ml.length cm) (cO pn ss.length cn) (cO pk ms.length ck)),.func (.func 164) #[] #[pv cp 0]] W fun e w'=>∃v,e=aas (aat #[aaf (b.open (cO pm ml.length cm) (cO pn ss.length cn) (cO pk ms.length ck) v),k8 jx 0])∧gJ w' W.heap.size v (bn b ml ss ms)∧aaj W.heap.size W w'):=
  Fc fun W cp Jo Td=>CB b _ _ _ ml ss ms W (hL.below Jo) (hB.below Jo) hne cp fun W' hb'=>by
   have hlt:=(zb.1 Td).1;exact CS b cS _ _ _ pl hp cp _ W' ((hb'.block _ hlt).trans Td) ((hl.below Jo).below hb')
 have Jp:=Fc hl;have Ra:=Fc hao;have WL:=Fc oW;clear hL hB hl hao hp oW;generalize bn b ml ss ms=all at *;generalize ml.length=lm at *;generalize ss.length=ln at *;generalize ms.length=lk at *
 go_enter Tryz.func27,Tryz.ntmps27
 go_wp2
 refine bQ (by kernel_rfl) [
 pV (aaf (b.cells (cO pm lm cm) (cO pn ln cn) (cO pk lk ck))),
  pV (cO pZ pl.length qj),
  fun v ds w9=>∃cp,v=.func (.func 164) #[] #[pv cp 0]∧w9.heap[cp]?=some (aae #[cO pZ pl.length qj] 25 (0,0)),
  fun v ds w9=>∃gv cv,v=aat #[aaf (b.open (cO pm lm cm) (cO pn ln cn) (cO pk lk ck) (cO (some ⟨gv,0,none⟩) all.length cv)),k8 jx 0]∧gJ w9 w.heap.size (cO (some ⟨gv,0,none⟩) all.length cv) all,
  fun v ds w9=>∃gv cv,v=aat #[aaf (b.open (cO pm lm cm) (cO pn ln cn) (cO pk lk ck) (cO (some ⟨gv,0,none⟩) all.length cv)),k8 jx 0]∧gJ w9 w.heap.size (cO (some ⟨gv,0,none⟩) all.length cv) all,
  fun v ds w9=>∃gv cv,v=aaf (b.open (cO pm lm cm) (cO pn ln cn) (cO pk lk ck) (cO (some ⟨gv,0,none⟩) all.length cv))∧gJ w9 w.heap.size (cO (some ⟨gv,0,none⟩) all.length cv) all,
  pV (k8 jx 0),
  fun v ds w9=>∃k,∃z:Array aag,v=pv k 0∧w.heap.size+1≤k∧w9.heap[k]?=some (aae z 122 (0,0))∧z.size=16,
  fun v ds w9=>∃k gv cv,ds[0]?=some (pv k 0)∧w.heap.size+1≤k∧w9.heap[k]?=some (aae (b.open (cO pm lm cm) (cO pn ln cn) (cO pk lk ck) (cO (some ⟨gv,0,none⟩) all.length cv)) 122 (0,0))∧gJ w9 w.heap.size (cO (some ⟨gv,0,none⟩) all.length cv) all,
  pV (k8 jx 0)]
  (fun w9=>w9.heap[w.heap.size]?=some (aae (b.cells (cO pm lm cm) (cO pn ln cn) (cO pk lk ck)) 28 (0,0))∧aaj w.heap.size w w9) [(2,pv w.heap.size 0),(1,cO pZ pl.length qj)] (by kernel_rfl) ?rst (fun w1 w2 h hb=>⟨(hb.block _ (zb.1 h.1).1).trans h.1,h.2.trans (hb.mono h.2.size)⟩) (⟨hk,b1.drew⟩) ⟨rfl,rfl,trivial⟩ ?reach ?rfin
 case rst=>
  refine⟨sV,sV,?_,?_,?_,?_,sV,?_,?_,sV,trivial⟩
  ·rintro v ds w1 w2 hS ⟨cp,h1,h2⟩ hb;exact⟨cp,h1,(hb.block _ (zb.1 h2).1).trans h2⟩
  ·rintro v ds w1 w2 hS ⟨gv,cv,h1,h2⟩ hb;exact⟨gv,cv,h1,h2.at_ fun g hg=>hb.block g (h2.1.lt g hg).2⟩
  ·rintro v ds w1 w2 hS ⟨gv,cv,h1,h2⟩ hb;exact⟨gv,cv,h1,h2.at_ fun g hg=>hb.block g (h2.1.lt g hg).2⟩
  ·rintro v ds w1 w2 hS ⟨gv,cv,h1,h2⟩ hb;exact⟨gv,cv,h1,h2.at_ fun g hg=>hb.block g (h2.1.lt g hg).2⟩
  ·rintro v ds w1 w2 hS ⟨k,z,h1,h2,h3,h4⟩ hb;exact⟨k,z,h1,h2,(hb.block _ (zb.1 h3).1).trans h3,h4⟩
  ·rintro v ds w1 w2 hS ⟨k,gv,cv,h1,h0,h3,h2⟩ hb;exact⟨k,gv,cv,h1,h0,(hb.block _ (zb.1 h3).1).trans h3,h2.at_ fun g hg=>hb.block g (h2.1.lt g hg).2⟩
 case reach=>
  refine⟨?_,?_,?_,?_,?_,?_,?_,?_,?_,?_,trivial⟩<;>rintro ev w1 hS hc hg hf ⟨b2,b1,-⟩ hd
  ·clear hd;obtain⟨x0,x1,x2,x3,x4,x5,x6,x7,x8,x9,nS,nR,oO,n4,oK⟩:=bM hS.1;exact tV
  ·clear hd;exact tV
  ·have d1:ev (aal 19)=_:=hd.1 rfl;clear hd;refine Lag.Yields.call (f:=104) (args:=#[cO pZ pl.length qj]) ?_ (I8 _ _ _ _) ?_
   ·go_simp
   ·rintro e w2 ⟨rfl,rfl⟩;exact⟨_,rfl,⟨_,rfl,aah _ _⟩,.inl ((WB _ _).alloc (aai _) _)⟩
  ·have d0:ev (aal 18)=_:=hd.1 rfl;obtain⟨cp,Fb,yf⟩:=hd.2.1 rfl;clear hd;replace Fb:ev (aal 20)=_:=Fb;refine Lag.Yields.call (f:=103) (args:=#[aaf (b.cells (cO pm lm cm) (cO pn ln cn) (cO pk lk ck)),.func (.func 164) #[] #[pv cp 0]]) ?_ (Uj.out w1 cp hS.2 yf) ?_
   ·go_simp
   ·rintro e w2 ⟨v,rfl,iU,hb⟩
    obtain⟨gv,cv,rfl⟩:∃gv cv,v=cO (some ⟨gv,0,none⟩) all.length cv:=by
     rcases iU.1.2 with⟨_,h0⟩|⟨g,cap,cur,rfl,_⟩
     ·omega
     ·exact⟨g,cap,rfl⟩
    exact⟨_,rfl,⟨gv,cv,rfl,iU.base hS.2.size⟩,.inl hb⟩
  ·exact yv rfl (hd.1 rfl)
  ·obtain⟨gv,cv,e11,iU⟩:=hd.1 rfl;clear hd;replace e11:ev (aal 17)=_:=e11;refine yv ?_ (⟨gv,cv,rfl,iU⟩);go_simp
  ·obtain⟨gv,cv,e11,iU⟩:=hd.1 rfl;clear hd;replace e11:ev (aal 17)=_:=e11;exact tV
  ·clear hd;refine Lag.Yields.value (v:=pv w1.heap.size 0) (w':=w1.alloc (aae gU 122)) ?_ ⟨⟨_,_,rfl,(zb.1 hS.1).1,aah _ _,rfl⟩,.inl ((WB _ _).alloc (aai _) _)⟩;go_simp
  ·obtain⟨k,z,e6,qg,hk2,hz⟩:=hd.1 rfl;replace e6:ev (aal 7)=_:=e6;obtain⟨gv,cv,M8,iU⟩:=hd.2.1 rfl;clear hd;replace M8:ev (aal 22)=_:=M8;have CL:∀g cs t,w1.heap[g]?=some (aae cs t (0,0))→t≠122→g≠k:=by rintro g cs t h1 h2 rfl;rw[hk2] at h1;cases h1;exact h2 rfl
   have D7:∀(v:aag),gJ w1 w.heap.size v all→gJ (w1.setRow k (b.open (cO pm lm cm) (cO pn ln cn) (cO pk lk ck) (cO (some ⟨gv,0,none⟩) all.length cv))) w.heap.size v all:=fun v ho=>ho.at_ fun g hg=>setRow_other (by
    obtain⟨cur,q1,_⟩:=ho.2 g hg
    exact CL g _ _ q1 (by decide))
   refine Lag.Yields.nC 122 _ _ rfl k _ e6 M8 122 z hk2 (by kernel_rfl) hz (by simp[Value.oneCell']) ⟨⟨k,gv,cv,congrArg some e6,qg,cV hk2,D7 _ iU⟩,.inr ⟨⟨(setRow_other (by omega)).trans hS.1,dv hS.2 (by omega)⟩,?_⟩⟩;intro j u ds hj hp
   match j,hp with
   |0,hp=>exact hp
   |1,hp=>exact hp
   |2,⟨cp,h1,h2⟩=>exact⟨cp,h1,(setRow_other (CL _ _ _ h2 (by decide))).trans h2⟩
   |3,⟨Ef,Er,h1,h2⟩=>exact⟨Ef,Er,h1,D7 _ h2⟩
   |4,⟨Ef,Er,h1,h2⟩=>exact⟨Ef,Er,h1,D7 _ h2⟩
   |5,⟨Ef,Er,h1,h2⟩=>exact⟨Ef,Er,h1,D7 _ h2⟩
   |6,hp=>exact hp
   |7,⟨k',z',h1,h2,h3,h4⟩=>
    by_cases sI:k'=k
    ·subst sI;exact⟨k',_,h1,h2,cV h3,rfl⟩
    ·exact⟨k',z',h1,h2,(setRow_other sI).trans h3,h4⟩
   |8,_=>exact(hj rfl).elim
   |9,hp=>exact hp
   |j+10,_=>trivial
  ·have d6:ev (aal 23)=_:=hd.1 rfl;clear hd;refine yv (v:=ev (aal 23)) ?_ (d6);rfl
 case rfin=>
  intro a2 w2 hR;have hS:=hR.s;obtain⟨k,gv,cv,TJ,qg,hk2,iU⟩:=hR.val 8 (by decide);have e9:a2.tmps.getD 6 aaC=_:=hR.val 9 (by decide);have ha:=hR.lits 116 rfl;simp only[aaG,List.range.loop,List.map] at ha;rw[hR.kp 1 (by kernel_rfl),hR.kp 2 (by kernel_rfl),hR.kp 4 (by kernel_rfl),hR.kp 5 (by kernel_rfl)] at ha;simp only[ku,List.getD_cons_succ,List.getD_cons_zero] at ha;clear hR;have e6:a2.tmps.getD 7 aaC=pv k 0:=Option.some.inj TJ;rw[e6,e9] at ha;generalize a2.tmps.getD=zz at ha;clear e6 TJ e9;subst ha;have sg:=hS.1;have rz:=hS.2;clear hS;obtain⟨x0,x1,x2,x3,x4,x5,x6,x7,x8,x9,nS,nR,oO,n4,oK⟩:=bM sg;have fx:=cN sg 12;have BH:=iU.reads (by omega)
  have HC:Hid (∀j u,(rowOf all)[j]?=some u→w2.cell? ⟨gv,0+j,none⟩=some u):=Fc (by
   rcases BH with⟨h0,_⟩|⟨g,off,cap,h0,_,_,h1⟩
   ·cases h0
   ·cases h0;exact h1)
  have BI:=(iU.1.lt gv rfl).2;have xu:=(zb.1 hk2).1;have hbl:=(zb.1 sg).1;have HK:=Fc hk2;have HBo:=Fc sg;have EZ:=Fc rz;clear hk2 BH sg rz iU hk b1 Uj x0 x1 x2 x3 x4 x5 x6 x7 x8 x9 nS nR n4 oK;generalize hL:all.length=L at *;have HL:=Fc hL;clear hL;obtain⟨N,V4⟩:∃N,N=2 ^ lm:=⟨_,rfl⟩
  have hN8:N≤8:=by
   have:lm=0∨lm=1∨lm=2∨lm=3:=by omega
   rcases this with h|h|h|h<;>subst h<;>omega
  have hN:wrap64 (2 ^ lm)=(N:Int):=by
   have:lm=0∨lm=1∨lm=2∨lm=3:=by omega
   rcases this with h|h|h|h<;>subst h<;>subst V4<;>simp[wrap64]
  have HN0:=Fc V4;clear V4;have HBe:Hid (aaj w2.heap.size w2 w2):=Fc (WB _ _);go_wp2;rw[hN];clear hN
  go_loopw [4,5,8,9,10,11,13,14,16,31] (fun v4 f _ _ _ _ _ _ _ i wr=>∃(M:Nat) (p4:Option Addr) (c4:Nat),M≤N∧i=k8 jx M∧f=L9 (iA b all (bG pl) lm M).2∧v4=cO p4 (iA b all (bG pl) lm M).1.length c4∧Reads wr (cO p4 (iA b all (bG pl) lm M).1.length c4) (iA b all (bG pl) lm M).1.length ((iA b all (bG pl) lm M).1.map (aaq jx))∧aaj w2.heap.size w2 wr) (fun _ _ _ _ _ _ _ _ _ i _=>N-(intOf i).toNat)
  case atStart=>exact⟨0,none,0,Nat.zero_le _,by simp,by simp[iA],by simp[iA],.inl ⟨rfl,by simp[iA],by simp[iA]⟩,WB _ _⟩
  case round=>
   obtain⟨M,p4,c4,hM,rfl,rfl,rfl,hr4,eh⟩:=hrel;rename WO=>wo;have hsz:=eh.size
   by_cases hlt:M<N
   ·have hst:iA b all (bG pl) lm (M+1)=if Eu (Ev b all (bG pl) lm M) (iA b all (bG pl) lm M).2 (dt lm M) (iA b all (bG pl) lm M).1 then(dt lm M,true) else iA b all (bG pl) lm M:=rfl
    generalize iA b all (bG pl) lm M=st at *;obtain⟨lc,f⟩:=st;simp only[] at hst hr4;have Uf:=Fc hst;have HR4:=Fc hr4;have wS:=Fc eh
    have FW:Hid (∀w9,aaj wo.heap.size wo w9→w9.heap[k]?=some (aae (b.open (cO pm lm cm) (cO pn ln cn) (cO pk lk ck) (cO (some ⟨gv,0,none⟩) L cv)) 122 (0,0))∧w9.heap[w.heap.size]?=some (aae (b.cells (cO pm lm cm) (cO pn ln cn) (cO pk lk ck)) 28 (0,0))∧(∀i u,(rowOf all)[i]?=some u→w9.cell? ⟨gv,0+i,none⟩=some u)):=Fc fun w9 MW=>by
     have h:=eh.trans (MW.mono hsz);exact⟨(h.block _ xu).trans HK.out,(h.block _ hbl).trans HBo.out,fun i u hi=>(h.cell (p:=⟨gv,0+i,none⟩) BI).trans (HC.out i u hi)⟩
    obtain⟨q1,q2,-⟩:=FW.out wo (WB _ _);obtain⟨y0,y1,y2,y3,y4,y5,y6,y7,y8,y9,LR,NS,NQ,NP,Js,G9⟩:=jo q1;have g2:(wo.alloc (aae #[k8 jx b.room,k8 jx b.depth,k8 jx b.least,k8 jx b.minutes,k8 jx b.cM,k8 jx b.km,k8 jx b.eT,k8 jx b.j9,k8 jx b.ll,k8 jx b.lm,k8 jx b.pl,k8 jx b.pm,cO pm lm cm,cO pn ln cn,cO pk lk ck,cO none 0 0] 122)).heap[w.heap.size]?=some (aae (b.cells (cO pm lm cm) (cO pn ln cn) (cO pk lk ck)) 28 (0,0)):=(aaO _ _ _ (zb.1 q2).1).trans q2;have z12:=aH g2 12 (cO pm lm cm) rfl;have agq:=cN g2 12;clear hst hr4 eh q1 q2 g2 oO fx;have hb2:aaj wo.heap.size wo (wo.alloc (aae #[k8 jx b.room,k8 jx b.depth,k8 jx b.least,k8 jx b.minutes,k8 jx b.cM,k8 jx b.km,k8 jx b.eT,k8 jx b.j9,k8 jx b.ll,k8 jx b.lm,k8 jx b.pl,k8 jx b.pm,cO pm lm cm,cO pn ln cn,cO pk lk ck,cO none 0 0] 122)):=(WB _ _).alloc (aai _) _;have ho2:=aah wo (aae #[k8 jx b.room,k8 jx b.depth,k8 jx b.least,k8 jx b.minutes,k8 jx b.cM,k8 jx b.km,k8 jx b.eT,k8 jx b.j9,k8 jx b.ll,k8 jx b.lm,k8 jx b.pl,k8 jx b.pm,cO pm lm cm,cO pn ln cn,cO pk lk ck,cO none 0 0] 122);have oX:=Fc hb2;have HO2:=Fc ho2;have abS:(wo.alloc (aae #[k8 jx b.room,k8 jx b.depth,k8 jx b.least,k8 jx b.minutes,k8 jx b.cM,k8 jx b.km,k8 jx b.eT,k8 jx b.j9,k8 jx b.ll,k8 jx b.lm,k8 jx b.pl,k8 jx b.pm,cO pm lm cm,cO pn ln cn,cO pk lk ck,cO none 0 0] 122)).heap.size=wo.heap.size+1:=by simp
    clear hb2 ho2;go_wp2
    go_loopw [9,11,40] (fun v9 _ i wr=>∃j:Nat,j≤lm∧i=k8 jx j∧wr.ownsRow (wo.heap.size+1) 3 1 v9 (cJ j M).length ((cJ j M).map fun(i:Nat)=>aaq jx (i:Int))∧aaj (wo.heap.size+1) (wo.alloc (aae #[k8 jx b.room,k8 jx b.depth,k8 jx b.least,k8 jx b.minutes,k8 jx b.cM,k8 jx b.km,k8 jx b.eT,k8 jx b.j9,k8 jx b.ll,k8 jx b.lm,k8 jx b.pl,k8 jx b.pm,cO pm lm cm,cO pn ln cn,cO pk lk ck,cO none 0 0] 122)) wr) (fun _ _ i _=>lm-(intOf i).toNat)
    case atStart=>exact⟨0,Nat.zero_le _,by simp,World.ownsRow_nil _ _ _ _,WB _ _⟩
    case round=>
     obtain⟨j,hj,rfl,hown,yb⟩:=hrel;have YH:=yb.size;rw[abS] at YH;have hcl:=iO j M;have hM5:M<512:=Nat.lt_of_lt_of_le hlt (Nat.le_trans hN8 (by decide))
     by_cases LI:j<lm
     ·cases hb:M.testBit j
      ·have e1:cJ (j+1) M=cJ j M:=by rw[mJ,hb];simp
       have Qo:=vO M j hM5;rw[hb] at Qo;have H1:=Fc e1;clear e1;go_wp2;go_roundw
       case rel=>exact⟨j+1,by omega,by simp,by rw[H1.out];exact hown,yb⟩
       case measure=>simp[intOf];omega
      ·have e1:cJ (j+1) M=cJ j M++[j]:=by rw[mJ,hb];simp
       have Qo:=vO M j hM5;rw[hb] at Qo;have H1:=Fc e1
       have WM:Hid (∀(i:Nat) (u:aag),([k8 jx (j:Int)]:List aag)[i]?=some u→(wr.alloc (aae #[k8 jx (j:Int)] 3)).cell? ((⟨wr.heap.size,0,none⟩:Addr).add i)=some u):=Fc fun i u hj=>by
        match i,hj with
        |0,hj=>simp at hj;subst hj;simp[Addr.add]
       clear e1
       go_wp2_with (at_builtin;refine wpList_append_own _ rfl _ _ 25 rfl (wo.heap.size+1) 3 i0 (k8 jx 0) 1 8 Tryz.underlying25 hi hz0 hz1 hz2 rfl (by decide) u9 _ _ rfl (hown.alloc _) ⟨wr.heap.size,0,none⟩ 1 1 [k8 jx (j:Int)] rfl rfl WM.out (by simp[Value.oneCell']) (by unfold maxLen;omega) (by omega) (by simp;omega) ?_;intro v' w3 Ko hgrow hnil)
       go_roundw
       case rel=>exact⟨j+1,by omega,by simp,by rw[H1.out,List.length_append,List.map_append];exact Ko,vP (by omega) hown yb hgrow⟩
       case measure=>simp[intOf];omega
     ·obtain rfl:lm=j:=by omega
      rename WO=>wc;obtain⟨p9,c9,rfl⟩:=dG hown;have Xy:aaj wo.heap.size wo wc:=oX.out.trans (yb.mono (by simp));have hoc:wc.heap[wo.heap.size]?=some (aae #[k8 jx b.room,k8 jx b.depth,k8 jx b.least,k8 jx b.minutes,k8 jx b.cM,k8 jx b.km,k8 jx b.eT,k8 jx b.j9,k8 jx b.ll,k8 jx b.lm,k8 jx b.pl,k8 jx b.pm,cO pm lm cm,cO pn ln cn,cO pk lk ck,cO none 0 0] 122 (0,0)):=(yb.block _ (by simp)).trans HO2.out;have ajP:=aH (FW.out wc Xy).1 15 (cO (some ⟨gv,0,none⟩) L cv) rfl;have alB:=cN (FW.out wc Xy).1 15;have ahb:=Fc hown;have HBc:=Fc Xy;have HOc:=Fc hoc;have hcs:wo.heap.size+1≤wc.heap.size:=YH;have hCb:∀i∈cJ lm M,i<lm:=fun i hi=>by simp[cJ] at hi;exact hi.1
      have Qt:=iO lm M;unfold Ev dt at Uf;clear hown yb Xy hoc y0 y1 y2 y3 y4 y5 y6 y7 y8 y9 LR NS NQ NP Js G9 z12 agq YH;go_wp2;generalize cJ lm M=C at *
      go_loopw [13,14,16,56] (fun _ _ _ i wr=>∃(j:Nat) (Rb:Option Addr) (c15:Nat),j≤L∧i=k8 jx j∧wr.heap[wo.heap.size]?=some (aae #[k8 jx b.room,k8 jx b.depth,k8 jx b.least,k8 jx b.minutes,k8 jx b.cM,k8 jx b.km,k8 jx b.eT,k8 jx b.j9,k8 jx b.ll,k8 jx b.lm,k8 jx b.pl,k8 jx b.pm,cO pm lm cm,cO pn ln cn,cO pk lk ck,cO Rb j c15] 122 (0,0))∧wr.ownsRow (wo.heap.size+1) 134 4 (cO Rb j c15) j (rowOf ((all.take j).map fun a=>a.only C))∧wr.ownsRow (wo.heap.size+1) 3 1 (cO p9 C.length c9) C.length (C.map fun(i:Nat)=>aaq jx (i:Int))∧aaj wo.heap.size wo wr) (fun _ _ _ i _=>L-(intOf i).toNat)
      case atStart=>exact⟨0,none,0,Nat.zero_le _,by simp,HOc.out,World.ownsRow_nil _ _ _ _,ahb.out,HBc.out⟩
      case round=>
       obtain⟨j,Rb,c15,hj,rfl,UB,Kl,OA,yb⟩:=hrel;have YH:=yb.size
       by_cases LI:j<L
       ·rename WO=>wj;have IE:j<all.length:=by rw[HL.out];exact LI
        obtain⟨c0,c1,c2,c3⟩:=Reads.cell (w:=wj) (cap:=cv) (n:=L) (FW.out wj yb).2.2 j IE;simp only[Nat.zero_add] at c0 c1 c2 c3;have hao:=Ra.out _ (aaB IE);have sX:(all.take (j+1)).map (fun a=>a.only C)=(all.take j).map (fun a=>a.only C)++[all[j].only C]:=by rw[List.take_succ_eq_append_getElem IE,List.map_append];rfl
        have HTk:=Fc sX;have Q9:=Fc yb;have HOj:=Fc UB;have HOA:=Fc Kl;have HOC:=Fc OA;have HAk:=Fc hao;clear sX yb UB Kl OA hao;generalize all[j]=a at *;go_wp2;have hWs:((wj.alloc (aae a.cells 134)).alloc (aae (⟨a.leak,0,0,0⟩:eA).cells 134)).heap.size=wj.heap.size+2:=by simp
        have hAw:((wj.alloc (aae a.cells 134)).alloc (aae (⟨a.leak,0,0,0⟩:eA).cells 134)).heap[wj.heap.size]?=some (aae a.cells 134 (0,0)):=(aaO _ _ _ (by simp)).trans (aah wj _)
        have hKw:((wj.alloc (aae a.cells 134)).alloc (aae (⟨a.leak,0,0,0⟩:eA).cells 134)).heap[wj.heap.size+1]?=some (aae (⟨a.leak,0,0,0⟩:eA).cells 134 (0,0)):=by
         have:=aah (wj.alloc (aae a.cells 134)) (aae (⟨a.leak,0,0,0⟩:eA).cells 134);simpa using this
        have Jo:aaj wj.heap.size wj ((wj.alloc (aae a.cells 134)).alloc (aae (⟨a.leak,0,0,0⟩:eA).cells 134)):=((WB _ _).alloc (aai _) _).alloc (by simp) _;have HAw:=Fc hAw;have HKw:=Fc hKw;have HbW:=Fc Jo;clear hAw hKw Jo c0 c1 c2 c3
        go_loopw [16,65] (fun _ i wr=>∃t:Nat,t≤C.length∧i=k8 jx t∧wr.heap[wj.heap.size+1]?=some (aae ((C.take t).foldl (fun k i=>k.put i (a.get i)) (⟨a.leak,0,0,0⟩:eA)).cells 134 (0,0))∧aaj (wj.heap.size+1) ((wj.alloc (aae a.cells 134)).alloc (aae (⟨a.leak,0,0,0⟩:eA).cells 134)) wr) (fun _ i _=>C.length-(intOf i).toNat)
        case atStart=>exact⟨0,Nat.zero_le _,by simp,HKw.out,WB _ _⟩
        case round=>
         obtain⟨t,ht,rfl,OB,htx⟩:=hrel;have hts:=htx.size;rw[hWs] at hts;have Qo:aaj wj.heap.size wj wr:=HbW.out.trans (htx.mono (by simp));have hAt:=(htx.block wj.heap.size (by simp)).trans HAw.out;have Zr:=cy HOC.out Qo;have HTx:=Fc htx;have HBt:=Fc Qo;have HKt:=Fc OB
         by_cases MI:t<C.length
         ·obtain⟨g9,rfl⟩:∃g9,p9=some ⟨g9,0,none⟩:=by
           rcases Zr.2 with⟨h1,h2⟩|⟨g,cap,cur,h1,_⟩
           ·exfalso;simp at h1;omega
           ·exact⟨g,by simp at h1;exact h1.1⟩
          have hci:=Zr.cells (g:=g9) rfl t (k8 jx (C[t]:Nat)) (by simp[aau MI]);have e9:(⟨g9,0,none⟩:Addr).add t=⟨g9,t,none⟩:=by cases t<;>simp[Addr.add]
          rw[e9] at hci;have hi3:C[t]<3:=by have:=hCb _ (aaB MI);omega
          have hfo:(C.take (t+1)).foldl (fun k i=>k.put i (a.get i)) (⟨a.leak,0,0,0⟩:eA)=((C.take t).foldl (fun k i=>k.put i (a.get i)) (⟨a.leak,0,0,0⟩:eA)).put C[t] (a.get C[t]):=by rw[List.take_succ_eq_append_getElem MI,List.foldl_append];rfl
          have HFo:=Fc hfo;generalize (C.take t).foldl (fun k i=>k.put i (a.get i)) (⟨a.leak,0,0,0⟩:eA)=kk at *;generalize C[t]=i at *
          have hx1:wr.cell? ⟨wj.heap.size,1+i,none⟩=some (k8 jx (a.get i)):=by
           match i,hi3 with
           |0,_=>exact aH hAt 1 _ rfl
           |1,_=>exact aH hAt 2 _ rfl
           |2,_=>exact aH hAt 3 _ rfl
          have hx2:wr.cell? ⟨wj.heap.size+1,1+i,none⟩=some (k8 jx (kk.get i)):=by
           match i,hi3 with
           |0,_=>exact aH OB 1 _ rfl
           |1,_=>exact aH OB 2 _ rfl
           |2,_=>exact aH OB 3 _ rfl
          have hx3:=cN OB (1+i);have hst:=OW i hi3 (a.get i) OB;have HSe:=Fc hst;clear hst hfo htx Qo hAt Zr OB e9;go_wp2;go_roundw
          case rel=>exact⟨t+1,by omega,by simp,by rw[HFo.out];exact HSe.out,HTx.out.setCell (p:=⟨wj.heap.size+1,1+i,none⟩) (aai _) _⟩
          case measure=>simp[intOf];omega
         ·obtain rfl:C.length=t:=by omega
          have sI:(C.take C.length).foldl (fun k i=>k.put i (a.get i)) (⟨a.leak,0,0,0⟩:eA)=a.only C:=by rw[List.take_length];rfl
          rw[sI] at OB;have HKt:=Fc OB;generalize a.only C=kk at *;have k0:=aH OB 0 (k8 jx kk.leak) rfl;have k1:=aH OB 1 (k8 jx kk.m0) rfl;have k2:=aH OB 2 (k8 jx kk.m1) rfl;have k3:=aH OB 3 (k8 jx kk.m2) rfl;have hot:wr.heap[wo.heap.size]?=some (aae #[k8 jx b.room,k8 jx b.depth,k8 jx b.least,k8 jx b.minutes,k8 jx b.cM,k8 jx b.km,k8 jx b.eT,k8 jx b.j9,k8 jx b.ll,k8 jx b.lm,k8 jx b.pl,k8 jx b.pm,cO pm lm cm,cO pn ln cn,cO pk lk ck,cO Rb j c15] 122 (0,0)):=(Qo.block _ (zb.1 HOj.out).1).trans HOj.out;have hAA:=cy HOA.out Qo;have hol:=(zb.1 hot).1;have G9:=aH hot 15 (cO Rb j c15) rfl
          have WM:Hid (∀(i:Nat) (u:aag),kk.cells.toList[i]?=some u→(wr.alloc (aae kk.cells 134)).cell? ((⟨wr.heap.size,0,none⟩:Addr).add i)=some u):=Fc fun i u hj=>by
           have:=aah wr (aae kk.cells 134);have h5:=aH this i u (by simpa using hj);have e:(⟨wr.heap.size,0,none⟩:Addr).add i=⟨wr.heap.size,i,none⟩:=by cases i<;>simp[Addr.add]
           rw[e];exact h5
          have LC:=Fc Zr;have HAA:=Fc hAA;have HOt:=Fc hot;have hbo:wo.heap.size+1≤wr.heap.size:=by omega
          clear OB htx Qo hAt Zr sI hot
          go_wp2_with (first
           |(at_builtin;refine wpList_append_own _ rfl _ _ 120 rfl (wo.heap.size+1) 134 i1 (aaf #[k8 jx 0,k8 jx 0,k8 jx 0,k8 jx 0]) 4 32 Tryz.underlying120 E7 Ov hy1 hy2 rfl (by decide) (cO Rb j c15) j (rowOf ((all.take j).map fun a=>a.only C)) rfl (hAA.alloc (aae kk.cells 134)) ⟨wr.heap.size,0,none⟩ 1 1 kk.cells.toList rfl rfl WM.out (by simp[Value.oneCell']) (by unfold maxLen;omega) (by omega) (by first|omega|(simp;omega)) ?_;intro v' w5 S2 hgrow hnil
             obtain⟨p16,c16,rfl⟩:=dG S2;have ho5:w5.heap[wo.heap.size]?=some (aae #[k8 jx b.room,k8 jx b.depth,k8 jx b.least,k8 jx b.minutes,k8 jx b.cM,k8 jx b.km,k8 jx b.eT,k8 jx b.j9,k8 jx b.ll,k8 jx b.lm,k8 jx b.pl,k8 jx b.pm,cO pm lm cm,cO pn ln cn,cO pk lk ck,cO Rb j c15] 122 (0,0)):=(hgrow.block _ (by simp;omega) (mE hAA HOt.out (by decide))).trans ((aaO _ _ _ hol).trans HOt.out);have hC5:=fY (W':=w5) (LC.out.alloc (aae kk.cells 134)) fun g hg=>hgrow.block g ((LC.out.alloc (aae kk.cells 134)).lt g hg).2 (yG LC.out hAA (by decide) hg);have HO5:=Fc ho5;have HC5:=Fc hC5;have HW5:=Fc S2;have HG5:=Fc hgrow;have f15:=cN ho5 15;have z15:=aH ho5 15 (cO Rb j c15) rfl
             clear ho5 hC5 S2 hgrow hnil))
          go_roundw
          case rel=>
           refine⟨j+1,p16,c16,by omega,by simp,cP _ HO5.out,?_,cY HC5.out HO5.out (by decide),(((Q9.out.trans (HBt.out.mono YH)).alloc (by omega) _).grown HG5.out (by simp;omega) (fun g hg=>by have:=(HAA.out.lt g hg).1;omega)).setCell (p:=⟨wo.heap.size,15,none⟩) (aai _) _⟩;rw[HTk.out,Dl];exact cY HW5.out HO5.out (by decide)
          case measure=>simp[intOf];omega
       ·obtain rfl:L=j:=by omega
        rename WO=>wd;have sX:all.take L=all:=List.take_of_length_le (by rw[HL.out];exact aai _);rw[sX] at Kl;have hall:(all.map fun a=>a.only C).length=L:=by rw[List.length_map];exact HL.out
        have hrA:Reads wd (cO Rb L c15) (all.map fun a=>a.only C).length (rowOf (all.map fun a=>a.only C)):=by
         rw[hall];exact Reads.iT Kl (by omega) (by rw[PB,hall];omega)
        have hrC:Reads wd (cO p9 C.length c9) (C.map fun(i:Nat)=>(i:Int)).length ((C.map fun(i:Nat)=>(i:Int)).map (aaq jx)):=by
         have h1:=Reads.iT OA (by omega) (by simp);rw[List.length_map,List.map_map];exact h1
        have hSu:=fun W (hb:aaj wd.heap.size wd W)=>wZ b cS (cO pm lm cm) (cO pn ln cn) (cO pk lk ck) (cO Rb L c15) (all.map fun a=>a.only C) (fun a ha=>by
         obtain⟨x,hx,rfl⟩:=List.mem_map.1 ha
         exact eA.Ve (Ra.out x hx) C) (bG pl) Qh W (hrA.below hb)
        have VD:Reads wd (cO p4 lc.length c4) lc.length (lc.map (aaq jx)):=HR4.out.below yb;have hpl:Reads wd (cO pZ pl.length qj) pl.length (pl.map (aaq jx)):=Jp.out.below (EZ.out.trans ((wS.out.mono EZ.out.size).trans (yb.mono (by have:=EZ.out.size;omega))));have hcm:=fun W (hb:aaj wd.heap.size wd W)=>qW (C.map fun(i:Nat)=>(i:Int)) lc (cO p9 C.length c9) (cO p4 lc.length c4) W (hrC.below hb) (VD.below hb);have Qg:=fun W (hb:aaj wd.heap.size wd W)=>kV pl WL.out (cO pZ pl.length qj) W (hpl.below hb);have HSu:=Fc hSu;have HCm:=Fc hcm;have HPo:=Fc Qg;have HRC:=Fc hrC;have HRL:=Fc VD;have HQd:=Fc yb;have HOd:=Fc UB;clear hSu hcm Qg hrC VD hrA hpl yb UB Kl OA sX hall;unfold Eu at Uf;obtain⟨g12,V5⟩:∃r,decide ((C.length:Int)>lc.length)=r:=⟨_,rfl⟩
        obtain⟨g20,h20⟩:∃r,((C.length:Int)==(lc.length:Int))=r:=⟨_,rfl⟩
        obtain⟨OV,qz⟩:∃r,decide (gp (C.map fun(i:Nat)=>(i:Int)) lc<0)=r:=⟨_,rfl⟩
        simp only[List.length_map] at Uf;rw[V5,h20,qz] at Uf;generalize b.sure (all.map fun a=>a.only C) (bG pl)=bs at *;go_wp2
        refine Gd.bQ (by kernel_rfl) [
        pV (aaf (b.open (cO pm lm cm) (cO pn ln cn) (cO pk lk ck) (cO Rb L c15))),
         pV (cO pZ pl.length qj),
         pV (k8 jx (bG pl)),
         pV (L9 bs),
         pV (L9 bs),
         fun v ds w9=>bs=true→v=L9 f,
         fun v ds w9=>bs=true→v=L9 (!f),
         pV ((if bs=true then aav (!f) else aaC)),
         fun v ds w9=>(bs && !(!f))=true→v=cO p9 C.length c9,
         fun v ds w9=>(bs && !(!f))=true→v=k8 jx C.length,
         fun v ds w9=>(bs && !(!f))=true→v=cO p4 lc.length c4,
         fun v ds w9=>(bs && !(!f))=true→v=k8 jx lc.length,
         fun v ds w9=>(bs && !(!f))=true→v=L9 g12,
         fun v ds w9=>bs=true→v=L9 (!f||g12),
         pV ((if bs=true then aav (!f||g12) else aaC)),
         fun v ds w9=>(bs && !(!f||g12))=true→v=cO p9 C.length c9,
         fun v ds w9=>(bs && !(!f||g12))=true→v=k8 jx C.length,
         fun v ds w9=>(bs && !(!f||g12))=true→v=cO p4 lc.length c4,
         fun v ds w9=>(bs && !(!f||g12))=true→v=k8 jx lc.length,
         fun v ds w9=>(bs && !(!f||g12))=true→v=L9 g20,
         pV ((if (bs && !(!f||g12))=true then aav g20 else aaC)),
         fun v ds w9=>((bs && !(!f||g12))&&g20)=true→v=cO p9 C.length c9,
         fun v ds w9=>((bs && !(!f||g12))&&g20)=true→v=cO p4 lc.length c4,
         fun v ds w9=>((bs && !(!f||g12))&&g20)=true→v=k8 jx (gp (C.map fun(i:Nat)=>(i:Int)) lc),
         fun v ds w9=>((bs && !(!f||g12))&&g20)=true→v=L9 OV,
         fun v ds w9=>(bs && !(!f||g12))=true→v=L9 (g20&&OV),
         fun v ds w9=>bs=true→v=L9 ((!f||g12)||(g20&&OV)),
         pV (L9 (bs&&((!f||g12)||(g20&&OV))))]
         (fun w9=>aaj wd.heap.size wd w9) [(1,cO pZ pl.length qj),(4,cO p4 lc.length c4),(5,L9 f),(9,cO p9 C.length c9),(10,pv wo.heap.size 0)] (by kernel_rfl) ?rst (fun w1 w2 h hb=>h.trans (hb.mono h.size)) ((WB _ _).drew) ⟨rfl,rfl,rfl,rfl,rfl,trivial⟩ ?reach ?rfin
        case rst=>
         refine⟨sV,sV,sV,sV,sV,fun _ _ _ _ _ h _=>h,fun _ _ _ _ _ h _=>h,sV,fun _ _ _ _ _ h _=>h,fun _ _ _ _ _ h _=>h,fun _ _ _ _ _ h _=>h,fun _ _ _ _ _ h _=>h,fun _ _ _ _ _ h _=>h,fun _ _ _ _ _ h _=>h,sV,fun _ _ _ _ _ h _=>h,fun _ _ _ _ _ h _=>h,fun _ _ _ _ _ h _=>h,fun _ _ _ _ _ h _=>h,fun _ _ _ _ _ h _=>h,sV,fun _ _ _ _ _ h _=>h,fun _ _ _ _ _ h _=>h,fun _ _ _ _ _ h _=>h,fun _ _ _ _ _ h _=>h,fun _ _ _ _ _ h _=>h,fun _ _ _ _ _ h _=>h,sV,trivial⟩
        case reach=>
         refine⟨?_,?_,?_,?_,?_,?_,?_,?_,?_,?_,?_,?_,?_,?_,?_,?_,?_,?_,?_,?_,?_,?_,?_,?_,?_,?_,?_,?_,trivial⟩<;>rintro ev w1 hS hc hg hf ⟨b1,b4,b5,b9,T2,-⟩ hd
         ·clear hd;have q:=(Below.block hS _ (zb.1 HOd.out).1).trans HOd.out;exact Il 122 rfl T2 q Tryz.underlying122 rfl (by kernel_rfl) (rfl)
         ·clear hd;exact tV
         ·have d1:ev (aal 85)=_:=hd.1 rfl;clear hd;refine yq (args:=#[cO pZ pl.length qj]) (HPo.out _ hS) ?_ fun _=>rfl;go_simp
         ·have d0:ev (aal 84)=_:=hd.1 rfl;have d2:ev (aal 86)=_:=hd.2.1 rfl;clear hd;refine yc (args:=#[aaf (b.open (cO pm lm cm) (cO pn ln cn) (cO pk lk ck) (cO Rb L c15)),k8 jx (bG pl)]) (HSu.out _ hS) ?_ fun _=>rfl;go_simp
         ·have d3:ev (aal 87)=_:=hd.1 rfl;clear hd;exact tV
         ·have d4:ev (aal 88)=_:=hd.1 rfl;clear hd;refine⟨fun hgd=>?_,fun hgd=>⟨?_,.inl (WB _ _)⟩⟩
          ·have hA:=gA.1 (d4.symm.trans hgd);refine yv (v:=(L9 f:aag)) ?_ (fun _=>rfl);go_simp
          ·intro hc;exact absurd (d4.trans (gA.2 hc)) hgd
         ·have d5:bs=true→(ev (aal 89))=L9 f:=hd.1 rfl;have d4:ev (aal 88)=_:=hd.2.1 rfl;clear hd;refine⟨fun hgd=>?_,fun hgd=>⟨?_,.inl (WB _ _)⟩⟩
          ·have hA:=gA.1 (d4.symm.trans hgd);have y5:=d5 hA;refine yv (v:=(L9 (!f):aag)) ?_ (fun _=>rfl);go_simp
          ·intro hc;exact absurd (d4.trans (gA.2 hc)) hgd
         ·have d6:bs=true→(ev (aal 90))=L9 (!f):=hd.1 rfl;have d4:ev (aal 88)=_:=hd.2.1 rfl;clear hd;refine⟨fun hgd=>?_,fun hgd=>⟨?_,.inl (WB _ _)⟩⟩
          ·have hA:=gA.1 (d4.symm.trans hgd);have y6:=d6 hA;refine yv (v:=L9 (!f)) ?_ ((if_pos hA).symm);go_simp
          ·exact(if_neg (fun hc=>absurd (d4.trans (gA.2 hc)) hgd)).symm
         ·have d7:ev (aal 91)=_:=hd.1 rfl;clear hd;refine⟨fun hgd=>?_,fun hgd=>⟨?_,.inl (WB _ _)⟩⟩
          ·have hA:=gB.1 (d7.symm.trans hgd);refine yv (v:=(cO p9 C.length c9:aag)) ?_ (fun _=>rfl);go_simp
          ·intro hc;exact absurd (d7.trans (gB.2 hc)) hgd
         ·have d8:(bs && !(!f))=true→(ev (aal 92))=cO p9 C.length c9:=hd.1 rfl;have d7:ev (aal 91)=_:=hd.2.1 rfl;clear hd;refine⟨fun hgd=>?_,fun hgd=>⟨?_,.inl (WB _ _)⟩⟩
          ·have hA:=gB.1 (d7.symm.trans hgd);have y8:=d8 hA;refine yv (v:=(k8 jx C.length:aag)) ?_ (fun _=>rfl);go_simp
          ·intro hc;exact absurd (d7.trans (gB.2 hc)) hgd
         ·have d7:ev (aal 91)=_:=hd.1 rfl;clear hd;refine⟨fun hgd=>?_,fun hgd=>⟨?_,.inl (WB _ _)⟩⟩
          ·have hA:=gB.1 (d7.symm.trans hgd);refine yv (v:=(cO p4 lc.length c4:aag)) ?_ (fun _=>rfl);go_simp
          ·intro hc;exact absurd (d7.trans (gB.2 hc)) hgd
         ·have d10:(bs && !(!f))=true→(ev (aal 94))=cO p4 lc.length c4:=hd.1 rfl;have d7:ev (aal 91)=_:=hd.2.1 rfl;clear hd;refine⟨fun hgd=>?_,fun hgd=>⟨?_,.inl (WB _ _)⟩⟩
          ·have hA:=gB.1 (d7.symm.trans hgd);have LR:=d10 hA;refine yv (v:=(k8 jx lc.length:aag)) ?_ (fun _=>rfl);go_simp
          ·intro hc;exact absurd (d7.trans (gB.2 hc)) hgd
         ·have d9:(bs && !(!f))=true→(ev (aal 93))=k8 jx C.length:=hd.1 rfl;have d11:(bs && !(!f))=true→(ev (aal 95))=k8 jx lc.length:=hd.2.1 rfl;have d7:ev (aal 91)=_:=hd.2.2.1 rfl;clear hd;refine⟨fun hgd=>?_,fun hgd=>⟨?_,.inl (WB _ _)⟩⟩
          ·have hA:=gB.1 (d7.symm.trans hgd);have y9:=d9 hA;have NS:=d11 hA;refine yv (v:=L9 g12) ?_ (fun _=>rfl);rw[←V5];go_simp
          ·intro hc;exact absurd (d7.trans (gB.2 hc)) hgd
         ·have d7:ev (aal 91)=_:=hd.1 rfl;have d12:(bs && !(!f))=true→(ev (aal 96))=L9 g12:=hd.2.1 rfl;have d4:ev (aal 88)=_:=hd.2.2.1 rfl;clear hd;refine⟨fun hgd=>?_,fun hgd=>⟨?_,.inl (WB _ _)⟩⟩
          ·have hA:=gA.1 (d4.symm.trans hgd);rcases Bool.eq_false_or_eq_true f with hf|hf
           ·have y7:ev (aal 91)=L9 false:=by rw[d7,if_pos hA,hf];rfl
            clear d7;have NQ:=d12 (by rw[hA,hf];rfl);refine yv (v:=L9 g12) ?_ (fun _=>by rw[hf];simp);go_simp
           ·have y7:ev (aal 91)=L9 true:=by rw[d7,if_pos hA,hf];rfl
            clear d7;refine yv (v:=L9 true) ?_ (fun _=>by rw[hf];simp);go_simp
          ·intro hc;exact absurd (d4.trans (gA.2 hc)) hgd
         ·have d13:bs=true→(ev (aal 97))=L9 (!f||g12):=hd.1 rfl;have d4:ev (aal 88)=_:=hd.2.2.1 rfl;clear hd;refine⟨fun hgd=>?_,fun hgd=>⟨?_,.inl (WB _ _)⟩⟩
          ·have hA:=gA.1 (d4.symm.trans hgd);have NP:=d13 hA;refine yv (v:=L9 (!f||g12)) ?_ ((if_pos hA).symm);go_simp
          ·exact(if_neg (fun hc=>absurd (d4.trans (gA.2 hc)) hgd)).symm
         ·have d14:ev (aal 98)=_:=hd.1 rfl;clear hd;refine⟨fun hgd=>?_,fun hgd=>⟨?_,.inl (WB _ _)⟩⟩
          ·have hA:=gB.1 (d14.symm.trans hgd);refine yv (v:=(cO p9 C.length c9:aag)) ?_ (fun _=>rfl);go_simp
          ·intro hc;exact absurd (d14.trans (gB.2 hc)) hgd
         ·have d15:(bs && !(!f||g12))=true→(ev (aal 99))=cO p9 C.length c9:=hd.1 rfl;have d14:ev (aal 98)=_:=hd.2.1 rfl;clear hd;refine⟨fun hgd=>?_,fun hgd=>⟨?_,.inl (WB _ _)⟩⟩
          ·have hA:=gB.1 (d14.symm.trans hgd);have G9:=d15 hA;refine yv (v:=(k8 jx C.length:aag)) ?_ (fun _=>rfl);go_simp
          ·intro hc;exact absurd (d14.trans (gB.2 hc)) hgd
         ·have d14:ev (aal 98)=_:=hd.1 rfl;clear hd;refine⟨fun hgd=>?_,fun hgd=>⟨?_,.inl (WB _ _)⟩⟩
          ·have hA:=gB.1 (d14.symm.trans hgd);refine yv (v:=(cO p4 lc.length c4:aag)) ?_ (fun _=>rfl);go_simp
          ·intro hc;exact absurd (d14.trans (gB.2 hc)) hgd
         ·have d17:(bs && !(!f||g12))=true→(ev (aal 101))=cO p4 lc.length c4:=hd.1 rfl;have d14:ev (aal 98)=_:=hd.2.1 rfl;clear hd;refine⟨fun hgd=>?_,fun hgd=>⟨?_,.inl (WB _ _)⟩⟩
          ·have hA:=gB.1 (d14.symm.trans hgd);have y17:=d17 hA;refine yv (v:=(k8 jx lc.length:aag)) ?_ (fun _=>rfl);go_simp
          ·intro hc;exact absurd (d14.trans (gB.2 hc)) hgd
         ·have d16:(bs && !(!f||g12))=true→(ev (aal 100))=k8 jx C.length:=hd.1 rfl;have d18:(bs && !(!f||g12))=true→(ev (aal 102))=k8 jx lc.length:=hd.2.1 rfl;have d14:ev (aal 98)=_:=hd.2.2.1 rfl;clear hd;refine⟨fun hgd=>?_,fun hgd=>⟨?_,.inl (WB _ _)⟩⟩
          ·have hA:=gB.1 (d14.symm.trans hgd);have y16:=d16 hA;have y18:=d18 hA;refine yv (v:=L9 g20) ?_ (fun _=>rfl);rw[←h20];go_simp
          ·intro hc;exact absurd (d14.trans (gB.2 hc)) hgd
         ·have d19:(bs && !(!f||g12))=true→(ev (aal 103))=L9 g20:=hd.1 rfl;have d14:ev (aal 98)=_:=hd.2.1 rfl;clear hd;refine⟨fun hgd=>?_,fun hgd=>⟨?_,.inl (WB _ _)⟩⟩
          ·have hA:=gB.1 (d14.symm.trans hgd);have y19:=d19 hA;refine yv (v:=L9 g20) ?_ ((if_pos hA).symm);go_simp
          ·exact(if_neg (fun hc=>absurd (d14.trans (gB.2 hc)) hgd)).symm
         ·have d20:ev (aal 104)=_:=hd.1 rfl;clear hd;refine⟨fun hgd=>?_,fun hgd=>⟨?_,.inl (WB _ _)⟩⟩
          ·have hA:=XB.1 (d20.symm.trans hgd);refine yv (v:=(cO p9 C.length c9:aag)) ?_ (fun _=>rfl);go_simp
          ·intro hc;exact absurd (d20.trans (XB.2 hc)) hgd
         ·have d20:ev (aal 104)=_:=hd.1 rfl;clear hd;refine⟨fun hgd=>?_,fun hgd=>⟨?_,.inl (WB _ _)⟩⟩
          ·have hA:=XB.1 (d20.symm.trans hgd);refine yv (v:=(cO p4 lc.length c4:aag)) ?_ (fun _=>rfl);go_simp
          ·intro hc;exact absurd (d20.trans (XB.2 hc)) hgd
         ·have d21:((bs && !(!f||g12))&&g20)=true→(ev (aal 105))=cO p9 C.length c9:=hd.1 rfl;have d22:((bs && !(!f||g12))&&g20)=true→(ev (aal 106))=cO p4 lc.length c4:=hd.2.1 rfl;have d20:ev (aal 104)=_:=hd.2.2.1 rfl;clear hd;refine⟨fun hgd=>?_,fun hgd=>⟨?_,.inl (WB _ _)⟩⟩
          ·have hA:=XB.1 (d20.symm.trans hgd);have y21:=d21 hA;have y22:=d22 hA;refine Lag.Yields.call (f:=98) (args:=#[cO p9 C.length c9,cO p4 lc.length c4]) ?_ (HCm.out _ hS) ?_
           ·go_simp
           ·rintro e w2 ⟨rfl,rfl⟩;exact⟨_,rfl,fun _=>rfl,.inl (WB _ _)⟩
          ·intro hc;exact absurd (d20.trans (XB.2 hc)) hgd
         ·have d23:((bs && !(!f||g12))&&g20)=true→(ev (aal 107))=k8 jx (gp (C.map fun(i:Nat)=>(i:Int)) lc):=hd.1 rfl;have d20:ev (aal 104)=_:=hd.2.1 rfl;clear hd;refine⟨fun hgd=>?_,fun hgd=>⟨?_,.inl (WB _ _)⟩⟩
          ·have hA:=XB.1 (d20.symm.trans hgd);have y23:=d23 hA;refine yv (v:=L9 OV) ?_ (fun _=>rfl);rw[←qz];go_simp
          ·intro hc;exact absurd (d20.trans (XB.2 hc)) hgd
         ·have d20:ev (aal 104)=_:=hd.1 rfl;have d24:((bs && !(!f||g12))&&g20)=true→(ev (aal 108))=L9 OV:=hd.2.1 rfl;have d14:ev (aal 98)=_:=hd.2.2.1 rfl;clear hd;refine⟨fun hgd=>?_,fun hgd=>⟨?_,.inl (WB _ _)⟩⟩
          ·have hA:=gB.1 (d14.symm.trans hgd);have y20:ev (aal 104)=L9 g20:=by rw[d20,if_pos hA]
           clear d20;rcases Bool.eq_false_or_eq_true g20 with hf|hf
           ·have y24:=d24 (by rw[hA,hf];rfl);rw[hf] at y20;refine yv (v:=L9 OV) ?_ (fun _=>by rw[hf];simp);go_simp
           ·rw[hf] at y20;refine yv (v:=L9 false) ?_ (fun _=>by rw[hf];simp);go_simp
          ·intro hc;exact absurd (d14.trans (gB.2 hc)) hgd
         ·have d14:ev (aal 98)=_:=hd.1 rfl;have d25:(bs && !(!f||g12))=true→(ev (aal 109))=L9 (g20&&OV):=hd.2.1 rfl;have d4:ev (aal 88)=_:=hd.2.2.1 rfl;clear hd;refine⟨fun hgd=>?_,fun hgd=>⟨?_,.inl (WB _ _)⟩⟩
          ·have hA:=gA.1 (d4.symm.trans hgd);have Js:ev (aal 98)=L9 (!f||g12):=by rw[d14,if_pos hA]
           clear d14;rcases Bool.eq_false_or_eq_true (!f||g12) with hf | hf
           ·rw[hf] at Js;refine yv (v:=L9 true) ?_ (fun _=>by rw[hf];simp);go_simp
           ·have y25:=d25 (by rw[hA,hf];rfl);rw[hf] at Js;refine yv (v:=L9 (g20&&OV)) ?_ (fun _=>by rw[hf];simp);go_simp
          ·intro hc;exact absurd (d4.trans (gA.2 hc)) hgd
         ·have d4:ev (aal 88)=_:=hd.1 rfl;have d26:bs=true→(ev (aal 110))=L9 ((!f||g12)||(g20&&OV)):=hd.2.1 rfl;clear hd;rcases Bool.eq_false_or_eq_true bs with hf|hf
          ·have y26:=d26 hf;have y4:ev (aal 88)=L9 true:=d4.trans (gA.2 hf);refine yv (v:=L9 ((!f||g12)||(g20&&OV))) ?_ (by show _=aav _;rw[hf];simp);go_simp
          ·have y4:ev (aal 88)=L9 false:=d4.trans (by rw[hf]);refine yv (v:=L9 false) ?_ (by show _=aav _;rw[hf];simp);go_simp
        case rfin=>
         intro a3 w3 hR;have hS:=hR.s;have e27:a3.tmps.getD 111 aaC=_:=hR.val 27 (by decide);have ha:=hR.lits 116 rfl;simp only[aaG,List.range.loop,List.map] at ha;rw[hR.kp 0 (by kernel_rfl),hR.kp 1 (by kernel_rfl),hR.kp 2 (by kernel_rfl),hR.kp 3 (by kernel_rfl),hR.kp 4 (by kernel_rfl),hR.kp 5 (by kernel_rfl),hR.kp 6 (by kernel_rfl),hR.kp 7 (by kernel_rfl),hR.kp 8 (by kernel_rfl),hR.kp 9 (by kernel_rfl),hR.kp 10 (by kernel_rfl),hR.kp 12 (by kernel_rfl),hR.kp 15 (by kernel_rfl),hR.kp 17 (by kernel_rfl),hR.kp 18 (by kernel_rfl),hR.kp 19 (by kernel_rfl),hR.kp 20 (by kernel_rfl),hR.kp 21 (by kernel_rfl),hR.kp 22 (by kernel_rfl),hR.kp 23 (by kernel_rfl),hR.kp 24 (by kernel_rfl),hR.kp 25 (by kernel_rfl),hR.kp 26 (by kernel_rfl),hR.kp 27 (by kernel_rfl),hR.kp 28 (by kernel_rfl),hR.kp 29 (by kernel_rfl),hR.kp 30 (by kernel_rfl),hR.kp 31 (by kernel_rfl),hR.kp 114 (by kernel_rfl),hR.kp 115 (by kernel_rfl)] at ha;simp only[ku,List.getD_cons_succ,List.getD_cons_zero] at ha;clear hR;rw[e27] at ha;generalize a3.tmps.getD=zz at ha;have o9:=Fc hS;clear e27 hS;subst ha;obtain⟨r,hr⟩:∃r,(bs&&((!f||g12)||(g20&&OV)))=r:=⟨_,rfl⟩
         rw[hr] at Uf;rw[hr];clear hr;have ag8:=Fc (HRL.out.below o9.out);have ag7:=Fc (HRC.out.below o9.out);have HBf:=Fc (wS.out.trans ((HQd.out.trans (o9.out.mono HQd.out.size)).mono hsz));cases r
         ·have hs:iA b all (bG pl) lm (M+1)=(lc,f):=by rw[Uf.out];rfl
          have HS:=Fc hs;clear hs;go_wp2;go_roundw
          case rel=>
           refine⟨M+1,p4,c4,by omega,by simp,?_,?_,?_,HBf.out⟩
           ·rw[HS.out]
           ·rw[HS.out]
           ·rw[HS.out];exact ag8.out
          case measure=>simp[intOf];omega
         ·have hs:iA b all (bG pl) lm (M+1)=(C.map fun(i:Nat)=>(i:Int),true):=by rw[Uf.out];rfl
          have HS:=Fc hs;clear hs;go_wp2;go_roundw
          case rel=>
           refine⟨M+1,p9,c9,by omega,by simp,?_,?_,?_,HBf.out⟩
           ·rw[HS.out]
           ·rw[HS.out];simp
           ·rw[HS.out];have:=ag7.out;simp only[List.length_map] at this ⊢;exact this
          case measure=>simp[intOf];omega
   ·obtain rfl:N=M:=by omega
    have HN1:=Fc eh;have HR1:=Fc hr4;clear eh hr4;rw[HN0.out] at HR1;go_wp2
    go_ret3
    exact⟨cO p4 (iA b all (bG pl) lm N).1.length c4,by rw[←HN0.out];rfl,by rw[←HN0.out] at HR1 ⊢;exact HR1.out,EZ.out.trans (HN1.out.mono EZ.out.size)⟩
structure wT(w:WO)(os:List Obj)(w':WO):Prop where
 at_:∀i o,os[i]?=some o→w'.heap[w.heap.size+i]?=some o
 below:aaj w.heap.size w w'
 size:w.heap.size+os.length≤w'.heap.size
theorem wT.nil(w:WO):wT w [] w:=⟨by simp,WB _ _,by simp⟩
theorem wT.alloc{w w':WO}{os:List Obj}(h:wT w os w')(hs:w'.heap.size=w.heap.size+os.length)(o:Obj):wT w (os++[o]) (w'.alloc o):=by
 refine⟨fun i p hi=>?_,h.below.alloc (by omega) o,by simp;omega⟩;rcases Nat.lt_trichotomy i os.length with h1|h1|h1
 ·rw[List.getElem?_append_left h1] at hi;exact(aaO _ _ _ (by omega)).trans (h.at_ i p hi)
 ·subst h1;simp at hi;subst hi;rw[←hs];exact aah w' _
 ·rw[List.getElem?_eq_none (by simp;omega)] at hi;cases hi
theorem wT.next{w w1 w2:WO}{os:List Obj}(h:wT w os w1)(hb:aaj w1.heap.size w1 w2):wT w os w2:=by
 have hs:=h.size;refine⟨fun i p hi=>(hb.block _ ?_).trans (h.at_ i p hi),h.below.trans (hb.mono (by omega)),Nat.le_trans hs hb.size⟩;have:=(List.getElem?_eq_some_iff.1 hi).1;omega
theorem ZZ(w:WO)(A B C D:Obj):wT w [A,B,C,D] ((((w.alloc A).alloc B).alloc C).alloc D):=
 ((((wT.nil w).alloc (by simp) A).alloc (by simp) B).alloc (by simp) C).alloc (by simp) D
theorem Nh{zs:List Int}(h:zs≠[]):Lib.compact zs≠[]:=by
 intro hc;unfold Lib.compact Lib.compactUpTo at hc;have h1:=List.map_eq_nil_iff.1 hc;have h2:(0:Nat)∈(aaG zs.length).filter (Lib.keeps zs.toArray):=List.mem_filter.2 ⟨List.mem_range.2 (List.length_pos_iff.2 h),Lib.keeps_lt_one _ 0 (by omega)⟩;rw[h1] at h2;cases h2
theorem aap(b:BB)(men sent marks:aag)(ml:List Mn)(ss:List Int)(ms:List Mk)(w:WO)(hL:Laid w)(hB:cH b men sent marks ml ss ms w)(hne:bn b ml ss ms≠[])(pl:List Int)(hp:js b pl)(mi:Nat)(h1:1≤mi)(h2:(mi:Int)≤b.minutes)
  (lv:aag) (hl:Reads w lv pl.length (pl.map (aaq jx))) :
  aaF pO 60 #[aaf (b.cells men sent marks),lv,k8 jx mi] w fun e w'=>∃x y r,gI (fun a=>b.B5 (b.cM+a.used) (bG pl) mi) (bn b ml ss ms)=x::r∧(x::r).getLast?=some y∧e=aas (aat #[aaf #[k8 jx x,k8 jx y],k8 jx 0])∧aaj w.heap.size w w':=by
 have hlen:=jq ss ms hB.ok hB.gV;have kg:0<(bn b ml ss ms).length:=List.length_pos_iff.2 hne;have cS:=hB.ok;have hao:=nO (ss:=ss) (ms:=ms) hB.ok hB.gV;obtain⟨pm,cm,rfl,_⟩:=aR hB.rm;obtain⟨pn,cn,rfl,_⟩:=aR hB.rs;obtain⟨pk,ck,rfl,_⟩:=aR hB.rk;obtain⟨pZ,qj,rfl,_⟩:=aR hl;have ht:=ZZ w (aae (b.cells (cO pm ml.length cm) (cO pn ss.length cn) (cO pk ms.length ck)) 28) (aae #[cO pZ pl.length qj] 25) (aae #[k8 jx mi] 3) (aae #[k8 jx 0,k8 jx 0] 23)
 have hop:=R3 b (cO pm ml.length cm) (cO pn ss.length cn) (cO pk ms.length ck) ml ss ms _ (hL.below ht.below) (hB.below ht.below) hne (w.heap.size+1) (w.heap.size+2) (fun W hb=>by
  have hw:=hb
  exact T6 b cS _ _ _ pl hp mi h1 h2 _ _ _ W ((hb.block (w.heap.size+1) (by simp)).trans (ht.at_ 1 _ rfl)) ((hb.block (w.heap.size+2) (by simp)).trans (ht.at_ 2 _ rfl)) ((hl.below ht.below).below hb))
 have HO:=Fc hop;have HT:=Fc ht;have HRl:=Fc hl;have Ra:=Fc hao;clear hop ht hL hB hl hao;generalize hall:bn b ml ss ms=all at *;clear hall;generalize ml.length=lm at *;generalize ss.length=ln at *;generalize ms.length=lk at *;obtain⟨of,hof⟩:∃of:eA→Int,(fun a=>b.B5 (b.cM+a.used) (bG pl) mi)=of:=⟨_,rfl⟩
 rw[hof];have HOf:=Fc hof;clear hof
 go_enter Tryz.func60,Tryz.ntmps60
 go_wp2_with (first
  |(go_at_call 103;refine HO.out.mono ?_;clear HO;rintro e w1 ⟨v,rfl,iU,hb1⟩
    have rI:=HT.out.next hb1
    obtain⟨gv,cv,rfl⟩:∃gv cv,v=cO (some ⟨gv,0,none⟩) all.length cv:=by
     rcases iU.1.2 with⟨_,h0⟩|⟨g,cap,cur,rfl,_⟩
     ·omega
     ·exact⟨g,cap,rfl⟩
    have oL:=Fc rI;have Ug:Hid (Reads (w1.alloc (aae (b.open (cO pm lm cm) (cO pn ln cn) (cO pk lk ck) (cO (some ⟨gv,0,none⟩) all.length cv)) 122)) (cO (some ⟨gv,0,none⟩) all.length cv) all.length (rowOf all)):=Fc ((iU.reads (by omega)).below ((WB _ _).alloc (aai _) _))
    have HNu:=Fc (J4 b (cO pm lm cm) (cO pn ln cn) (cO pk lk ck) all hne (by omega) of w1.heap.size (w.heap.size+1) (w.heap.size+2) _ _ Ug.out (fun a ha W hb=>by
     have q:=(oL.out.next ((WB _ _).alloc (aai _) (aae (b.open (cO pm lm cm) (cO pn ln cn) (cO pk lk ck) (cO (some ⟨gv,0,none⟩) all.length cv)) 122))).next hb
     have q1:=(hb.block w1.heap.size (by simp)).trans (aah w1 _);rw[←HOf.out]
     exact T4 b cS _ _ _ _ pl hp mi h1 h2 a (Ra.out a ha) _ _ _ _ W q1 (q.at_ 1 _ rfl) (q.at_ 2 _ rfl) (HRl.out.below q.below)))
    clear rI iU hb1)
  |(go_at_call 124;refine HNu.out.mono ?_;rintro e w2 ⟨gn,cgn,rfl,ho2,hb2⟩;have HO2:=Fc ho2;have oX:=Fc hb2;clear ho2 hb2))
 have hq:=(oL.out.next ((WB _ _).alloc (aai _) (aae (b.open (cO pm lm cm) (cO pn ln cn) (cO pk lk ck) (cO (some ⟨gv,0,none⟩) all.length cv)) 122))).next oX.out
 have LH:gI of all≠[]:=by
  have h1:sorted (all.map of)≠[]:=by
   intro h;have h2:(sorted (all.map of)).length=(all.map of).length:=List.length_mergeSort _;rw[h] at h2;simp at h2;exact hne (List.eq_nil_of_length_eq_zero h2.symm)
  exact Nh h1
 have hnl:(gI of all).length≤1000:=by
  have h1:=Lib.compact_length_le (sorted (all.map of));have h2:(sorted (all.map of)).length=all.length:=(List.length_mergeSort _).trans (List.length_map _);unfold gI;omega
 obtain⟨x,r,hxr⟩:∃x r,gI of all=x::r:=by
  cases h:gI of all with
  |nil=>exact(LH h).elim
  |cons x r=>exact⟨x,r,rfl⟩
 have hN:∃N,(gI of all).length=N:=⟨_,rfl⟩
 obtain⟨N,hN⟩:=hN;have hN1:1≤N:=by rw[←hN,hxr];simp
 obtain⟨y,hy⟩:∃y,(gI of all)[N-1]?=some y:=⟨_,aau (by omega)⟩
 obtain⟨cur,hgb,BI,hc0,hcl⟩:∃cur:Array aag,w2.heap[gn]?=some (aae cur 3 (0,0))∧w1.heap.size+1≤gn∧cur[0]?=some (k8 jx x)∧cur[N-1]?=some (k8 jx y):=by
  rcases HO2.out.2 with⟨h0,_⟩|⟨g',cap',cur,h0,hb0,h1,h2,h3,h4,h5⟩
  ·cases h0
  ·cases h0;rw[Nat.mul_one,hN] at h5
   have hz:∀(j:Nat) (u:Int),(gI of all)[j]?=some u→cur[j]?=some (k8 jx u):=fun j u hj=>by
    have h6:(cur.toList.take N)[j]?=some (aaq jx u):=by rw[h5,List.getElem?_map,hj];rfl
    rw[List.getElem?_take] at h6;split at h6
    ·simpa using h6
    ·cases h6
   refine⟨cur,h1,by simpa using hb0,hz 0 x (by rw[hxr];rfl),hz _ _ hy⟩
 have aeW:=oL.out.size;simp at aeW;have hwr:IntKind.i64.wrap ((N:Int)-1)=((N-1:Nat):Int):=by rw[eX _ (by omega) (by omega)];omega
 have i1:((N-1:Nat):Int)<(N:Int):=by omega
 have i2:(0:Int)≤((N-1:Nat):Int):=by omega
 have i3:(0:Int)<(N:Int):=by omega
 have hgB:gn≠w.heap.size+1+1+1:=by omega
 have HXR:=Fc hxr;have HY:=Fc hy;have HNN:=Fc hN;rw[hN];clear hxr hy LH hnl hN Ug HNu HO2 HRl Ra HT
 refine bQ (by kernel_rfl) [
 pV (cO (some ⟨gn,0,none⟩) N cgn),
  pV (pv gn 0),
  pV (k8 jx x),
  pV (cO (some ⟨gn,0,none⟩) N cgn),
  pV (cO (some ⟨gn,0,none⟩) N cgn),
  pV (k8 jx N),
  pV (k8 jx ((N-1:Nat):Int)),
  pV (pv gn (N-1)),
  pV (k8 jx y),
  pV (aaf #[k8 jx x,k8 jx y]),
  fun v ds w9=>w9.heap[w.heap.size+1+1+1]?=some (aae #[k8 jx x,k8 jx y] 23 (0,0)),
  pV (k8 jx 0)]
  (fun w9=>w9.heap[gn]?=some (aae cur 3 (0,0))∧(∃z1 z2,w9.heap[w.heap.size+1+1+1]?=some (aae #[z1,z2] 23 (0,0)))∧aaj w.heap.size w w9) [(10,cO (some ⟨gn,0,none⟩) N cgn),(6,pv (w.heap.size+1+1+1) 0)] (by kernel_rfl) ?rst (fun w1 w2 h hb=>⟨(hb.block _ (zb.1 h.1).1).trans h.1,h.2.1.imp fun z1 h1=>h1.imp fun z2 h2=>(hb.block _ (zb.1 h2).1).trans h2,h.2.2.trans (hb.mono h.2.2.size)⟩) (⟨hgb,⟨_,_,hq.at_ 3 _ rfl⟩,hq.below.drew⟩) ⟨rfl,rfl,trivial⟩ ?reach ?rfin
 case rst=>
  refine⟨sV,sV,sV,sV,sV,sV,sV,sV,sV,sV,?_,sV,trivial⟩
  ·rintro v ds w1 w2 hS h hb;exact(hb.block _ (zb.1 h).1).trans h
 case reach=>
  refine⟨?_,?_,?_,?_,?_,?_,?_,?_,?_,?_,?_,?_,trivial⟩<;>rintro ev w1 hS hc hg hf ⟨T2,b6,-⟩ hd
  ·clear hd;exact tV
  ·have d0:ev (aal 24)=_:=hd.1 rfl;clear hd;refine yv ?_ rfl;go_simp;intro hx;exfalso;omega
  ·have d1:ev (aal 25)=_:=hd.1 rfl;clear hd;have z:=aH hS.1 0 _ hc0;exact tV
  ·clear hd;exact tV
  ·clear hd;exact tV
  ·have d4:ev (aal 28)=_:=hd.1 rfl;clear hd;exact tV
  ·have d5:ev (aal 29)=_:=hd.1 rfl;clear hd;exact tV
  ·have d3:ev (aal 27)=_:=hd.1 rfl;have d6:ev (aal 30)=_:=hd.2.1 rfl;clear hd;exact tV
  ·have d7:ev (aal 31)=_:=hd.1 rfl;clear hd;have z:=aH hS.1 _ _ hcl;exact tV
  ·have d2:ev (aal 26)=_:=hd.1 rfl;have d8:ev (aal 32)=_:=hd.2.1 rfl;clear hd;exact tV
  ·have d9:ev (aal 33)=_:=hd.1 rfl;clear hd;obtain⟨hg1,⟨z1,z2,hz⟩,uo⟩:=hS;have c0:=aH hz 0 _ rfl;have c1:=aH hz 1 _ rfl;have f0:=cN hz 0;have f1:=cN hz 1;refine Lag.Yields.skip (w':=(w1.setCell ⟨w.heap.size+1+1+1,0,none⟩ (k8 jx x)).setCell ⟨w.heap.size+1+1+1,1,none⟩ (k8 jx y)) ?_ ⟨cP _ (cP _ hz),.inr ⟨⟨(Below.heap_setCell _ _ _ _ hgB).trans ((Below.heap_setCell _ _ _ _ hgB).trans hg1),⟨_,_,cP _ (cP _ hz)⟩,(uo.setCell (p:=⟨_,0,none⟩) (by show _≤w.heap.size+1+1+1;omega) _).setCell (p:=⟨_,1,none⟩) (by show _≤w.heap.size+1+1+1;omega) _⟩,?_⟩⟩
   ·go_simp
   ·intro j u ds hj hp
    match j,hp with
    |0,hp=>exact hp
    |1,hp=>exact hp
    |2,hp=>exact hp
    |3,hp=>exact hp
    |4,hp=>exact hp
    |5,hp=>exact hp
    |6,hp=>exact hp
    |7,hp=>exact hp
    |8,hp=>exact hp
    |9,hp=>exact hp
    |10,_=>exact(hj rfl).elim
    |11,hp=>exact hp
    |j+12,_=>trivial
  ·clear hd;exact tV
 case rfin=>
  intro a2 w2 hR;have hS:=hR.s;have M9:w2.heap[w.heap.size+1+1+1]?=some (aae #[k8 jx x,k8 jx y] 23 (0,0)):=hR.val 10 (by decide);have e11:a2.tmps.getD 7 aaC=_:=hR.val 11 (by decide);have k6:a2.tmps.getD 6 aaC=pv (w.heap.size+1+1+1) 0:=hR.kept (by kernel_rfl);have ha:=hR.lits 34 rfl;simp only[aaG,List.range.loop,List.map] at ha;clear hR;rw[e11,k6] at ha;clear e11;generalize a2.tmps.getD=zz at ha;have HE:=Fc M9;have HF:=Fc hS.2.2;clear M9 hS k6;subst ha;go_wp2;refine bodyPost_ret (results_cell_tmp (g:=w.heap.size+1+1+1) rfl rfl (run_loadVar_row _ _ 23 23 _ (0,0) _ HE.out Tryz.underlying23 rfl (by kernel_rfl))) rfl ⟨x,y,r,HXR.out,?_,rfl,HF.out⟩;rw[←HXR.out,List.getLast?_eq_getElem?,HNN.out];exact HY.out
end Go.Proofs.YtffladgmkiimjaaGreatDoor
namespace Go.Proofs.YtffladgmkiimjaaGreatDoor
open Go.RowKit Go.Lag Go.Maps
theorem wfI{n:Int}(h0 : -9223372036854775808≤n)(h1:n≤9223372036854775807):(Lit.int .i64 n).wf=true:=by
 simp[Lit.wf,IntKind.min,IntKind.max,IntKind.signed,IntKind.bits];omega
def cnt(i:Nat)(l:List eA)(n:Int):Nat:=l.countP fun a=>a.get i==n
def tN(i:Nat)(all:List eA):Nat→Nat
 |0=>0
 |j+1=>max (tN i all j) (cnt i (all.take (j+1)) ((all.getD j ⟨0,0,0,0⟩).get i))
def rb(all:List eA):Nat→Int × Nat
 |0=>(-1,all.length)
 |i+1=>if tN i all all.length<(rb all i).2 then((i:Int),tN i all all.length) else rb all i
theorem Af:Keyed pO 3:=int_keyed aaA
theorem Cz(w:WO):(zeroValue 3).run pO w=.ok (.int .i64 0) w:=by kernel_rfl
def ya(D:DataW Unit)(i:Nat)(l:List eA):Prop:=IsMap D∧∀n:Int,D.atKey (.int .i64 n) (.lit (.int .i64 0))=.lit (.int .i64 (cnt i l n))
theorem ya.nil(i:Nat):ya (.map []) i []:=⟨⟨_,rfl⟩,fun n=>rfl⟩
theorem ya.put{D:DataW Unit}{i:Nat}{l:List eA}(h:ya D i l)(a:eA):ya (D.put (.int .i64 (a.get i)) (.lit (.int .i64 ((cnt i l (a.get i):Int)+1)))) i (l++[a]):=by
 refine⟨h.1.put _ _,fun n=>?_⟩
 by_cases hn:a.get i=n
 ·subst hn;rw[atKey_put_same h.1 (by trivial)];simp[cnt,List.countP_append]
 ·rw[atKey_put_other (by simpa using fun e=>hn e.symm),h.2 n];simp[cnt,List.countP_append,hn]
theorem Jv(i:Nat)(all:List eA):∀j,j≤all.length→tN i all j≤j
 |0,_=>aai _
 |j+1,h=>by
  have h1:=Jv i all j (by omega);have h2:cnt i (all.take (j+1)) ((all.getD j ⟨0,0,0,0⟩).get i)≤(all.take (j+1)).length:=List.countP_le_length;simp only[List.length_take] at h2;unfold tN;omega
theorem Lp(all:List eA):∀i,(rb all i).2≤all.length
 |0=>aai _
 |i+1=>by
  have:=Lp all i;unfold rb;split<;>simp<;>omega
theorem aan(b:BB)(men sent marks:aag)(ml:List Mn)(ss:List Int)(ms:List Mk)(w:WO)(hL:Laid w)(hB:cH b men sent marks ml ss ms w)(hne:bn b ml ss ms≠[]) :
  aaF pO 53 #[.agg (b.cells men sent marks)] w fun e w'=>e=.returned (.tuple #[.int .i64 (rb (bn b ml ss ms) ml.length).1,.int .i64 (rb (bn b ml ss ms) ml.length).2,.int .i64 0])∧aaj w.heap.size w w':=by
 have hlen:=jq ss ms hB.ok hB.gV;have kg:0<(bn b ml ss ms).length:=List.length_pos_iff.2 hne;have cS:=hB.ok;have hao:=nO (ss:=ss) (ms:=ms) hB.ok hB.gV;have S5:=hB.gV.len;obtain⟨pm,cm,rfl,_⟩:=aR hB.rm;obtain⟨pn,cn,rfl,_⟩:=aR hB.rs;obtain⟨pk,ck,rfl,_⟩:=aR hB.rk;have b1:aaj w.heap.size w (w.alloc (.cells (b.cells (.slice pm ml.length cm) (.slice pn ss.length cn) (.slice pk ms.length ck)) 28)):=(WB _ _).alloc (aai _) _;have HX:=Fc (aah w (.cells (b.cells (.slice pm ml.length cm) (.slice pn ss.length cn) (.slice pk ms.length ck)) 28));have HO:=Fc (yI b _ _ _ ml ss ms _ (hL.below b1) (hB.below b1) hne (fun W' _=>Bx b _ _ _ W'));have yg:=Fc b1;have Ra:=Fc hao;clear hL hB hne hao b1;generalize bn b ml ss ms=all at *;generalize ml.length=lm at *;generalize ss.length=ln at *;generalize ms.length=lk at *;have hmm:=@run_makeMap pO
 go_enter Tryz.func53,Tryz.ntmps53
 go_wp2_with (first
  |(refine wpList_load_row rfl 28 _ rfl _ rfl 28 _ (0,0) _ HX.out Tryz.underlying28 rfl (by kernel_rfl) ?_)
  |(refine wpList_store_row rfl 122 _ _ rfl _ _ rfl rfl 122 _ WJ.out (by kernel_rfl) rfl (by simp[Value.oneCell']) ?_)
  |(go_at_call 103;refine HO.out.mono ?_;clear HO;rintro e w1 ⟨v,rfl,iU,hb1⟩
    obtain⟨gv,cv,rfl⟩:∃gv cv,v=.slice (some ⟨gv,0,none⟩) all.length cv:=by
     rcases iU.1.2 with⟨_,h0⟩|⟨g,cap,cur,rfl,_⟩
     ·omega
     ·exact⟨g,cap,rfl⟩
    have LB:=Fc iU;have oX:=Fc hb1;have WJ:=Fc (aah w1 (.cells gU 122))
    clear iU hb1))
 have hk2:((w1.alloc (.cells gU 122)).setRow w1.heap.size (b.open (.slice pm lm cm) (.slice pn ln cn) (.slice pk lk ck) (.slice (some ⟨gv,0,none⟩) all.length cv))).heap[w1.heap.size]?=some (.cells (b.open (.slice pm lm cm) (.slice pn ln cn) (.slice pk lk ck) (.slice (some ⟨gv,0,none⟩) all.length cv)) 122 (0,0)):=cV WJ.out
 have uo:aaj w.heap.size w ((w1.alloc (.cells gU 122)).setRow w1.heap.size (b.open (.slice pm lm cm) (.slice pn ln cn) (.slice pk lk ck) (.slice (some ⟨gv,0,none⟩) all.length cv))):=by
  have h1:=yg.out.trans (oX.out.mono yg.out.size);exact dv (h1.alloc h1.size _) h1.size
 have BI:=(LB.out.1.lt gv rfl).2
 have YJ:=LB.out.at_ (W':=((w1.alloc (.cells gU 122)).setRow w1.heap.size (b.open (.slice pm lm cm) (.slice pn ln cn) (.slice pk lk ck) (.slice (some ⟨gv,0,none⟩) all.length cv)))) fun g hg=>by
  have:g=gv:=by simpa [Value.ownBlock] using hg.symm
  subst this;exact(setRow_other (by omega)).trans (aaO _ _ _ BI)
 have kh:w.heap.size<w1.heap.size:=by have:=oX.out.size;simp at this;omega
 have hx2:((w1.alloc (.cells gU 122)).setRow w1.heap.size (b.open (.slice pm lm cm) (.slice pn ln cn) (.slice pk lk ck) (.slice (some ⟨gv,0,none⟩) all.length cv))).heap[w.heap.size]?=some (.cells (b.cells (.slice pm lm cm) (.slice pn ln cn) (.slice pk lk ck)) 28 (0,0)):=by
  refine(setRow_other (by omega)).trans ((aaO _ _ _ (by omega)).trans ((oX.out.block _ ?_).trans HX.out));simp
 have BH:=YJ.reads (by omega);generalize hWe:((w1.alloc (.cells gU 122)).setRow w1.heap.size (b.open (.slice pm lm cm) (.slice pn ln cn) (.slice pk lk ck) (.slice (some ⟨gv,0,none⟩) all.length cv)))=W2 at *;generalize w1.heap.size=k at *
 have HC:Hid (∀j u,(rowOf all)[j]?=some u→W2.cell? ⟨gv,0+j,none⟩=some u):=Fc (by
  rcases BH with⟨h0,_⟩|⟨g,off,cap,h0,_,_,h1⟩
  ·cases h0
  ·cases h0;exact h1)
 have afA:=(YJ.1.lt gv rfl).2;have y1:=aH hk2 15 _ rfl;have f1:=cN hk2 15;have FX:=Fc hk2;have HX2:=Fc hx2;have UL:=Fc uo;have HWe:=Fc hWe;clear hWe BH YJ LB yg oX HX WJ uo BI hk2 hx2
 have FW:Hid (∀w9,aaj W2.heap.size W2 w9→w9.cell? ⟨k,15,none⟩=some (.slice (some ⟨gv,0,none⟩) all.length cv)∧w9.heap[k]?=some (.cells (b.open (.slice pm lm cm) (.slice pn ln cn) (.slice pk lk ck) (.slice (some ⟨gv,0,none⟩) all.length cv)) 122 (0,0))∧w9.heap[w.heap.size]?=some (.cells (b.cells (.slice pm lm cm) (.slice pn ln cn) (.slice pk lk ck)) 28 (0,0))):=Fc fun w9 MW=>by
  have h1:=(MW.block _ (zb.1 FX.out).1).trans FX.out;exact⟨aH h1 15 _ rfl,h1,(MW.block _ (zb.1 HX2.out).1).trans HX2.out⟩
 refine bQ (by kernel_rfl) [
 pV (.pointer (some ⟨k,15,none⟩)),
  pV (.slice (some ⟨gv,0,none⟩) all.length cv),
  pV (.int .i64 all.length),
  pV (.int .i64 (-1)),
  pV (.int .i64 all.length)]
  (fun w9=>aaj W2.heap.size W2 w9) [(1,pv w.heap.size 0),(5,pv k 0)] (by kernel_rfl) ?rst (fun w1 w2 h hb=>h.trans (hb.mono h.size)) (by have:=HWe.out;subst this;exact(WB _ _).drew) ⟨rfl,rfl,trivial⟩ ?reach ?rfin
 case rst=>
  refine⟨sV,sV,sV,sV,sV,trivial⟩
 case reach=>
  refine⟨?_,?_,?_,?_,?_,trivial⟩<;>rintro ev w1 hS hc hg hf ⟨b1,b5,-⟩ hd
  ·clear hd;exact tV
  ·have d0:ev (.tmp 19)=_:=hd.1 rfl;clear hd;obtain y1:=(FW.out w1 hS).1;exact tV
  ·have d1:ev (.tmp 20)=_:=hd.1 rfl;clear hd;exact tV
  ·clear hd;exact tV
  ·have d2:ev (.tmp 21)=_:=hd.1 rfl;clear hd;exact tV
 case rfin=>
  intro a2 w2 hR;have hS:=hR.s;have e3:a2.tmps.getD 2 aaC=_:=hR.val 3 (by decide);have e4:a2.tmps.getD 3 aaC=_:=hR.val 4 (by decide);have k1:a2.tmps.getD 1 aaC=pv w.heap.size 0:=hR.kept (by kernel_rfl);have k4:a2.tmps.getD 4 aaC=.int .i64 0:=hR.kept (by kernel_rfl);have k5:a2.tmps.getD 5 aaC=pv k 0:=hR.kept (by kernel_rfl);have ha:=hR.lits 60 rfl;simp only[aaG,List.range.loop,List.map] at ha;clear hR;rw[e3,e4,k1,k4,k5] at ha;generalize a2.tmps.getD=zz at ha;have oX:=Fc hS;clear e3 e4 k1 k4 k5 hS y1 f1;subst ha;obtain⟨y1,hk2,hx2⟩:=FW.out w2 oX.out;have f1:=cN hk2 15;obtain⟨x0,x1,x2,x3,x4,x5,x6,x7,x8,x9,nS,nR,oO,n4,oK⟩:=bM hx2;have fx:=cN hx2 12;clear hk2 hx2;generalize hL:all.length=L at *;have HL:=Fc hL;clear hL x0 x1 x2 x3 x4 x5 x6 x7 x8 x9 nS nR n4 oK;go_wp2
  go_loopw [2,3,6,7,8,10,25] (fun mn lf _ _ _ _ i wr=>∃m:Nat,m≤lm∧i=.int .i64 m∧mn=.int .i64 (rb all m).1∧lf=.int .i64 (rb all m).2∧aaj w2.heap.size w2 wr) (fun _ _ _ _ _ _ i _=>lm-(intOf i).toNat)
  case atStart=>exact⟨0,by omega,rfl,rfl,by simp[rb,HL.out],WB _ _⟩
  case round=>
   obtain⟨m,hm,rfl,rfl,rfl,eh⟩:=hrel;rename WO=>wo;have hsz:=eh.size
   by_cases hlt:m<lm
   ·have G9:=(eh.cell (p:=⟨k,15,none⟩) (zb.1 (FW.out w2 oX.out).2.1).1).trans y1;have wS:=Fc eh
    have hkb:k<wo.heap.size:=by
     have:=(zb.1 (FW.out w2 oX.out).2.1).1;omega
    have hgb:gv<wo.heap.size:=by have:=oX.out.size;omega
    have fz:(wo.alloc (.map #[] 0)).frozen? ⟨k,15,none⟩=false:=by
     have:=(FW.out wo (oX.out.trans (eh.mono oX.out.size))).2.1;exact cN ((aaO _ _ _ hkb).trans this) 15
    have HCr:Hid (∀W,aaj (wo.heap.size) wo W→∀i u,(rowOf all)[i]?=some u→W.cell? ⟨gv,0+i,none⟩=some u):=Fc fun W hW i u hi=>by
     have:=HC.out i u hi;have h2:=(oX.out.trans ((eh.mono oX.out.size).trans (hW.mono (by have:=oX.out.size;omega)))).cell (p:=⟨gv,0+i,none⟩) afA;exact h2.trans this
    have HAs:Hid (rb all (m+1)=if tN m all all.length<(rb all m).2 then((m:Int),tN m all all.length) else rb all m):=Fc rfl;have hal:=Lp all m;generalize rb all m=am at *;obtain⟨am,al⟩:=am;simp only[] at hal;clear eh;go_wp2
    go_loopw [8,10,32] (fun wst _ i wq=>∃j:Nat,j≤L∧i=.int .i64 j∧wst=.int .i64 (tN m all j)∧(∃D,ya D m (all.take j)∧wq.ownsMap pO 3 (plainElem (H:=Unit) pO 3) wo.heap.size j D)∧aaj wo.heap.size wo wq) (fun _ _ i _=>L-(intOf i).toNat)
    case atStart=>exact⟨0,by omega,rfl,rfl,⟨_,ya.nil _,World.ownsMap_made _ _ _ _⟩,(WB _ _).alloc (aai _) _⟩
    case round=>
     obtain⟨j,hj,rfl,rfl,⟨D,hD,hown⟩,yb⟩:=hrel
     by_cases LI:j<L
     ·have IE:j<all.length:=by rw[HL.out];exact LI
      have YH:=yb.size;have hql:=hown.lt;have hbq:=oX.out.size;obtain⟨c0,c1,c2,c3⟩:=Reads.cell (w:=wr) (cap:=cv) (n:=L) (fun i u hi=>HCr.out wr yb i u hi) j IE;simp only[Nat.zero_add] at c0 c1 c2 c3;have hw1:tN m all (j+1)=max (tN m all j) (cnt m (all.take (j+1)) ((all.getD j ⟨0,0,0,0⟩).get m)):=rfl;have hwl:=Jv m all j (by omega);have hgd:all.getD j ⟨0,0,0,0⟩=all[j]:=by simp[List.getD,aau IE]
      have sX:all.take (j+1)=all.take j++[all[j]]:=List.take_append_getElem IE |>.symm
      have hcl:cnt m (all.take j) (all[j].get m)≤(all.take j).length:=List.countP_le_length
      have VQ:cnt m (all.take (j+1)) (all[j].get m)=cnt m (all.take j) (all[j].get m)+1:=by
       show List.countP _ (all.take (j+1))=_;rw[sX,List.countP_append,List.countP_singleton];simp[cnt]
      have hDp:=hD.put all[j];rw[←sX] at hDp;have hDk:=hD.2 (all[j].get m);simp only[List.length_take] at hcl
      have hgo:0≤all[j].get m∧all[j].get m≤99:=by
       have:=Ra.out _ (aaB IE);unfold eA.get;split
       ·exact this.m0
       ·exact this.m1
       ·exact this.m2
      rw[hgd,VQ] at hw1;have HCn:=Fc VQ;have Ti:=aah wr (.cells all[j].cells 134)
      have hx:(wr.alloc (.cells all[j].cells 134)).cell? ⟨wr.heap.size,1+m,none⟩=some (.int .i64 (all[j].get m)):=by
       have h3:m<3:=by omega
       match m,h3 with
       |0,_=>exact aH Ti 1 _ rfl
       |1,_=>exact aH Ti 2 _ rfl
       |2,_=>exact aH Ti 3 _ rfl
      have hoa:=hown.alloc (.cells all[j].cells 134);have HBa:=Fc Ti;have Q9:=Fc yb;have HDp:=Fc hDp;have HDk:=Fc hDk;have HW1:=Fc hw1;clear hD hown sX hgd VQ Ti yb hDp hDk;generalize all[j]=a at *;generalize hcc:cnt m (all.take j) (a.get m)=cc at *;generalize hww:tN m all j=ww at *;have hkey:keyOf pO 3 (.int .i64 (a.get m))=some (.int .i64 (a.get m)):=keyOf_int_mk aaA (wfI (by omega) (by omega));have zz:IntKind.i64.wrap ((cc:Int)+1)=(cc:Int)+1:=by rw[IntKind.wrap_i64];omega
      have HNe:Hid (wr.heap.size≠wo.heap.size):=Fc (by omega);rcases Int.lt_or_le (ww:Int) ((cc:Int)+1) with q1|q1
      ·go_wp2_with (first
        |(at_lookup;refine wpList_lookup_own_int _ rfl _ _ 146 rfl 3 3 .i64 Af Tryz.underlying146 aaA (Cz _) wo.heap.size j _ rfl hoa _ _ rfl hkey ?_;intro c hat hwc
          obtain rfl:c=(cc:Int):=by rw[HDk.out] at hat;simpa using hat.symm)
        |(at_lookup;refine wpList_lookup_own_int _ rfl _ _ 146 rfl 3 3 .i64 Af Tryz.underlying146 aaA (Cz _) wo.heap.size (j+1) _ rfl hown1 _ _ rfl hkey ?_;intro c hat hwc
          obtain rfl:c=(cc:Int)+1:=by have:=HDp.out.2 (a.get m);rw[HCn.out] at this;rw[this] at hat;simpa using hat.symm)
        |(at_mapUpdate;refine wpList_mapUpdate_own _ rfl _ _ _ 146 rfl 3 3 Af Tryz.underlying146 _ wo.heap.size j _ rfl hoa (by unfold maxLen;omega) _ _ _ rfl rfl hkey _ [] (plainElem_int aaA (wfI (by omega) (by omega))) ?_;intro w1 hown1 D8
          have hx1:=(D8.cell hx (by simpa using HNe.out))
          clear hx)
        |go_in)
       go_roundw
       case rel=>
        refine⟨j+1,by omega,by simp,?_,⟨_,HDp.out,hown1⟩,(Q9.out.alloc (by omega) _).grown D8 (by simp;omega) (fun k hk=>by cases hk;exact aai _)⟩;exact congrArg (aaq .i64) (by have:=HW1.out;omega)
       case measure=>simp[intOf];omega
      ·go_wp2_with (first
        |(at_lookup;refine wpList_lookup_own_int _ rfl _ _ 146 rfl 3 3 .i64 Af Tryz.underlying146 aaA (Cz _) wo.heap.size j _ rfl hoa _ _ rfl hkey ?_;intro c hat hwc
          obtain rfl:c=(cc:Int):=by rw[HDk.out] at hat;simpa using hat.symm)
        |(at_lookup;refine wpList_lookup_own_int _ rfl _ _ 146 rfl 3 3 .i64 Af Tryz.underlying146 aaA (Cz _) wo.heap.size (j+1) _ rfl hown1 _ _ rfl hkey ?_;intro c hat hwc
          obtain rfl:c=(cc:Int)+1:=by have:=HDp.out.2 (a.get m);rw[HCn.out] at this;rw[this] at hat;simpa using hat.symm)
        |(at_mapUpdate;refine wpList_mapUpdate_own _ rfl _ _ _ 146 rfl 3 3 Af Tryz.underlying146 _ wo.heap.size j _ rfl hoa (by unfold maxLen;omega) _ _ _ rfl rfl hkey _ [] (plainElem_int aaA (wfI (by omega) (by omega))) ?_;intro w1 hown1 D8
          have hx1:=(D8.cell hx (by simpa using HNe.out))
          clear hx)
        |go_in)
       go_roundw
       case rel=>
        refine⟨j+1,by omega,by simp,?_,⟨_,HDp.out,hown1⟩,(Q9.out.alloc (by omega) _).grown D8 (by simp;omega) (fun k hk=>by cases hk;exact aai _)⟩;exact congrArg (aaq .i64) (by have:=HW1.out;omega)
       case measure=>simp[intOf];omega
     ·obtain rfl:j=L:=by omega
      have Q9:=Fc yb;have HHm:=hmm;rw[HL.out] at HAs;clear hown yb hD;generalize tN m all j=ww at *
      by_cases h9:(ww:Int)<al
      ·go_wp2;go_roundw
       case rel=>
        refine⟨m+1,by omega,by simp,?_,?_,wS.out.trans (Q9.out.mono hsz)⟩
        ·rw[HAs.out,if_pos (by omega)]
        ·rw[HAs.out,if_pos (by omega)]
       case measure=>simp[intOf];omega
      ·go_wp2;go_roundw
       case rel=>
        refine⟨m+1,by omega,by simp,?_,?_,wS.out.trans (Q9.out.mono hsz)⟩
        ·rw[HAs.out,if_neg (by omega)]
        ·rw[HAs.out,if_neg (by omega)]
       case measure=>simp[intOf];omega
   ·obtain rfl:m=lm:=by omega
    have wS:=Fc eh;clear eh;go_wp2
    go_ret3
    exact⟨rfl,UL.out.trans ((oX.out.trans (wS.out.mono oX.out.size)).mono UL.out.size)⟩
end Go.Proofs.YtffladgmkiimjaaGreatDoor
namespace Go.Proofs.YtffladgmkiimjaaGreatDoor
open Go.RowKit Go.Lag
open Go.Conc
theorem TC:ex.Ok:=⟨by decide,by decide,by decide,by decide,by decide,by decide,by decide,by decide,by decide,by decide⟩
theorem OM:wQ jQ:=by
 refine⟨fun m h=>?_,fun i k hi hk hik=>?_,by decide⟩
 ·simp only[jQ,List.mem_cons,List.not_mem_nil,or_false] at h;rcases h with rfl|rfl
  ·refine⟨⟨by decide,fun k h=>?_⟩,by decide⟩;have h3:k<3:=h
   match k,h3 with
   |0,_=>exact .inl (show 97≤97∧97≤122 from by decide)
   |1,_=>exact .inl (show 97≤110∧110≤122 from by decide)
   |2,_=>exact .inl (show 97≤110∧110≤122 from by decide)
  ·refine⟨⟨by decide,fun k h=>?_⟩,by decide⟩;have h3:k<2:=h
   match k,h3 with
   |0,_=>exact .inl (show 97≤98∧98≤122 from by decide)
   |1,_=>exact .inl (show 97≤111∧111≤122 from by decide)
 ·have h2:k<2:=hk;obtain⟨rfl,rfl⟩:i=0∧k=1:=by omega
  show(⟨#[97,110,110]⟩:ByteArray)≠⟨#[98,111]⟩;decide
def rj:Mk:=⟨1,11,11⟩
def Yn:Mk:=⟨1,12,12⟩
theorem Yo:jF ex [rj]:=⟨by decide,by decide⟩
theorem Vm:jF ex [rj,Yn]:=⟨by decide,by decide⟩
theorem OO:bn ex jQ [] []=[⟨0,3,4,0⟩,⟨0,4,4,0⟩,⟨1,3,4,0⟩,⟨1,4,4,0⟩]:=by decide+kernel
theorem KT:bn ex jQ [] [rj]=[⟨0,4,4,0⟩,⟨1,3,4,0⟩,⟨1,4,4,0⟩]:=by decide+kernel
theorem TI:bn (ex.lk 0 0) jQ [] [rj]=[⟨0,4,4,0⟩]:=by decide+kernel
theorem KS:bn ex jQ [] []≠[]:=by rw[OO];simp
theorem TD:bn ex jQ [] [rj]≠[]:=by rw[KT];simp
theorem XF:bn (ex.lk 0 0) jQ [] [rj]≠[]:=by rw[TI];simp
theorem Hu{b:BB}{pl:List Int}(h:(pl.all fun p=>decide (1≤p∧p≤b.minutes))=true)(ha:∀(k:Nat) (h:k+1<pl.length),pl[k]<pl[k+1])(hl:(pl.length:Int)≤b.eT):js b pl:=
 ⟨fun p hp=>by have:=List.all_eq_true.1 h p hp;simpa using this,ha,hl⟩
theorem Mr:js ex [1,3]:=Hu (by decide) (fun k h=>by have h2:k+1<2:=h;obtain rfl:k=0:=(by omega);simp) (by decide)
theorem X8:js ex [1,2]:=Hu (by decide) (fun k h=>by have h2:k+1<2:=h;obtain rfl:k=0:=(by omega);simp) (by decide)
theorem W7:js ex [1]:=Hu (by decide) (fun k h=>by have h2:k+1<1:=h;omega) (by decide)
theorem RQ(b:BB)(h:b.Ok):js b []:=⟨by simp,fun k h=>by simp at h,by have:=h.eT;simpa using this.1⟩
theorem zV{zs ys:List Int}(hp:zs.Perm ys)(hs:ys.Pairwise (·≤·)):sorted zs=ys:=by
 have h1:(sorted zs).Pairwise (fun a b=>(decide (a≤b))=true):=List.pairwise_mergeSort (fun a b c h1 h2=>by simp at *;omega) (fun a b=>by simp;omega) zs;exact List.Perm.eq_of_pairwise (le:=fun a b=>a≤b) (fun a b _ _ h1 h2=>by omega) (h1.imp fun h=>by simpa using h) hs ((List.mergeSort_perm zs _).trans hp)
theorem vu(lt:Nat→Nat→Bool)(p:Nat):∀(r:List Nat) (x:Nat),p∈x::r→(∀y∈x::r,(y==p||(lt p y && !lt y p))=true)→jA lt x r=p
 |[],x,hm,_=>(List.mem_singleton.1 hm).symm
 |y::r,x,hm,h=>by
  show jA lt (if lt y x=true then y else x) r=p;have hx:=h x (by simp);have hy:=h y (by simp);have hr:∀z∈r,(z==p||(lt p z && !lt z p))=true:=fun z hz=>h z (by simp[hz])
  by_cases e1:x=p
  ·subst e1
   have:(if lt y x=true then y else x)=x:=by
    by_cases hl:lt y x=true
    ·simp[hl] at hy;rw[if_pos hl];exact hy
    ·rw[if_neg hl]
   rw[this]
   exact vu lt x r x (by simp) fun z hz=>by
    rcases List.mem_cons.1 hz with rfl|hz
    ·simp
    ·exact hr z hz
  ·by_cases e2:y=p
   ·subst e2
    have hx':lt y x=true:=by
     rw[Bool.or_eq_true,Bool.and_eq_true] at hx;rcases hx with hx|hx
     ·exact absurd (by simpa using hx) e1
     ·exact hx.1
    rw[if_pos hx']
    exact vu lt y r y (by simp) fun z hz=>by
     rcases List.mem_cons.1 hz with rfl|hz
     ·simp
     ·exact hr z hz
   ·have hp:p∈r:=by
     rcases List.mem_cons.1 hm with h1|h1
     ·exact absurd h1.symm e1
     ·rcases List.mem_cons.1 h1 with h2|h2
      ·exact absurd h2.symm e2
      ·exact h2
    refine vu lt p r _ (by simp[hp]) fun z hz=>?_;rcases List.mem_cons.1 hz with rfl|hz
    ·by_cases hl:lt y x=true
     ·rw[if_pos hl];exact hy
     ·rw[if_neg hl];exact hx
    ·exact hr z hz
theorem BM:jS ex (dp [] []).toNat (bG []) (bn ex jQ [] []) 512=[10,12,18,20]:=by decide+kernel
section
variable{w:WO}{m s k:aag}
theorem Wc(hL:Laid w)(hB:cH ex m s k jQ [] [] w):aaF pO 33 #[aaf (ex.cells m s k)] w fun e w'=>e=aas (aat #[k8 jx 60,k8 jx 0])∧aaj w.heap.size w w':=Ue ex m s k jQ [] [] w hL hB
theorem acU(hL:Laid w)(hB:cH ex m s k jQ [] [] w):aaF pO 65 #[aaf (ex.cells m s k),k8 jx 37] w fun e w'=>e=aas (aat #[k8 jx 18,k8 jx 0])∧aaj w.heap.size w w':=aak ex m s k jQ [] [] w hL hB 37 (by decide)
theorem iE{q:Nat}{l:List Int}{t:TypeId}(h:w.heap[q]?=some (aae ((l.map (aaq jx)).toArray) t (0,0)))(hl:l.length≤100):Reads w (cO (some ⟨q,0,none⟩) l.length l.length) l.length (l.map (aaq jx)):=
 .inr ⟨q,0,l.length,rfl,by omega,(zb.1 h).1,fun j u hj=>by rw[Nat.zero_add];exact aH h j u (by simpa using hj)⟩
theorem ZJ(hL:Laid w)(hB:cH ex m s k jQ [] [] w)(q q2:Nat)(h1:w.heap[q]?=some (aae #[k8 jx 3,k8 jx 4] 3 (0,0)))(h2:w.heap[q2]?=some (aae #[k8 jx 1] 3 (0,0))) :
  aaF pO 32 #[aaf (ex.cells m s k),aaf #[k8 jx 0,cO (some ⟨q,0,none⟩) 2 2],cO (some ⟨q2,0,none⟩) 1 1] w fun e w'=>∃v,e=aas (aat #[v,k8 jx 0])∧Reads w' v 5 ([44,38,29,20,11].map (aaq jx))∧aaj w.heap.size w w':=by
 have h:=WD ex m s k jQ [] [] w hL hB 0 (by decide) [3,4] (by decide) rfl q 0 2 (zb.1 h1).1 (by decide) (fun j u hj=>by rw[Nat.zero_add];exact aH h1 j u (by simpa using hj)) [1] W7 _ (iE (l:=[1]) h2 (by decide));have e:ex.mR (ex.cM+(o8 0 [3,4]).used) (bG [1]) ex.minutes.toNat=[44,38,29,20,11]:=by decide+kernel
 rw[e] at h;exact h
theorem TH(hL:Laid w)(hB:cH ex m s k jQ [] [] w):aaF pO 42 #[aaf (ex.cells m s k)] w fun e w'=>e=aas (aat #[k8 jx 4,k8 jx 0])∧aaj w.heap.size w w':=by
 have h:=zI ex m s k jQ [] [] w hL hB;rw[OO] at h;exact h
theorem acX(hL:Laid w)(hB:cH ex m s k jQ [] [] w)(q:Nat)(h1:w.heap[q]?=some (aae #[k8 jx 1,k8 jx 3] 3 (0,0))) :
  aaF pO 60 #[aaf (ex.cells m s k),cO (some ⟨q,0,none⟩) 2 2,k8 jx 5] w fun e w'=>e=aas (aat #[aaf #[k8 jx 21,k8 jx 31],k8 jx 0])∧aaj w.heap.size w w':=by
 have h:=aap ex m s k jQ [] [] w hL hB KS [1,3] Mr 5 (by decide) (by decide) _ (iE (l:=[1,3]) h1 (by decide));refine h.mono ?_;rintro e w' ⟨x,y,r,hn,hy,rfl,hb⟩
 have e1:gI (fun a=>ex.B5 (ex.cM+a.used) (bG [1,3]) 5) (bn ex jQ [] [])=[21,26,31]:=by
  unfold gI;rw[zV (ys:=[21,26,26,31]) (by decide+kernel) (by decide)];decide+kernel
 rw[e1] at hn;cases hn;cases hy;exact⟨rfl,hb⟩
theorem ZL(hL:Laid w)(hB:cH ex m s k jQ [] [] w)(q:Nat)(h1:w.heap[q]?=some (aae #[k8 jx 1,k8 jx 3] 3 (0,0))) :
  aaF pO 44 #[aaf (ex.cells m s k),cO (some ⟨q,0,none⟩) 2 2] w fun e w'=>e=aas (aat #[k8 jx 1,k8 jx 0])∧aaj w.heap.size w w':=by
 have h:=O9 ex m s k jQ [] [] w hL hB KS [1,3] Mr _ (iE (l:=[1,3]) h1 (by decide));have e:pq (KF ex (bn ex jQ [] []) (bG [1,3])) (bn ex jQ [] []).length=1:=by decide+kernel
 rw[e] at h;exact h
theorem Wd(hL:Laid w)(hB:cH ex m s k jQ [] [] w)(q:Nat)(h1:w.heap[q]?=some (aae #[k8 jx 1,k8 jx 2] 3 (0,0))) :
  aaF pO 44 #[aaf (ex.cells m s k),cO (some ⟨q,0,none⟩) 2 2] w fun e w'=>e=aas (aat #[k8 jx 0,k8 jx 0])∧aaj w.heap.size w w':=by
 have h:=O9 ex m s k jQ [] [] w hL hB KS [1,2] X8 _ (iE (l:=[1,2]) h1 (by decide));have e:pq (KF ex (bn ex jQ [] []) (bG [1,2])) (bn ex jQ [] []).length=0:=by decide+kernel
 rw[e] at h;exact h
theorem acV(hL:Laid w)(hB:cH ex m s k jQ [] [] w) :
  aaF pO 63 #[aaf (ex.cells m s k),cO none 0 0] w fun e w'=>e=aas (aat #[k8 jx 2,L9 true,k8 jx 0])∧aaj w.heap.size w w':=by
 have h:=aam ex m s k jQ [] [] w hL hB KS [] (RQ _ TC) (cO none 0 0) (.inl ⟨rfl,rfl,rfl⟩);have e:ud ex (bn ex jQ [] []) (bG [])=(2,true):=by decide+kernel
 rw[e] at h;exact h
theorem TG(hL:Laid w)(hB:cH ex m s k jQ [] [] w)(p1:Plain w m)(p2:Plain w s)(p3:Plain w k) :
  iQ pO 20 #[aaf (ex.cells m s k)] w fun v w'=>∃lv:aag,v=aat #[lv,L9 true,k8 jx 0]∧Reads w' lv 2 ([1,3].map (aaq jx))∧Old w w':=by
 have h:=TA hL hB p1 p2 p3 KS (by rw[BM];simp) (by rw[BM];decide) 10 (fun x r hp=>vu rZ 10 r x (hp.mem_iff.2 (by rw[BM];decide)) fun y hy=>by
  have:=hp.mem_iff.1 hy;rw[BM] at this;have h2:([10,12,18,20].all fun y=>y==10||(rZ 10 y && !rZ y 10))=true:=by decide+kernel
  exact List.all_eq_true.1 h2 y this)
 have e:gH 10=[1,3]:=by decide+kernel
 unfold O3 at h;rw[e] at h;exact h
theorem TF(hL:Laid w)(hB:cH ex m s k jQ [] [] w)(p1:Plain w m)(p2:Plain w s)(p3:Plain w k) :
  iQ pO 23 #[aaf (ex.cells m s k)] w fun v w'=>∃lv:aag,v=aat #[lv,L9 true,k8 jx 0]∧Reads w' lv 2 ([2,4].map (aaq jx))∧Old w w':=by
 have h:=SG hL hB p1 p2 p3 KS (by rw[BM];simp) (by rw[BM];decide) 20 (fun x r hp=>vu rY 20 r x (hp.mem_iff.2 (by rw[BM];decide)) fun y hy=>by
  have:=hp.mem_iff.1 hy;rw[BM] at this;have h2:([10,12,18,20].all fun y=>y==20||(rY 20 y && !rY y 20))=true:=by decide+kernel
  exact List.all_eq_true.1 h2 y this)
 have e:gH 20=[2,4]:=by decide+kernel
 unfold O3 at h;rw[e] at h;exact h
theorem QC(hL:Laid w)(hB:cH ex m s k jQ [] [] w)(q:Nat)(h1:w.heap[q]?=some (aae #[k8 jx 1,k8 jx 3] 3 (0,0))) :
  aaF pO 25 #[aaf (ex.cells m s k),cO (some ⟨q,0,none⟩) 2 2] w fun e w'=>e=aas (aat #[k8 jx 44,L9 true,k8 jx 0])∧aaj w.heap.size w w':=by
 have h:=NN ex m s k jQ [] [] w hL hB KS [1,3] Mr _ (iE (l:=[1,3]) h1 (by decide));have e:oA ex (bn ex jQ [] []) (bG [1,3]) 100=some 44:=by decide+kernel
 rw[e] at h;exact h
theorem ZM(hL:Laid w)(hB:cH ex m s k jQ [] [] w)(q:Nat)(h1:w.heap[q]?=some (aae #[k8 jx 1] 3 (0,0))) :
  aaF pO 27 #[aaf (ex.cells m s k),cO (some ⟨q,0,none⟩) 1 1] w fun e w'=>∃v,e=aas (aat #[v,L9 true,k8 jx 0])∧Reads w' v 1 ([0].map (aaq jx))∧aaj w.heap.size w w':=by
 have h:=WV ex m s k jQ [] [] w hL hB KS [1] W7 _ (iE (l:=[1]) h1 (by decide));have e:iA ex (bn ex jQ [] []) (bG [1]) jQ.length (2 ^ jQ.length)=([0],true):=by decide+kernel
 rw[e] at h;exact h
theorem ZK(hL:Laid w)(hB:cH ex m s (cO none 0 0) jQ [] [] w) :
  aaF pO 75 #[aaf (ex.cells m s (cO none 0 0)),aaf #[k8 jx 1,k8 jx 11,k8 jx 11]] w fun e w'=>∃m' s' k',e=aas (aat #[aaf (ex.cells m' s' k'),k8 jx 0])∧fq ex m' s' k' jQ [] [rj] w'∧aaj w.heap.size w w':=WG ex m s jQ [] w hL hB rj Yo TD
theorem QD(hL:Laid w)(hB:cH ex m s k jQ [] [rj] w):aaF pO 42 #[aaf (ex.cells m s k)] w fun e w'=>e=aas (aat #[k8 jx 3,k8 jx 0])∧aaj w.heap.size w w':=by
 have h:=zI ex m s k jQ [] [rj] w hL hB;rw[KT] at h;exact h
theorem QE(hL:Laid w)(hB:cH ex m s k jQ [] [rj] w) :
  aaF pO 58 #[aaf (ex.cells m s k),k8 jx 0] w fun e w'=>∃v,e=aas (aat #[v,k8 jx 0])∧Reads w' v 2 ([3,4].map (aaq jx))∧aaj w.heap.size w w':=by
 have h:=E5 ex m s k jQ [] [rj] w hL hB TD 0 (by decide)
 have e:gI (fun a=>a.get 0) (bn ex jQ [] [rj])=[3,4]:=by
  unfold gI;rw[zV (ys:=[3,4,4]) (by decide+kernel) (by decide)];decide+kernel
 rw[e] at h;exact h
theorem acW(hL:Laid w)(hB:cH ex m s k jQ [] [rj] w):aaF pO 53 #[aaf (ex.cells m s k)] w fun e w'=>e=aas (aat #[k8 jx 0,k8 jx 2,k8 jx 0])∧aaj w.heap.size w w':=by
 have h:=aan ex m s k jQ [] [rj] w hL hB TD;have e:rb (bn ex jQ [] [rj]) jQ.length=(0,2):=by decide+kernel
 rw[e] at h;exact h
theorem Wi(hL:Laid w)(hB:cH ex m s k jQ [] [rj] w) :
  aaF pO 80 #[aaf (ex.cells m s k),aaf #[k8 jx 0,k8 jx 0]] w fun e w'=>∃m' s' k',e=aas (aat #[aaf ((ex.lk 0 0).cells m' s' k'),k8 jx 0])∧fq (ex.lk 0 0) m' s' k' jQ [] [rj] w'∧aaj w.heap.size w w':=
 Uu ex m s k jQ [] [rj] w hL hB 0 0 (by decide) (by decide) (by decide) 0 0 (by decide) (by decide) (by decide) XF
theorem M7(hL:Laid w)(hB:cH (ex.lk 0 0) m s k jQ [] [rj] w) :
  aaF pO 58 #[aaf ((ex.lk 0 0).cells m s k),k8 jx 0] w fun e w'=>∃v,e=aas (aat #[v,k8 jx 0])∧Reads w' v 1 ([4].map (aaq jx))∧aaj w.heap.size w w':=by
 have h:=E5 (ex.lk 0 0) m s k jQ [] [rj] w hL hB XF 0 (by decide)
 have e:gI (fun a=>a.get 0) (bn (ex.lk 0 0) jQ [] [rj])=[4]:=by
  unfold gI;rw[zV (ys:=[4]) (by decide+kernel) (by decide)];decide+kernel
 rw[e] at h;exact h
theorem ZI(hL:Laid w)(hB:cH ex m s k jQ [] [rj] w):aaF pO 82 #[aaf (ex.cells m s k),k8 jx 1] w fun e w'=>e=aas (aat #[aaf gT,k8 jx 7])∧aaj w.heap.size w w':=
 Jf ex m s k jQ [] [rj] w hL hB 1 (by decide) (by decide) (by decide+kernel)
theorem TE(hB:cH ex m s k jQ [] [rj] w) :
  aaF pO 88 #[aaf (ex.cells m s k),aaf #[k8 jx 1,k8 jx 12,k8 jx 12]] w fun e w'=>∃k',e=aas (aaf (ex.cells m s k'))∧cH ex m s k' jQ [] [rj,Yn] w'∧aaj w.heap.size w w':=by
 obtain⟨p1,c1,e1,_⟩:=aR hB.rm;obtain⟨p2,c2,e2,_⟩:=aR hB.rs;refine(NH ex m s k ⟨⟨_,_,_,e1⟩,⟨_,_,_,e2⟩⟩ [rj] (by decide) Yn w hB.rk).mono ?_;rintro e w' ⟨k',rfl,h1,_,hb⟩;exact⟨k',rfl,⟨TC,OM,RQ _ TC,Vm,hB.rm.below hb,hB.rs.below hb,h1⟩,hb⟩
theorem Wh(hL:Laid w)(hB:cH ex m s k jQ [] [rj,Yn] w) :
  aaF pO 50 #[aaf (ex.cells m s k)] w fun e w'=>∃v,e=aas (aat #[v,k8 jx 0])∧Reads w' v 2 ([0,1].map (aaq jx))∧aaj w.heap.size w w':=by
 have h:=LD ex m s k jQ [] [rj,Yn] w hL hB;have e:kj ex jQ [] [rj,Yn]=[0,1]:=by decide+kernel
 rw[e] at h;exact h
end
structure XV(m:aag)(w:WO):Prop where
 own:fq ex m (cO none 0 0) (cO none 0 0) jQ [] [] w
 pl:Plain w m
theorem QB{w:WO}(h0:1≤w.heap.size):aaF pO 93 #[] w fun e w'=>∃m,e=aas (aaf (ex.cells m (cO none 0 0) (cO none 0 0)))∧XV m w'∧aaj w.heap.size w w':=by
 refine(KR w).mono ?_;rintro e w' ⟨g,c,rfl,hr,hg,hge,hb⟩;refine⟨_,rfl,⟨⟨⟨TC,OM,RQ _ TC,⟨by simp,by simp⟩,hr,.inl ⟨rfl,rfl,rfl⟩,.inl ⟨rfl,rfl,rfl⟩⟩,fun g' h'=>?_,fun g' h'=>(by cases h'),fun g' h'=>(by cases h')⟩,fun g' h'=>?_⟩,hb⟩
 ·obtain rfl:g=g':=Option.some.inj h';exact⟨_,hg⟩
 ·obtain rfl:g=g':=Option.some.inj h';refine⟨by omega,_,_,_,hg,fun u hu=>?_⟩;simp only[fF,jQ,List.flatMap_cons,List.flatMap_nil,List.append_nil] at hu;simp at hu;rcases hu with rfl|rfl|rfl|rfl|rfl|rfl
  ·exact .inr ⟨_,rfl⟩
  ·exact .inl ⟨_,_,rfl⟩
  ·exact .inl ⟨_,_,rfl⟩
  ·exact .inr ⟨_,rfl⟩
  ·exact .inl ⟨_,_,rfl⟩
end Go.Proofs.YtffladgmkiimjaaGreatDoor
