/- LONE WALKS: Good (44). LONE WALKS: Bad (63). PLAIN LAWS: how well it i .. -/
import Derived.Test.YtffladgmkiimjaaGreatDoorW13
import Derived.WalkMore
import Derived.Test.YtffladgmkiimjaaGreatDoorW12
set_option linter.all false
set_option maxHeartbeats 100000000
set_option maxRecDepth 1000000
open Array renaming replicate → aU,getElem?_eq_some_iff → aj
open Go renaming Value → ak,World → ar
open Go.Ending renaming returned → aG
open Go.IntKind renaming i64 → ag
open Go.Lib renaming hid → ai
open Go.Obj renaming cells → au
open Go.Operand renaming tmp → aB
open Go.Proofs.Tryz renaming prog → aq
open Go.RowKit renaming Below → aC
open Go.RowKit.Below renaming refl → aw
open Go.Value renaming int → aM,agg → aQ,slice → ae,int → ah,tuple → bM,oneCell' → cy
open Go.World renaming alloc_heap_new → ax
open List renaming mem_range → bN,range → bf,take_succ_eq_append_getElem → cF,length_pos_iff → cP,getElem_mem → cz,take_of_length_le → dg,map → nL
open List.range renaming loop → bR
open Nat renaming le_refl → ay
open Option.some renaming inj → bt
namespace Go.Proofs.YtffladgmkiimjaaGreatDoor
open Go.RowKit Go.Lag
def jQ(n L:Nat):Int:=if n=0 then 2 else if n=L then 1 else 0
def qB(b:BB)(all:List eV)(p:Nat):Nat:=all.countP fun a=>decide (b.bad (b.cu+a.used) p=0)
theorem Kw{α:Type}(f:α→Bool)(l:List α){k:Nat}(h:k<l.length):(l.take (k+1)).countP f=(l.take k).countP f+(if f l[k] then 1 else 0):=by
 rw[cF h,List.countP_append,List.countP_singleton]
theorem IX(b:BB)(men sent marks:ak)(ml:List Mn)(ss:List Int)(ms:List Mk)(w:ar)(hL:Laid w)(hB:cK b men sent marks ml ss ms w)(hne:bn b ml ss ms≠[])(pl:List Int)(hp:fp b pl)(lv:ak)(hl:Reads w lv pl.length (pl.map (aM ag))) :
  Calls aq 44 #[aQ (b.cells men sent marks),lv] w fun e w'=>e=aG (bM #[ah ag (jQ (qB b (bn b ml ss ms) (bK pl)) (bn b ml ss ms).length),ah ag 0])∧aC w.heap.size w w':=by
 have hlen:=jH ss ms hB.ok hB.iw;have kG:0<(bn b ml ss ms).length:=cP.2 hne;have cZ:=hB.ok;have hao:=n4 (ss:=ss) (ms:=ms) hB.ok hB.iw;have Ac:=cZ.minutes;have pw:∀s∈pl,1≤s∧s≤8:=fun s h=>by have:=hp.mem s h;omega
 have OV:bK pl<512:=ni pl pw;obtain⟨pm,cm,rfl,_⟩:=aV hB.rm;obtain⟨pn,cn,rfl,_⟩:=aV hB.rs;obtain⟨pk,ck,rfl,_⟩:=aV hB.rk;obtain⟨qu,qC,rfl,_⟩:=aV hl;have b1:aC w.heap.size w (w.alloc (au (b.cells (ae pm ml.length cm) (ae pn ss.length cn) (ae pk ms.length ck)) 28)):=(aw _ _).alloc (ay _) _;have hk:=ax w (au (b.cells (ae pm ml.length cm) (ae pn ss.length cn) (ae pk ms.length ck)) 28)
 have SN:Hid (∀W cp,aC w.heap.size w W→W.heap[cp]?=some (au #[ae qu pl.length qC] 25 (0,0))→Calls aq 103 #[aQ (b.cells (ae pm ml.length cm) (ae pn ss.length cn) (ae pk ms.length ck)),.func (.func 164) #[] #[pv cp 0]] W fun e w'=>∃v,e=aG (bM #[aQ (b.open (ae pm ml.length cm) (ae pn ss.length cn) (ae pk ms.length ck) v),ah ag 0])∧ij w' W.heap.size v (bn b ml ss ms)∧aC W.heap.size W w'):=
  ai fun W cp I3 RA=>Cz b _ _ _ ml ss ms W (hL.below I3) (hB.below I3) hne cp fun W' hb'=>by
   have hlt:=(aj.1 RA).1;exact CR b cZ _ _ _ pl hp cp _ W' ((hb'.block _ hlt).trans RA) ((hl.below I3).below hb')
 have I5:=ai hl;have PN:=ai hao;have UT:=ai pw;clear hL hB hl hao hp pw;generalize bn b ml ss ms=all at *;generalize ml.length=lm at *;generalize ss.length=ln at *;generalize ms.length=lk at *
 go_enter Tryz.func44,Tryz.ntmps44
 go_wp2
 refine cj (by kernel_rfl) [
 pV (aQ (b.cells (ae pm lm cm) (ae pn ln cn) (ae pk lk ck))),
  pV (ae qu pl.length qC),
  fun v ds w9=>∃cp,v=.func (.func 164) #[] #[pv cp 0]∧w9.heap[cp]?=some (au #[ae qu pl.length qC] 25 (0,0)),
  fun v ds w9=>∃gv cv,v=bM #[aQ (b.open (ae pm lm cm) (ae pn ln cn) (ae pk lk ck) (ae (some ⟨gv,0,none⟩) all.length cv)),ah ag 0]∧ij w9 w.heap.size (ae (some ⟨gv,0,none⟩) all.length cv) all,
  fun v ds w9=>∃gv cv,v=bM #[aQ (b.open (ae pm lm cm) (ae pn ln cn) (ae pk lk ck) (ae (some ⟨gv,0,none⟩) all.length cv)),ah ag 0]∧ij w9 w.heap.size (ae (some ⟨gv,0,none⟩) all.length cv) all,
  fun v ds w9=>∃gv cv,v=aQ (b.open (ae pm lm cm) (ae pn ln cn) (ae pk lk ck) (ae (some ⟨gv,0,none⟩) all.length cv))∧ij w9 w.heap.size (ae (some ⟨gv,0,none⟩) all.length cv) all,
  pV (ah ag 0),
  fun v ds w9=>∃k,∃z:Array ak,v=pv k 0∧w.heap.size+1≤k∧w9.heap[k]?=some (au z 122 (0,0))∧z.size=16,
  fun v ds w9=>∃k gv cv,ds[0]?=some (pv k 0)∧w.heap.size+1≤k∧w9.heap[k]?=some (au (b.open (ae pm lm cm) (ae pn ln cn) (ae pk lk ck) (ae (some ⟨gv,0,none⟩) all.length cv)) 122 (0,0))∧ij w9 w.heap.size (ae (some ⟨gv,0,none⟩) all.length cv) all,
  pV (ah ag 0)]
  (fun w9=>w9.heap[w.heap.size]?=some (au (b.cells (ae pm lm cm) (ae pn ln cn) (ae pk lk ck)) 28 (0,0))∧aC w.heap.size w w9) [(2,pv w.heap.size 0),(1,ae qu pl.length qC)] (by kernel_rfl) ?rst (fun w1 w2 h hb=>⟨(hb.block _ (aj.1 h.1).1).trans h.1,h.2.trans (hb.mono h.2.size)⟩) (⟨hk,b1.drew⟩) ⟨rfl,rfl,trivial⟩ ?reach ?rfin
 case rst=>
  refine⟨sV,sV,?_,?_,?_,?_,sV,?_,?_,sV,trivial⟩
  ·rintro v ds w1 w2 hS ⟨cp,h1,h2⟩ hb;exact⟨cp,h1,(hb.block _ (aj.1 h2).1).trans h2⟩
  ·rintro v ds w1 w2 hS ⟨gv,cv,h1,h2⟩ hb;exact⟨gv,cv,h1,h2.at_ fun g hg=>hb.block g (h2.1.lt g hg).2⟩
  ·rintro v ds w1 w2 hS ⟨gv,cv,h1,h2⟩ hb;exact⟨gv,cv,h1,h2.at_ fun g hg=>hb.block g (h2.1.lt g hg).2⟩
  ·rintro v ds w1 w2 hS ⟨gv,cv,h1,h2⟩ hb;exact⟨gv,cv,h1,h2.at_ fun g hg=>hb.block g (h2.1.lt g hg).2⟩
  ·rintro v ds w1 w2 hS ⟨k,z,h1,h2,h3,h4⟩ hb;exact⟨k,z,h1,h2,(hb.block _ (aj.1 h3).1).trans h3,h4⟩
  ·rintro v ds w1 w2 hS ⟨k,gv,cv,h1,h0,h3,h2⟩ hb;exact⟨k,gv,cv,h1,h0,(hb.block _ (aj.1 h3).1).trans h3,h2.at_ fun g hg=>hb.block g (h2.1.lt g hg).2⟩
 case reach=>
  refine⟨?_,?_,?_,?_,?_,?_,?_,?_,?_,?_,trivial⟩<;>rintro ev w1 hS hc hg hf ⟨b2,b1,-⟩ hd
  ·clear hd;obtain⟨x0,x1,x2,x3,x4,x5,x6,x7,x8,x9,nG,nE,oh,nM,nQ⟩:=bQ hS.1;refine yv ?_ rfl;go_simp
  ·clear hd;refine yv ?_ rfl;go_simp
  ·have d1:ev (aB 13)=_:=hd.1 rfl;clear hd;refine Lag.Yields.call (f:=104) (args:=#[ae qu pl.length qC]) ?_ (IE _ _ _ _) ?_
   ·go_simp
   ·rintro e w2 ⟨rfl,rfl⟩;exact⟨_,rfl,⟨_,rfl,ax _ _⟩,.inl ((aw _ _).alloc (ay _) _)⟩
  ·have d0:ev (aB 12)=_:=hd.1 rfl;obtain⟨cp,Ee,xZ⟩:=hd.2.1 rfl;clear hd;replace Ee:ev (aB 14)=_:=Ee;refine Lag.Yields.call (f:=103) (args:=#[aQ (b.cells (ae pm lm cm) (ae pn ln cn) (ae pk lk ck)),.func (.func 164) #[] #[pv cp 0]]) ?_ (SN.out w1 cp hS.2 xZ) ?_
   ·go_simp
   ·rintro e w2 ⟨v,rfl,jq,hb⟩
    obtain⟨gv,cv,rfl⟩:∃gv cv,v=ae (some ⟨gv,0,none⟩) all.length cv:=by
     rcases jq.1.2 with⟨_,h0⟩|⟨g,cap,cur,rfl,_⟩
     ·omega
     ·exact⟨g,cap,rfl⟩
    exact⟨_,rfl,⟨gv,cv,rfl,jq.base hS.2.size⟩,.inl hb⟩
  ·exact yv rfl (hd.1 rfl)
  ·obtain⟨gv,cv,e11,jq⟩:=hd.1 rfl;clear hd;replace e11:ev (aB 11)=_:=e11;refine yv ?_ (⟨gv,cv,rfl,jq⟩);go_simp
  ·obtain⟨gv,cv,e11,jq⟩:=hd.1 rfl;clear hd;replace e11:ev (aB 11)=_:=e11;refine yv ?_ rfl;go_simp
  ·clear hd;refine Lag.Yields.value (v:=pv w1.heap.size 0) (w':=w1.alloc (au iv 122)) ?_ ⟨⟨_,_,rfl,(aj.1 hS.1).1,ax _ _,rfl⟩,.inl ((aw _ _).alloc (ay _) _)⟩;go_simp
  ·obtain⟨k,z,e6,rF,hk2,hz⟩:=hd.1 rfl;replace e6:ev (aB 6)=_:=e6;obtain⟨gv,cv,Ml,jq⟩:=hd.2.1 rfl;clear hd;replace Ml:ev (aB 16)=_:=Ml;have CJ:∀g cs t,w1.heap[g]?=some (au cs t (0,0))→t≠122→g≠k:=by rintro g cs t h1 h2 rfl;rw[hk2] at h1;cases h1;exact h2 rfl
   have DW:∀(v:ak),ij w1 w.heap.size v all→ij (w1.setRow k (b.open (ae pm lm cm) (ae pn ln cn) (ae pk lk ck) (ae (some ⟨gv,0,none⟩) all.length cv))) w.heap.size v all:=fun v ho=>ho.at_ fun g hg=>setRow_other (by
    obtain⟨cur,q1,_⟩:=ho.2 g hg
    exact CJ g _ _ q1 (by decide))
   refine Lag.Yields.lR 122 _ _ rfl k _ e6 Ml 122 z hk2 (by kernel_rfl) hz (by simp[cy]) ⟨⟨k,gv,cv,congrArg some e6,rF,cM hk2,DW _ jq⟩,.inr ⟨⟨(setRow_other (by omega)).trans hS.1,dJ hS.2 (by omega)⟩,?_⟩⟩;intro j u ds hj hp
   match j,hp with
   |0,hp=>exact hp
   |1,hp=>exact hp
   |2,⟨cp,h1,h2⟩=>exact⟨cp,h1,(setRow_other (CJ _ _ _ h2 (by decide))).trans h2⟩
   |3,⟨D7,Eh,h1,h2⟩=>exact⟨D7,Eh,h1,DW _ h2⟩
   |4,⟨D7,Eh,h1,h2⟩=>exact⟨D7,Eh,h1,DW _ h2⟩
   |5,⟨D7,Eh,h1,h2⟩=>exact⟨D7,Eh,h1,DW _ h2⟩
   |6,hp=>exact hp
   |7,⟨k',z',h1,h2,h3,h4⟩=>
    by_cases tv:k'=k
    ·subst tv;exact⟨k',_,h1,h2,cM h3,rfl⟩
    ·exact⟨k',z',h1,h2,(setRow_other tv).trans h3,h4⟩
   |8,_=>exact(hj rfl).elim
   |9,hp=>exact hp
   |j+10,_=>trivial
  ·have d6:ev (aB 17)=_:=hd.1 rfl;clear hd;refine yv (v:=ev (aB 17)) ?_ (d6);rfl
 case rfin=>
  intro a2 w2 hR;have hS:=hR.s;obtain⟨k,gv,cv,Sc,rF,hk2,jq⟩:=hR.val 8 (by decide);have e9:a2.tmps.getD 7 undef=_:=hR.val 9 (by decide);have ha:=hR.lits 46 rfl;simp only[bf,bR,nL] at ha;rw[hR.kp 1 (by kernel_rfl),hR.kp 2 (by kernel_rfl)] at ha;simp only[kO,List.getD_cons_succ,List.getD_cons_zero] at ha;clear hR;have e6:a2.tmps.getD 6 undef=pv k 0:=bt Sc;rw[e6,e9] at ha;generalize a2.tmps.getD=zz at ha;clear e6 Sc e9;subst ha;have sA:=hS.1;have rG:=hS.2;clear hS;have GL:=aH hk2 15 _ rfl;have mC:=jq.reads (by omega)
  have HC:Hid (∀j u,(rowOf all)[j]?=some u→w2.cell? ⟨gv,0+j,none⟩=some u):=ai (by
   rcases mC with⟨h0,_⟩|⟨g,off,cap,h0,_,_,h1⟩
   ·cases h0
   ·cases h0;exact h1)
  have Bv:=(jq.1.lt gv rfl).2;have yN:=(aj.1 hk2).1;have HK:=ai hk2;have HB:=ai sA;have EI:=ai rG;have KT:=ai jq;clear hk2 mC sA rG jq hk b1 SN;generalize hL:all.length=L at *;have HL:=ai hL;clear hL;go_wp2
  go_loopw [8,10,24] (fun n _ i wr=>∃j:Nat,j≤L∧i=ah ag j∧n=ah ag ((all.take j).countP fun a=>decide (b.bad (b.cu+a.used) (bK pl)=0):Nat)∧aC w2.heap.size w2 wr) (fun _ _ i _=>L-(intOf i).toNat)
  case atStart=>exact⟨0,by omega,rfl,rfl,aw _ _⟩
  case round=>
   obtain⟨j,hj,rfl,rfl,eA⟩:=hrel;have hsz:=eA.size
   have hcj:(all.take j).countP (fun a=>decide (b.bad (b.cu+a.used) (bK pl)=0))≤j:=by
    refine Nat.le_trans List.countP_le_length ?_;rw[List.length_take];omega
   by_cases hlt:j<L
   ·have H9:j<all.length:=by rw[HL.out];exact hlt
    obtain⟨c0,c1,c2,c3⟩:=Reads.cell (w:=wr) (cap:=cv) (n:=L) (fun i u hi=>(eA.cell (p:=⟨gv,0+i,none⟩) Bv).trans (HC.out i u hi)) j H9;simp only[Nat.zero_add] at c0 c1 c2 c3;have Ta:(all.take (j+1)).countP (fun a=>decide (b.bad (b.cu+a.used) (bK pl)=0))=(all.take j).countP (fun a=>decide (b.bad (b.cu+a.used) (bK pl)=0))+(if b.bad (b.cu+all[j].used) (bK pl)=0 then 1 else 0):=by rw[Kw _ all H9];simp
    have RF:=fun W=>II b cZ (ae pm lm cm) (ae pn ln cn) (ae pk lk ck) all[j] (PN.out _ (cz H9)) (bK pl) OV W;have KU:=ai Ta;have HBa:=ai RF;have w8:=ai eA
    have FB:Hid (∀w9,aC (wr.alloc (au all[j].cells 134)).heap.size (wr.alloc (au all[j].cells 134)) w9→w9.heap[k]?=some (au (b.open (ae pm lm cm) (ae pn ln cn) (ae pk lk ck) (ae (some ⟨gv,0,none⟩) L cv)) 122 (0,0))∧w9.heap[wr.heap.size]?=some (au all[j].cells 134 (0,0))∧Reads w9 (ae qu pl.length qC) pl.length (pl.map (aM ag))):=ai fun w9 Md=>by
     have hs:(wr.alloc (au all[j].cells 134)).heap.size=wr.heap.size+1:=by simp
     have hb0:aC wr.heap.size wr (wr.alloc (au all[j].cells 134)):=(aw _ _).alloc (ay _) _;have D6:=EI.out.size;exact⟨(Md.block _ (by omega)).trans ((hb0.block _ (by omega)).trans ((eA.block _ yN).trans HK.out)),(Md.block _ (by omega)).trans (ax wr _),I5.out.below (EI.out.trans ((eA.mono D6).trans ((hb0.mono (by omega)).trans (Md.mono (by omega)))))⟩
    clear Ta RF eA;generalize all[j]=a at *;generalize yQ:b.bad (b.cu+a.used) (bK pl)=bd at *;obtain⟨r,hr⟩:∃r,(bd==0)=r:=⟨_,rfl⟩
    go_wp2
    refine cj (by kernel_rfl) [
    pV (pv k 0),
     pV (aQ (b.cells (ae pm lm cm) (ae pn ln cn) (ae pk lk ck))),
     pV (aQ a.cells),
     pV (ae qu pl.length qC),
     pV (ah ag (bK pl)),
     pV (ah ag bd),
     pV (.bool r)]
     (fun w9=>aC (wr.alloc (au a.cells 134)).heap.size (wr.alloc (au a.cells 134)) w9) [(1,ae qu pl.length qC),(6,pv k 0),(10,pv wr.heap.size 0)] (by kernel_rfl) ?rst (fun w1 w2 h hb=>h.trans (hb.mono h.size)) ((aw _ _).drew) ⟨rfl,rfl,rfl,trivial⟩ ?reach ?rfin
    case rst=>
     refine⟨sV,sV,sV,sV,sV,sV,sV,trivial⟩
    case reach=>
     refine⟨?_,?_,?_,?_,?_,?_,?_,trivial⟩<;>rintro ev w1 hS hc hg hf ⟨b1,b6,Sw,-⟩ hd
     ·clear hd;refine yv ?_ rfl;go_simp
     ·have d0:ev (aB 28)=_:=hd.1 rfl;clear hd;have q:=FB.out w1 hS;obtain⟨x0,x1,x2,x3,x4,x5,x6,x7,x8,x9,nG,nE,oh,nM,nQ,YY⟩:=jF q.1;refine yv ?_ rfl;go_simp
     ·clear hd;have q:=FB.out w1 hS;obtain⟨y0,y1,y2,y3⟩:=qm q.2.1;refine yv ?_ rfl;go_simp
     ·clear hd;refine yv ?_ rfl;go_simp
     ·have d3:ev (aB 31)=_:=hd.1 rfl;clear hd;have q:=FB.out w1 hS;refine yq (args:=#[ae qu pl.length qC]) (lL pl UT.out _ _ q.2.2) ?_ fun _=>rfl;go_simp
     ·have d1:ev (aB 29)=_:=hd.1 rfl;have d2:ev (aB 30)=_:=hd.2.1 rfl;have d4:ev (aB 32)=_:=hd.2.2.1 rfl;clear hd;refine yc (HBa.out w1) ?_ fun _=>rfl;go_simp
     ·have d5:ev (aB 33)=_:=hd.1 rfl;clear hd;refine yv ?_ rfl;go_simp
    case rfin=>
     intro a3 w3 hR;have hS:=hR.s;have e6:a3.tmps.getD 34 undef=_:=hR.val 6 (by decide);have ha:=hR.lits 46 rfl;simp only[bf,bR,nL] at ha;rw[hR.kp 0 (by kernel_rfl),hR.kp 1 (by kernel_rfl),hR.kp 2 (by kernel_rfl),hR.kp 3 (by kernel_rfl),hR.kp 4 (by kernel_rfl),hR.kp 5 (by kernel_rfl),hR.kp 6 (by kernel_rfl),hR.kp 7 (by kernel_rfl),hR.kp 8 (by kernel_rfl),hR.kp 9 (by kernel_rfl),hR.kp 11 (by kernel_rfl),hR.kp 12 (by kernel_rfl),hR.kp 13 (by kernel_rfl),hR.kp 14 (by kernel_rfl),hR.kp 15 (by kernel_rfl),hR.kp 16 (by kernel_rfl),hR.kp 17 (by kernel_rfl),hR.kp 18 (by kernel_rfl),hR.kp 19 (by kernel_rfl),hR.kp 20 (by kernel_rfl),hR.kp 21 (by kernel_rfl),hR.kp 22 (by kernel_rfl),hR.kp 23 (by kernel_rfl),hR.kp 24 (by kernel_rfl),hR.kp 38 (by kernel_rfl),hR.kp 39 (by kernel_rfl),hR.kp 40 (by kernel_rfl),hR.kp 41 (by kernel_rfl),hR.kp 42 (by kernel_rfl),hR.kp 43 (by kernel_rfl),hR.kp 44 (by kernel_rfl),hR.kp 45 (by kernel_rfl)] at ha;simp only[kO,List.getD_cons_succ,List.getD_cons_zero] at ha;clear hR;rw[e6] at ha;generalize a3.tmps.getD=zz at ha;have pI:=ai hS;clear e6 hS;subst ha;have hwr:aC w2.heap.size wr w3:=((aw _ wr).alloc hsz _).trans (pI.out.mono (by simp;omega));have Yl:=ai hwr;clear hwr;generalize hc0:List.countP (fun a=>decide (b.bad (b.cu+a.used) (bK pl)=0)) (List.take j all)=cn0 at *;have HC0:=ai hc0;clear hc0;cases r
     ·go_wp2;go_roundw
      case rel=>
       refine⟨j+1,by omega,by simp,?_,w8.out.trans Yl.out⟩;rw[KU.out,if_neg (by intro h;rw[h] at hr;cases hr)];simp
      case measure=>simp[intOf];omega
     ·go_wp2;go_roundw
      case rel=>
       refine⟨j+1,by omega,by simp,?_,w8.out.trans Yl.out⟩;rw[KU.out,if_pos (by simpa using hr)];simp
      case measure=>simp[intOf];omega
   ·obtain rfl:j=L:=by omega
    have LR:all.take j=all:=dg (by rw[HL.out];exact ay _);have hgn:(all.take j).countP (fun a=>decide (b.bad (b.cu+a.used) (bK pl)=0))=qB b all (bK pl):=by rw[LR];rfl
    obtain⟨gn,DY⟩:∃gn,qB b all (bK pl)=gn:=⟨_,rfl⟩
    rw[hgn,DY] at hcj;rw[hgn,DY];have HGn:=ai DY;clear DY;have w8:=ai eA;have z15:=aH ((eA.block _ yN).trans HK.out) 15 _ rfl;clear hgn LR eA;have nH:aC w.heap.size w wr:=EI.out.trans (w8.out.mono EI.out.size);have SQ:=ai nH;clear nH
    by_cases h0:gn=0
    ·subst h0;have HQ:Hid (jQ 0 j=2):=ai (by simp[jQ]);go_wp2;go_ret2;exact⟨by rw[HGn.out,HL.out,HQ.out];rfl,SQ.out⟩
    ·have g0:((gn:Int)==0)=false:=by simp;omega
     by_cases h1:gn=j
     ·subst h1;have HQ:Hid (jQ gn gn=1):=ai (by simp[jQ,h0]);go_wp2;go_ret2;exact⟨by rw[HGn.out,HL.out,HQ.out];rfl,SQ.out⟩
     ·have g1:((gn:Int)==(j:Int))=false:=by simp;omega
      have HQ:Hid (jQ gn j=0):=ai (by simp[jQ,h0,h1]);go_wp2;go_ret2;exact⟨by rw[HGn.out,HL.out,HQ.out];rfl,SQ.out⟩
def CS(b:BB)(p:Nat)(s:Int × Bool)(a:eV):Int × Bool:=
 if b.bad (b.cu+a.used) p=0 then s else if s.2=false∨b.bad (b.cu+a.used) p<s.1 then(b.bad (b.cu+a.used) p,true) else s
def ux(b:BB)(all:List eV)(p:Nat):Int × Bool:=all.foldl (CS b p) (0,false)
theorem MG(b:BB)(all:List eV)(p:Nat){j:Nat}(h:j<all.length):ux b (all.take (j+1)) p=CS b p (ux b (all.take j) p) all[j]:=by
 unfold ux;rw[cF h,List.foldl_append];rfl
theorem Yu(b:BB)(men sent marks:ak)(ml:List Mn)(ss:List Int)(ms:List Mk)(w:ar)(hL:Laid w)(hB:cK b men sent marks ml ss ms w)(hne:bn b ml ss ms≠[])(pl:List Int)(hp:fp b pl)(lv:ak)(hl:Reads w lv pl.length (pl.map (aM ag))) :
  Calls aq 63 #[aQ (b.cells men sent marks),lv] w fun e w'=>e=aG (bM #[ah ag (ux b (bn b ml ss ms) (bK pl)).1,.bool (ux b (bn b ml ss ms) (bK pl)).2,ah ag 0])∧aC w.heap.size w w':=by
 have hlen:=jH ss ms hB.ok hB.iw;have kG:0<(bn b ml ss ms).length:=cP.2 hne;have cZ:=hB.ok;have hao:=n4 (ss:=ss) (ms:=ms) hB.ok hB.iw;have Ac:=cZ.minutes;have pw:∀s∈pl,1≤s∧s≤8:=fun s h=>by have:=hp.mem s h;omega
 have OV:bK pl<512:=ni pl pw;obtain⟨pm,cm,rfl,_⟩:=aV hB.rm;obtain⟨pn,cn,rfl,_⟩:=aV hB.rs;obtain⟨pk,ck,rfl,_⟩:=aV hB.rk;obtain⟨qu,qC,rfl,_⟩:=aV hl;have b1:aC w.heap.size w (w.alloc (au (b.cells (ae pm ml.length cm) (ae pn ss.length cn) (ae pk ms.length ck)) 28)):=(aw _ _).alloc (ay _) _;have hk:=ax w (au (b.cells (ae pm ml.length cm) (ae pn ss.length cn) (ae pk ms.length ck)) 28)
 have SN:Hid (∀W cp,aC w.heap.size w W→W.heap[cp]?=some (au #[ae qu pl.length qC] 25 (0,0))→Calls aq 103 #[aQ (b.cells (ae pm ml.length cm) (ae pn ss.length cn) (ae pk ms.length ck)),.func (.func 164) #[] #[pv cp 0]] W fun e w'=>∃v,e=aG (bM #[aQ (b.open (ae pm ml.length cm) (ae pn ss.length cn) (ae pk ms.length ck) v),ah ag 0])∧ij w' W.heap.size v (bn b ml ss ms)∧aC W.heap.size W w'):=
  ai fun W cp I3 RA=>Cz b _ _ _ ml ss ms W (hL.below I3) (hB.below I3) hne cp fun W' hb'=>by
   have hlt:=(aj.1 RA).1;exact CR b cZ _ _ _ pl hp cp _ W' ((hb'.block _ hlt).trans RA) ((hl.below I3).below hb')
 have I5:=ai hl;have PN:=ai hao;have UT:=ai pw;clear hL hB hl hao hp pw;generalize bn b ml ss ms=all at *;generalize ml.length=lm at *;generalize ss.length=ln at *;generalize ms.length=lk at *
 go_enter Tryz.func63,Tryz.ntmps63
 go_wp2;refine wp_scope_straight ?_;go_wp2
 refine cj (by kernel_rfl) [
 pV (aQ (b.cells (ae pm lm cm) (ae pn ln cn) (ae pk lk ck))),
  pV (ae qu pl.length qC),
  fun v ds w9=>∃cp,v=.func (.func 164) #[] #[pv cp 0]∧w9.heap[cp]?=some (au #[ae qu pl.length qC] 25 (0,0)),
  fun v ds w9=>∃gv cv,v=bM #[aQ (b.open (ae pm lm cm) (ae pn ln cn) (ae pk lk ck) (ae (some ⟨gv,0,none⟩) all.length cv)),ah ag 0]∧ij w9 w.heap.size (ae (some ⟨gv,0,none⟩) all.length cv) all,
  fun v ds w9=>∃gv cv,v=bM #[aQ (b.open (ae pm lm cm) (ae pn ln cn) (ae pk lk ck) (ae (some ⟨gv,0,none⟩) all.length cv)),ah ag 0]∧ij w9 w.heap.size (ae (some ⟨gv,0,none⟩) all.length cv) all,
  fun v ds w9=>∃gv cv,v=aQ (b.open (ae pm lm cm) (ae pn ln cn) (ae pk lk ck) (ae (some ⟨gv,0,none⟩) all.length cv))∧ij w9 w.heap.size (ae (some ⟨gv,0,none⟩) all.length cv) all,
  pV (ah ag 0),
  fun v ds w9=>∃k,∃z:Array ak,v=pv k 0∧w.heap.size+1≤k∧w9.heap[k]?=some (au z 122 (0,0))∧z.size=16,
  fun v ds w9=>∃k gv cv,ds[0]?=some (pv k 0)∧w.heap.size+1≤k∧w9.heap[k]?=some (au (b.open (ae pm lm cm) (ae pn ln cn) (ae pk lk ck) (ae (some ⟨gv,0,none⟩) all.length cv)) 122 (0,0))∧ij w9 w.heap.size (ae (some ⟨gv,0,none⟩) all.length cv) all,
  pV (ah ag 0)]
  (fun w9=>w9.heap[w.heap.size]?=some (au (b.cells (ae pm lm cm) (ae pn ln cn) (ae pk lk ck)) 28 (0,0))∧aC w.heap.size w w9) [(2,pv w.heap.size 0),(1,ae qu pl.length qC)] (by kernel_rfl) ?rst (fun w1 w2 h hb=>⟨(hb.block _ (aj.1 h.1).1).trans h.1,h.2.trans (hb.mono h.2.size)⟩) (⟨hk,b1.drew⟩) ⟨rfl,rfl,trivial⟩ ?reach ?rfin
 case rst=>
  refine⟨sV,sV,?_,?_,?_,?_,sV,?_,?_,sV,trivial⟩
  ·rintro v ds w1 w2 hS ⟨cp,h1,h2⟩ hb;exact⟨cp,h1,(hb.block _ (aj.1 h2).1).trans h2⟩
  ·rintro v ds w1 w2 hS ⟨gv,cv,h1,h2⟩ hb;exact⟨gv,cv,h1,h2.at_ fun g hg=>hb.block g (h2.1.lt g hg).2⟩
  ·rintro v ds w1 w2 hS ⟨gv,cv,h1,h2⟩ hb;exact⟨gv,cv,h1,h2.at_ fun g hg=>hb.block g (h2.1.lt g hg).2⟩
  ·rintro v ds w1 w2 hS ⟨gv,cv,h1,h2⟩ hb;exact⟨gv,cv,h1,h2.at_ fun g hg=>hb.block g (h2.1.lt g hg).2⟩
  ·rintro v ds w1 w2 hS ⟨k,z,h1,h2,h3,h4⟩ hb;exact⟨k,z,h1,h2,(hb.block _ (aj.1 h3).1).trans h3,h4⟩
  ·rintro v ds w1 w2 hS ⟨k,gv,cv,h1,h0,h3,h2⟩ hb;exact⟨k,gv,cv,h1,h0,(hb.block _ (aj.1 h3).1).trans h3,h2.at_ fun g hg=>hb.block g (h2.1.lt g hg).2⟩
 case reach=>
  refine⟨?_,?_,?_,?_,?_,?_,?_,?_,?_,?_,trivial⟩<;>rintro ev w1 hS hc hg hf ⟨b2,b1,-⟩ hd
  ·clear hd;obtain⟨x0,x1,x2,x3,x4,x5,x6,x7,x8,x9,nG,nE,oh,nM,nQ⟩:=bQ hS.1;refine yv ?_ rfl;go_simp
  ·clear hd;refine yv ?_ rfl;go_simp
  ·have d1:ev (aB 13)=_:=hd.1 rfl;clear hd;refine Lag.Yields.call (f:=104) (args:=#[ae qu pl.length qC]) ?_ (IE _ _ _ _) ?_
   ·go_simp
   ·rintro e w2 ⟨rfl,rfl⟩;exact⟨_,rfl,⟨_,rfl,ax _ _⟩,.inl ((aw _ _).alloc (ay _) _)⟩
  ·have d0:ev (aB 12)=_:=hd.1 rfl;obtain⟨cp,Ee,xZ⟩:=hd.2.1 rfl;clear hd;replace Ee:ev (aB 14)=_:=Ee;refine Lag.Yields.call (f:=103) (args:=#[aQ (b.cells (ae pm lm cm) (ae pn ln cn) (ae pk lk ck)),.func (.func 164) #[] #[pv cp 0]]) ?_ (SN.out w1 cp hS.2 xZ) ?_
   ·go_simp
   ·rintro e w2 ⟨v,rfl,jq,hb⟩
    obtain⟨gv,cv,rfl⟩:∃gv cv,v=ae (some ⟨gv,0,none⟩) all.length cv:=by
     rcases jq.1.2 with⟨_,h0⟩|⟨g,cap,cur,rfl,_⟩
     ·omega
     ·exact⟨g,cap,rfl⟩
    exact⟨_,rfl,⟨gv,cv,rfl,jq.base hS.2.size⟩,.inl hb⟩
  ·exact yv rfl (hd.1 rfl)
  ·obtain⟨gv,cv,e11,jq⟩:=hd.1 rfl;clear hd;replace e11:ev (aB 11)=_:=e11;refine yv ?_ (⟨gv,cv,rfl,jq⟩);go_simp
  ·obtain⟨gv,cv,e11,jq⟩:=hd.1 rfl;clear hd;replace e11:ev (aB 11)=_:=e11;refine yv ?_ rfl;go_simp
  ·clear hd;refine Lag.Yields.value (v:=pv w1.heap.size 0) (w':=w1.alloc (au iv 122)) ?_ ⟨⟨_,_,rfl,(aj.1 hS.1).1,ax _ _,rfl⟩,.inl ((aw _ _).alloc (ay _) _)⟩;go_simp
  ·obtain⟨k,z,e6,rF,hk2,hz⟩:=hd.1 rfl;replace e6:ev (aB 7)=_:=e6;obtain⟨gv,cv,Ml,jq⟩:=hd.2.1 rfl;clear hd;replace Ml:ev (aB 16)=_:=Ml;have CJ:∀g cs t,w1.heap[g]?=some (au cs t (0,0))→t≠122→g≠k:=by rintro g cs t h1 h2 rfl;rw[hk2] at h1;cases h1;exact h2 rfl
   have DW:∀(v:ak),ij w1 w.heap.size v all→ij (w1.setRow k (b.open (ae pm lm cm) (ae pn ln cn) (ae pk lk ck) (ae (some ⟨gv,0,none⟩) all.length cv))) w.heap.size v all:=fun v ho=>ho.at_ fun g hg=>setRow_other (by
    obtain⟨cur,q1,_⟩:=ho.2 g hg
    exact CJ g _ _ q1 (by decide))
   refine Lag.Yields.lR 122 _ _ rfl k _ e6 Ml 122 z hk2 (by kernel_rfl) hz (by simp[cy]) ⟨⟨k,gv,cv,congrArg some e6,rF,cM hk2,DW _ jq⟩,.inr ⟨⟨(setRow_other (by omega)).trans hS.1,dJ hS.2 (by omega)⟩,?_⟩⟩;intro j u ds hj hp
   match j,hp with
   |0,hp=>exact hp
   |1,hp=>exact hp
   |2,⟨cp,h1,h2⟩=>exact⟨cp,h1,(setRow_other (CJ _ _ _ h2 (by decide))).trans h2⟩
   |3,⟨D7,Eh,h1,h2⟩=>exact⟨D7,Eh,h1,DW _ h2⟩
   |4,⟨D7,Eh,h1,h2⟩=>exact⟨D7,Eh,h1,DW _ h2⟩
   |5,⟨D7,Eh,h1,h2⟩=>exact⟨D7,Eh,h1,DW _ h2⟩
   |6,hp=>exact hp
   |7,⟨k',z',h1,h2,h3,h4⟩=>
    by_cases tv:k'=k
    ·subst tv;exact⟨k',_,h1,h2,cM h3,rfl⟩
    ·exact⟨k',z',h1,h2,(setRow_other tv).trans h3,h4⟩
   |8,_=>exact(hj rfl).elim
   |9,hp=>exact hp
   |j+10,_=>trivial
  ·have d6:ev (aB 17)=_:=hd.1 rfl;clear hd;refine yv (v:=ev (aB 17)) ?_ (d6);rfl
 case rfin=>
  intro a2 w2 hR;have hS:=hR.s;obtain⟨k,gv,cv,Sc,rF,hk2,jq⟩:=hR.val 8 (by decide);have e9:a2.tmps.getD 6 undef=_:=hR.val 9 (by decide);have ha:=hR.lits 47 rfl;simp only[bf,bR,nL] at ha;rw[hR.kp 1 (by kernel_rfl),hR.kp 2 (by kernel_rfl),hR.kp 4 (by kernel_rfl),hR.kp 5 (by kernel_rfl)] at ha;simp only[kO,List.getD_cons_succ,List.getD_cons_zero] at ha;clear hR;have e6:a2.tmps.getD 7 undef=pv k 0:=bt Sc;rw[e6,e9] at ha;generalize a2.tmps.getD=zz at ha;clear e6 Sc e9;subst ha;have sA:=hS.1;have rG:=hS.2;clear hS;have GL:=aH hk2 15 _ rfl;have mC:=jq.reads (by omega)
  have HC:Hid (∀j u,(rowOf all)[j]?=some u→w2.cell? ⟨gv,0+j,none⟩=some u):=ai (by
   rcases mC with⟨h0,_⟩|⟨g,off,cap,h0,_,_,h1⟩
   ·cases h0
   ·cases h0;exact h1)
  have Bv:=(jq.1.lt gv rfl).2;have yN:=(aj.1 hk2).1;have HK:=ai hk2;have HB:=ai sA;have EI:=ai rG;have KT:=ai jq;clear hk2 mC sA rG jq hk b1 SN;generalize hL:all.length=L at *;have HL:=ai hL;clear hL;go_wp2;refine wp_label ?_;go_wp2
  go_loopw [4,5,9,10,24] (fun m f _ _ i wr=>∃j:Nat,j≤L∧i=ah ag j∧m=ah ag (ux b (all.take j) (bK pl)).1∧f=.bool (ux b (all.take j) (bK pl)).2∧aC w2.heap.size w2 wr) (fun _ _ _ _ i _=>L-(intOf i).toNat)
  case atStart=>exact⟨0,by omega,rfl,rfl,rfl,aw _ _⟩
  case round=>
   obtain⟨j,hj,rfl,rfl,rfl,eA⟩:=hrel;have hsz:=eA.size
   by_cases hlt:j<L
   ·have H9:j<all.length:=by rw[HL.out];exact hlt
    obtain⟨c0,c1,c2,c3⟩:=Reads.cell (w:=wr) (cap:=cv) (n:=L) (fun i u hi=>(eA.cell (p:=⟨gv,0+i,none⟩) Bv).trans (HC.out i u hi)) j H9;simp only[Nat.zero_add] at c0 c1 c2 c3;have Ta:ux b (all.take (j+1)) (bK pl)=CS b (bK pl) (ux b (all.take j) (bK pl)) all[j]:=MG b all (bK pl) H9;have RF:=fun W=>II b cZ (ae pm lm cm) (ae pn ln cn) (ae pk lk ck) all[j] (PN.out _ (cz H9)) (bK pl) OV W;have HBa:=ai RF;have w8:=ai eA
    have FB:Hid (∀w9,aC (wr.alloc (au all[j].cells 134)).heap.size (wr.alloc (au all[j].cells 134)) w9→w9.heap[k]?=some (au (b.open (ae pm lm cm) (ae pn ln cn) (ae pk lk ck) (ae (some ⟨gv,0,none⟩) L cv)) 122 (0,0))∧w9.heap[wr.heap.size]?=some (au all[j].cells 134 (0,0))∧Reads w9 (ae qu pl.length qC) pl.length (pl.map (aM ag))):=ai fun w9 Md=>by
     have hs:(wr.alloc (au all[j].cells 134)).heap.size=wr.heap.size+1:=by simp
     have hb0:aC wr.heap.size wr (wr.alloc (au all[j].cells 134)):=(aw _ _).alloc (ay _) _;have D6:=EI.out.size;exact⟨(Md.block _ (by omega)).trans ((hb0.block _ (by omega)).trans ((eA.block _ yN).trans HK.out)),(Md.block _ (by omega)).trans (ax wr _),I5.out.below (EI.out.trans ((eA.mono D6).trans ((hb0.mono (by omega)).trans (Md.mono (by omega)))))⟩
    unfold CS at Ta;clear RF eA;generalize all[j]=a at *;generalize yQ:b.bad (b.cu+a.used) (bK pl)=bd at *;generalize ux b (all.take j) (bK pl)=s at *;obtain⟨sm,sf⟩:=s;simp only[] at Ta;have KU:=ai Ta;clear Ta;simp only[];go_wp2
    refine cj (by kernel_rfl) [
    pV (pv k 0),
     pV (aQ (b.cells (ae pm lm cm) (ae pn ln cn) (ae pk lk ck))),
     pV (aQ a.cells),
     pV (ae qu pl.length qC),
     pV (ah ag (bK pl)),
     pV (ah ag bd),
     pV (ah ag bd)]
     (fun w9=>aC (wr.alloc (au a.cells 134)).heap.size (wr.alloc (au a.cells 134)) w9) [(1,ae qu pl.length qC),(7,pv k 0),(9,pv wr.heap.size 0)] (by kernel_rfl) ?rst (fun w1 w2 h hb=>h.trans (hb.mono h.size)) ((aw _ _).drew) ⟨rfl,rfl,rfl,trivial⟩ ?reach ?rfin
    case rst=>
     refine⟨sV,sV,sV,sV,sV,sV,sV,trivial⟩
    case reach=>
     refine⟨?_,?_,?_,?_,?_,?_,?_,trivial⟩<;>rintro ev w1 hS hc hg hf ⟨b1,b7,b9,-⟩ hd
     ·clear hd;refine yv ?_ rfl;go_simp
     ·have d0:ev (aB 28)=_:=hd.1 rfl;clear hd;have q:=FB.out w1 hS;obtain⟨x0,x1,x2,x3,x4,x5,x6,x7,x8,x9,nG,nE,oh,nM,nQ,YY⟩:=jF q.1;refine yv ?_ rfl;go_simp
     ·clear hd;have q:=FB.out w1 hS;obtain⟨y0,y1,y2,y3⟩:=qm q.2.1;refine yv ?_ rfl;go_simp
     ·clear hd;refine yv ?_ rfl;go_simp
     ·have d3:ev (aB 31)=_:=hd.1 rfl;clear hd;have q:=FB.out w1 hS;refine yq (args:=#[ae qu pl.length qC]) (lL pl UT.out _ _ q.2.2) ?_ fun _=>rfl;go_simp
     ·have d1:ev (aB 29)=_:=hd.1 rfl;have d2:ev (aB 30)=_:=hd.2.1 rfl;have d4:ev (aB 32)=_:=hd.2.2.1 rfl;clear hd;refine yc (HBa.out w1) ?_ fun _=>rfl;go_simp
     ·have d5:ev (aB 33)=_:=hd.1 rfl;clear hd;refine yv (v:=ev (aB 33)) ?_ (d5);rfl
    case rfin=>
     intro a3 w3 hR;have hS:=hR.s;have e6:a3.tmps.getD 10 undef=_:=hR.val 6 (by decide);have ha:=hR.lits 47 rfl;simp only[bf,bR,nL] at ha;rw[hR.kp 0 (by kernel_rfl),hR.kp 1 (by kernel_rfl),hR.kp 2 (by kernel_rfl),hR.kp 3 (by kernel_rfl),hR.kp 4 (by kernel_rfl),hR.kp 5 (by kernel_rfl),hR.kp 6 (by kernel_rfl),hR.kp 7 (by kernel_rfl),hR.kp 8 (by kernel_rfl),hR.kp 11 (by kernel_rfl),hR.kp 12 (by kernel_rfl),hR.kp 13 (by kernel_rfl),hR.kp 14 (by kernel_rfl),hR.kp 15 (by kernel_rfl),hR.kp 16 (by kernel_rfl),hR.kp 17 (by kernel_rfl),hR.kp 18 (by kernel_rfl),hR.kp 19 (by kernel_rfl),hR.kp 20 (by kernel_rfl),hR.kp 21 (by kernel_rfl),hR.kp 22 (by kernel_rfl),hR.kp 23 (by kernel_rfl),hR.kp 24 (by kernel_rfl),hR.kp 45 (by kernel_rfl),hR.kp 46 (by kernel_rfl)] at ha;simp only[kO,List.getD_cons_succ,List.getD_cons_zero] at ha;clear hR;rw[e6] at ha;generalize a3.tmps.getD=zz at ha;have pI:=ai hS;clear e6 hS;subst ha;have hwr:aC w2.heap.size wr w3:=((aw _ wr).alloc hsz _).trans (pI.out.mono (by simp;omega));have Yl:=ai hwr;clear hwr
     by_cases h0:bd=0
     ·have g0:(bd==0)=true:=by simpa using h0
      clear h0;have H0:Hid (bd=0):=ai (by simpa using g0);go_wp2;go_roundw
      case rel=>
       refine⟨j+1,by omega,by simp,?_,?_,w8.out.trans Yl.out⟩
       ·rw[KU.out];simp[H0.out]
       ·rw[KU.out];simp[H0.out]
      case measure=>simp[intOf];omega
     ·have g0:(bd==0)=false:=by simpa using h0
      have H0:=ai h0;clear h0;cases sf
      ·go_wp2;go_roundw
       case rel=>
        refine⟨j+1,by omega,by simp,?_,?_,w8.out.trans Yl.out⟩
        ·rw[KU.out];simp[H0.out]
        ·rw[KU.out];simp[H0.out]
       case measure=>simp[intOf];omega
      ·by_cases h1:bd<sm
       ·have H1:=ai h1;go_wp2;go_roundw
        case rel=>
         refine⟨j+1,by omega,by simp,?_,?_,w8.out.trans Yl.out⟩
         ·rw[KU.out];simp[H0.out,H1.out]
         ·rw[KU.out];simp[H0.out,H1.out]
        case measure=>simp[intOf];omega
       ·have H1:=ai h1;go_wp2;go_roundw
        case rel=>
         refine⟨j+1,by omega,by simp,?_,?_,w8.out.trans Yl.out⟩
         ·rw[KU.out];simp[H0.out,H1.out]
         ·rw[KU.out];simp[H0.out,H1.out]
        case measure=>simp[intOf];omega
   ·obtain rfl:j=L:=by omega
    have LR:all.take j=all:=dg (by rw[HL.out];exact ay _);obtain⟨s,hs⟩:∃s,ux b all (bK pl)=s:=⟨_,rfl⟩
    rw[LR,hs];have w8:=ai eA;have PY:=ai hs;clear LR eA hs;have nH:aC w.heap.size w wr:=EI.out.trans (w8.out.mono EI.out.size);have SQ:=ai nH;clear nH;obtain⟨sm,sf⟩:=s;go_wp2
    (try simp only[Exit.inBlock,Exit.then,Exit.noGoto_ret])
    go_ret3
    exact⟨by rw[PY.out];rfl,SQ.out⟩
theorem Yi(b:BB)(used:Int)(p:Nat):0≤b.bad used p:=by
 have:=(EC b (b.m6 used p b.minutes.toNat) 0).1;unfold BB.bad;omega
theorem tQ(b:BB){all:List eV}(hne:all≠[])(p:Nat):jQ (qB b all p) all.length=1↔b.sure all p=true:=by
 have hl:0<all.length:=cP.2 hne
 have e:b.sure all p=true↔qB b all p=all.length:=by
  unfold BB.sure qB;rw[List.all_eq_true,List.countP_eq_length];constructor
  ·intro h a ha;have h1:=h a ha;have:=Yi b (b.cu+a.used) p;simp only[decide_eq_true_eq] at h1 ⊢;omega
  ·intro h a ha;have h1:=h a ha;simp only[decide_eq_true_eq] at h1 ⊢;omega
 rw[e];unfold jQ
 by_cases h0:qB b all p=0
 ·rw[if_pos h0,h0];constructor
  ·intro h;omega
  ·intro h;omega
 ·rw[if_neg h0]
  by_cases h1:qB b all p=all.length
  ·rw[if_pos h1];simp[h1]
  ·rw[if_neg h1];constructor
   ·intro h;omega
   ·intro h;exact absurd h h1
theorem Gp(b:BB)(all:List eV)(p:Nat):∀(n k:Nat),jn b all p n=some k→k<n∧(b.dep k).sure all p=true∧∀j:Nat,k<j→j<n→(b.dep j).sure all p=false
 |0,k,h=>by cases h
 |n+1,k,h=>by
  unfold jn at h
  by_cases hs:(b.dep n).sure all p=true
  ·rw[if_pos hs] at h;cases h;exact⟨by omega,hs,fun j h1 h2=>by omega⟩
  ·rw[if_neg hs] at h;obtain⟨h1,h2,h3⟩:=Gp b all p n k h;refine⟨by omega,h2,fun j hj hn=>?_⟩
   by_cases e:j=n
   ·subst e;simpa using hs
   ·exact h3 j hj (by omega)
theorem Gq(b:BB)(all:List eV)(p:Nat):∀(n:Nat),jn b all p n=none→∀j:Nat,j<n→(b.dep j).sure all p=false
 |0,h=>fun j hj=>by omega
 |n+1,h=>by
  unfold jn at h
  by_cases hs:(b.dep n).sure all p=true
  ·rw[if_pos hs] at h;cases h
  ·rw[if_neg hs] at h;intro j hj
   by_cases e:j=n
   ·subst e;simpa using hs
   ·exact Gq b all p n h j (by omega)
theorem Pu(b:BB)(d:Int)(ml:List Mn)(ss:List Int):bn (b.dep d) ml ss []=bn b ml ss []:=rfl
theorem Ga(ok:eV→Bool)(cZ:∀a,ok a=true):∀(r:List Mn) (l6:Nat) (a:eV),(∀m∈r,m.lo≤m.hi)→leaves ok r l6 a≠[]
 |[],l6,a,_=>by simp[leaves,cZ]
 |m::r,l6,a,h=>by
  have h1:=h m (by simp);have hm:m.lo∈gw m.lo m.hi:=List.mem_map.2 ⟨0,bN.2 (by omega),by simp⟩;unfold leaves;intro he;rw[List.flatMap_eq_nil_iff] at he;exact Ga ok cZ r (l6+1) _ (fun x hx=>h x (by simp[hx])) (he m.lo hm)
theorem rH{b:BB}(hb:b.Ok){ml:List Mn}(hm:wY ml)(ss:List Int):bn b ml ss []≠[]:=by
 have h1:=hb.leak;have hmm:b.ll∈gw b.ll b.lm:=List.mem_map.2 ⟨0,bN.2 (by omega),by simp⟩;unfold bn;intro he;rw[List.flatMap_eq_nil_iff] at he;exact Ga _ (fun _=>rfl) ml 0 _ (fun m h=>by have:=hm.mem m h;omega) (he b.ll hmm)
theorem deep_law{b:BB}(hb:b.Ok){ml:List Mn}(hm:wY ml)(ss:List Int)(p n:Nat)(hn:n<100) :
  match jn b (bn b ml ss []) p 100 with
  |some d=>d<100∧jQ (qB (b.dep d) (bn (b.dep d) ml ss []) p) (bn (b.dep d) ml ss []).length=1∧(jQ (qB (b.dep n) (bn (b.dep n) ml ss []) p) (bn (b.dep n) ml ss []).length=1→n≤d)
  |none=>jQ (qB (b.dep n) (bn (b.dep n) ml ss []) p) (bn (b.dep n) ml ss []).length≠1:=by
 have hne:=rH hb hm ss;simp only[Pu];generalize bn b ml ss []=all at *;cases h:jn b all p 100 with
 |none=>
  simp only[];rw[Ne,tQ _ hne,Gq b all p 100 h n hn];simp
 |some d=>
  obtain⟨h1,h2,h3⟩:=Gp b all p 100 d h;simp only[];refine⟨h1,(tQ _ hne p).2 h2,fun h4=>?_⟩;rw[tQ _ hne] at h4;refine Nat.le_of_not_lt fun h5=>?_;rw[h3 n h5 hn] at h4;cases h4
end Go.Proofs.YtffladgmkiimjaaGreatDoor
namespace Go.Lag
open Go Go.RowKit Go.Conc Go.Proofs.YtffladgmkiimjaaGreatDoor
section
variable{P:Program}{ops:Array Oper}{Q:Exit→Act→ar→Prop}{n:Nat}
theorem U7(T:Quiet P){id:Nat}{y:Code}{a0:Act}{W:ar}(hf:∀e a w,Q e a w→sD e=true)(S:ar→Prop)(I4:∀w w',S w→aC w.heap.size w w'→S w')(hS:∀τ d,S (cX W τ d))(Vs:List Pred)(base:List (Tmp × ak))(cZ:kN ops n base=true)(hn:a0.tmps.size=n)(hbase:iF a0.eval base)(ya:jz S Vs)
  (hE:Gd.Each (Yields P) ops Vs S base 0 ops.toList) (hy:∀a w,iU ops Vs S a0 (aU ops.size true) a w→nN P y Q a w):nN P (.seq (.region id ops false) y) Q a0 W:=
 lG T hf (fun a w=>iU ops Vs S a0 (aU ops.size true) a w) (fun τ d=>
  Gd.tE Vs S base cZ hn ya I4 (hS τ d) hbase hE fun a w h=>⟨rfl,h⟩) hy
theorem zN(T:Quiet P){a:Act}{W:ar}{c:Operand}{x y:Code}{t:Bool}(hc:a.eval c=.bool t)(h1:t=true→nN P x Q a W)(h2:t=false→nN P y Q a W):nN P (.cond c x y) Q a W:=by
 cases t
 ·exact m8 T hc (h2 rfl)
 ·exact m8 T hc (h1 rfl)
theorem nS{Hu:Nat→Bool}{i:Nat}{o:Oper}{ev:Operand→ak}{w:ar}{R:ak→ar→Prop}(h:Hu i=false)(hy:Yields P o ev w R):rA P Hu i o ev w R:=by unfold rA;rw[h];exact hy
theorem Cv{Hu:Nat→Bool}{i:Nat}{o:Oper}{ev:Operand→ak}{w:ar}{R:ak→ar→Prop}(h:Hu i=true)(hy:CV P o ev w R):rA P Hu i o ev w R:=by unfold rA;rw[h];exact hy
end
end Go.Lag
