/- LONE WALKS: Crew (27). LONE WALKS: Air (60). LONE WALKS: Ask (53). THE .. -/
import Derived.Test.YtffladgmkiimjaaGreatDoorW13
import Derived.Test.YtffladgmkiimjaaGreatDoorW04
import Derived.Test.YtffladgmkiimjaaGreatDoorW01
import Derived.Test.YtffladgmkiimjaaGreatDoorW02
import Derived.Test.YtffladgmkiimjaaGreatDoorW03
import Derived.Test.YtffladgmkiimjaaGreatDoorW12
import Derived.Maps.OwnOps
import Derived.Maps.Views
import Derived.Test.YtffladgmkiimjaaGreatDoorW14
set_option linter.all false
set_option maxHeartbeats 100000000
set_option maxRecDepth 1000000
open Array renaming getElem?_eq_some_iff → aj
open Go renaming undef → af,Value → ak,World → ar,Calls → bp
open Go.Addr renaming add → l5
open Go.Ending renaming returned → aG
open Go.IntKind renaming i64 → ag
open Go.Lib renaming hid → ai
open Go.Obj renaming cells → au
open Go.Operand renaming tmp → aB
open Go.Proofs.Tryz renaming prog → aq,underlying3 → iJ
open Go.RowKit renaming Below → aC
open Go.RowKit.Below renaming heap_alloc → aX,refl → aw,heap_setCell → bu
open Go.Value renaming bool → Cp,bool → aA,int → aM,agg → aQ,slice → ae,int → ah,tuple → bM,oneCell' → cy
open Go.World renaming alloc_heap_new → ax,ownsRow_nil → eO
open List renaming all_eq_true → bL,range → bf,mem_cons → cC,take_succ_eq_append_getElem → cF,length_pos_iff → cP,getElem_mem → cz,map_append → gi,length_map → iH,getElem?_eq_getElem → lZ,map → nL,length_mergeSort → xe,countP_le_length → xg
open List.range renaming loop → bR
open Nat renaming le_refl → ay,zero_add → eo,zero_le → oA
open Option.some renaming inj → bt
open Or renaming inl → bI
namespace Go.Proofs.YtffladgmkiimjaaGreatDoor
open Go.RowKit Go.Lag
theorem gA{bs:Bool}:(Cp bs=aA true)↔bs=true:=by simp
theorem gB{bs x:Bool}:((if bs=true then Cp x else af)=aA false)↔(bs && !x)=true:=by cases bs<;>cases x<;>simp[af]
theorem Vz{bs x:Bool}:((if bs=true then Cp x else af)=aA true)↔(bs&&x)=true:=by cases bs<;>cases x<;>simp[af]
theorem eV.RP{a:eV}(h:a.Ok)(i:Nat):0≤a.get i∧a.get i≤99:=by
 unfold eV.get;split
 ·exact h.m0
 ·exact h.m1
 ·exact h.m2
def eV.only(a:eV)(c:List Nat):eV:=c.foldl (fun k i=>k.put i (a.get i)) ⟨a.leak,0,0,0⟩
def Ek(b:BB)(all:List eV)(p n mask:Nat):Bool:=b.sure (all.map fun a=>a.only (eh n mask)) p
def Ej(bs f:Bool)(c l:List Int):Bool:=bs&&((!f||decide ((c.length:Int)>l.length))||(((c.length:Int)==(l.length:Int))&&decide (j9 c l<0)))
theorem eV.TG{a:eV}(h:a.Ok)(c:List Nat):(a.only c).Ok:=by
 unfold eV.only
 have:∀(c:List Nat) (k:eV),k.Ok→(c.foldl (fun k i=>k.put i (a.get i)) k).Ok:=by
  intro c
  induction c with
  |nil=>exact fun k hk=>hk
  |cons i c ih=>exact fun k hk=>ih _ (eV.Lt hk i (eV.RP h i).1 (eV.RP h i).2)
 exact this c _ ⟨h.leak,by simp,by simp,by simp⟩
def iZ(b:BB)(all:List eV)(p n:Nat):Nat→List Int × Bool
 |0=>([],false)
 |m+1=>if Ej (Ek b all p n m) (iZ b all p n m).2 (zb n m) (iZ b all p n m).1 then(zb n m,true) else iZ b all p n m
theorem UY(b:BB)(men sent marks:ak)(ml:List Mn)(ss:List Int)(ms:List Mk)(w:ar)(hL:Laid w)(hB:cK b men sent marks ml ss ms w)(hne:bn b ml ss ms≠[])(pl:List Int)(hp:fp b pl)(lv:ak)(hl:Reads w lv pl.length (pl.map (aM ag))) :
  bp aq 27 #[aQ (b.cells men sent marks),lv] w fun e w'=>∃v,e=aG (bM #[v,aA (iZ b (bn b ml ss ms) (bK pl) ml.length (2 ^ ml.length)).2,ah ag 0])∧Reads w' v (iZ b (bn b ml ss ms) (bK pl) ml.length (2 ^ ml.length)).1.length ((iZ b (bn b ml ss ms) (bK pl) ml.length (2 ^ ml.length)).1.map (aM ag))∧aC w.heap.size w w':=by
 have Ru:=hB.iw.len;obtain⟨i0,hi,hz0,hz1,hz2⟩:=info_parts info3;obtain⟨i1,KZ,PR,hy1,hy2⟩:=info_parts Nl;have hlen:=jH ss ms hB.ok hB.iw;have kG:0<(bn b ml ss ms).length:=cP.2 hne;have cZ:=hB.ok;have hao:=n4 (ss:=ss) (ms:=ms) hB.ok hB.iw;have Ac:=cZ.minutes;have pw:∀s∈pl,1≤s∧s≤8:=fun s h=>by have:=hp.mem s h;omega
 have OV:bK pl<512:=ni pl pw;obtain⟨pm,cm,rfl,_⟩:=aV hB.rm;obtain⟨pn,cn,rfl,_⟩:=aV hB.rs;obtain⟨pk,ck,rfl,_⟩:=aV hB.rk;obtain⟨qu,qC,rfl,_⟩:=aV hl;have b1:aC w.heap.size w (w.alloc (au (b.cells (ae pm ml.length cm) (ae pn ss.length cn) (ae pk ms.length ck)) 28)):=(aw _ _).alloc (ay _) _;have hk:=ax w (au (b.cells (ae pm ml.length cm) (ae pn ss.length cn) (ae pk ms.length ck)) 28)
 have SN:Hid (∀W cp,aC w.heap.size w W→W.heap[cp]?=some (au #[ae qu pl.length qC] 25 (0,0))→bp aq 103 #[aQ (b.cells (ae pm ml.length cm) (ae pn ss.length cn) (ae pk ms.length ck)),.func (.func 164) #[] #[pv cp 0]] W fun e w'=>∃v,e=aG (bM #[aQ (b.open (ae pm ml.length cm) (ae pn ss.length cn) (ae pk ms.length ck) v),ah ag 0])∧ij w' W.heap.size v (bn b ml ss ms)∧aC W.heap.size W w'):=
  ai fun W cp I3 RA=>Cz b _ _ _ ml ss ms W (hL.below I3) (hB.below I3) hne cp fun W' hb'=>by
   have hlt:=(aj.1 RA).1;exact CR b cZ _ _ _ pl hp cp _ W' ((hb'.block _ hlt).trans RA) ((hl.below I3).below hb')
 have I5:=ai hl;have PN:=ai hao;have UT:=ai pw;clear hL hB hl hao hp pw;generalize bn b ml ss ms=all at *;generalize ml.length=lm at *;generalize ss.length=ln at *;generalize ms.length=lk at *
 go_enter Tryz.func27,Tryz.ntmps27
 go_wp2
 refine cj (by kernel_rfl) [
 pV (aQ (b.cells (ae pm lm cm) (ae pn ln cn) (ae pk lk ck))),
  pV (ae qu pl.length qC),
  fun v ds w9=>∃cp,v=.func (.func 164) #[] #[pv cp 0]∧w9.heap[cp]?=some (au #[ae qu pl.length qC] 25 (0,0)),
  fun v ds w9=>∃gv cv,v=bM #[aQ (b.open (ae pm lm cm) (ae pn ln cn) (ae pk lk ck) (ae (some ⟨gv,0,none⟩) all.length cv)),ah ag 0]∧ij w9 w.heap.size (ae (some ⟨gv,0,none⟩) all.length cv) all,
  fun v ds w9=>∃gv cv,v=bM #[aQ (b.open (ae pm lm cm) (ae pn ln cn) (ae pk lk ck) (ae (some ⟨gv,0,none⟩) all.length cv)),ah ag 0]∧ij w9 w.heap.size (ae (some ⟨gv,0,none⟩) all.length cv) all,
  fun v ds w9=>∃gv cv,v=aQ (b.open (ae pm lm cm) (ae pn ln cn) (ae pk lk ck) (ae (some ⟨gv,0,none⟩) all.length cv))∧ij w9 w.heap.size (ae (some ⟨gv,0,none⟩) all.length cv) all,
  pV (ah ag 0),
  fun v ds w9=>∃k,∃z:Array ak,v=pv k 0∧w.heap.size+1≤k∧w9.heap[k]?=some (au z 122 (0,0))∧z.size=16,
  fun v ds w9=>∃k gv cv,ds[0]?=some (pv k 0)∧w.heap.size+1≤k∧w9.heap[k]?=some (au (b.open (ae pm lm cm) (ae pn ln cn) (ae pk lk ck) (ae (some ⟨gv,0,none⟩) all.length cv)) 122 (0,0))∧ij w9 w.heap.size (ae (some ⟨gv,0,none⟩) all.length cv) all,
  pV (ah ag 0)]
  (fun w9=>w9.heap[w.heap.size]?=some (au (b.cells (ae pm lm cm) (ae pn ln cn) (ae pk lk ck)) 28 (0,0))∧aC w.heap.size w w9) [(2,pv w.heap.size 0),(1,ae qu pl.length qC)] (by kernel_rfl) ?rst (fun w1 w2 h hb=>⟨(hb.block _ (aj.1 h.1).1).trans h.1,h.2.trans (hb.mono h.2.size)⟩) (⟨hk,b1.drew⟩) ⟨rfl,rfl,trivial⟩ ?reach ?rfin
 case rst=>
  refine⟨sV,sV,?_,?_,?_,?_,sV,?_,?_,sV,trivial⟩
  ·rintro v ds w1 w2 hS ⟨cp,h1,h2⟩ hb;exact⟨cp,h1,(hb.block _ (aj.1 h2).1).trans h2⟩
  ·rintro v ds w1 w2 hS ⟨gv,cv,h1,h2⟩ hb;exact⟨gv,cv,h1,h2.at_ fun g hg=>hb.block g (h2.1.lt g hg).2⟩
  ·rintro v ds w1 w2 hS ⟨gv,cv,h1,h2⟩ hb;exact⟨gv,cv,h1,h2.at_ fun g hg=>hb.block g (h2.1.lt g hg).2⟩
  ·rintro v ds w1 w2 hS ⟨gv,cv,h1,h2⟩ hb;exact⟨gv,cv,h1,h2.at_ fun g hg=>hb.block g (h2.1.lt g hg).2⟩
  ·rintro v ds w1 w2 hS ⟨k,z,h1,h2,h3,h4⟩ hb;exact⟨k,z,h1,h2,(hb.block _ (aj.1 h3).1).trans h3,h4⟩
  ·rintro v ds w1 w2 hS ⟨k,gv,cv,h1,h0,h3,h2⟩ hb;exact⟨k,gv,cv,h1,h0,(hb.block _ (aj.1 h3).1).trans h3,h2.at_ fun g hg=>hb.block g (h2.1.lt g hg).2⟩
 case reach=>
  refine⟨?_,?_,?_,?_,?_,?_,?_,?_,?_,?_,trivial⟩<;>rintro ev w1 hS hc hg hf ⟨b2,b1,-⟩ hd
  ·clear hd;obtain⟨x0,x1,x2,x3,x4,x5,x6,x7,x8,x9,nG,nE,oh,nM,nQ⟩:=bQ hS.1;refine yv ?_ rfl;go_simp
  ·clear hd;refine yv ?_ rfl;go_simp
  ·have d1:ev (aB 19)=_:=hd.1 rfl;clear hd;refine Lag.Yields.call (f:=104) (args:=#[ae qu pl.length qC]) ?_ (IE _ _ _ _) ?_
   ·go_simp
   ·rintro e w2 ⟨rfl,rfl⟩;exact⟨_,rfl,⟨_,rfl,ax _ _⟩,bI ((aw _ _).alloc (ay _) _)⟩
  ·have d0:ev (aB 18)=_:=hd.1 rfl;obtain⟨cp,Ee,xZ⟩:=hd.2.1 rfl;clear hd;replace Ee:ev (aB 20)=_:=Ee;refine Lag.Yields.call (f:=103) (args:=#[aQ (b.cells (ae pm lm cm) (ae pn ln cn) (ae pk lk ck)),.func (.func 164) #[] #[pv cp 0]]) ?_ (SN.out w1 cp hS.2 xZ) ?_
   ·go_simp
   ·rintro e w2 ⟨v,rfl,jq,hb⟩
    obtain⟨gv,cv,rfl⟩:∃gv cv,v=ae (some ⟨gv,0,none⟩) all.length cv:=by
     rcases jq.1.2 with⟨_,h0⟩|⟨g,cap,cur,rfl,_⟩
     ·omega
     ·exact⟨g,cap,rfl⟩
    exact⟨_,rfl,⟨gv,cv,rfl,jq.base hS.2.size⟩,bI hb⟩
  ·exact yv rfl (hd.1 rfl)
  ·obtain⟨gv,cv,e11,jq⟩:=hd.1 rfl;clear hd;replace e11:ev (aB 17)=_:=e11;refine yv ?_ (⟨gv,cv,rfl,jq⟩);go_simp
  ·obtain⟨gv,cv,e11,jq⟩:=hd.1 rfl;clear hd;replace e11:ev (aB 17)=_:=e11;refine yv ?_ rfl;go_simp
  ·clear hd;refine Lag.Yields.value (v:=pv w1.heap.size 0) (w':=w1.alloc (au iv 122)) ?_ ⟨⟨_,_,rfl,(aj.1 hS.1).1,ax _ _,rfl⟩,bI ((aw _ _).alloc (ay _) _)⟩;go_simp
  ·obtain⟨k,z,e6,rF,hk2,hz⟩:=hd.1 rfl;replace e6:ev (aB 7)=_:=e6;obtain⟨gv,cv,Ml,jq⟩:=hd.2.1 rfl;clear hd;replace Ml:ev (aB 22)=_:=Ml;have CJ:∀g cs t,w1.heap[g]?=some (au cs t (0,0))→t≠122→g≠k:=by rintro g cs t h1 h2 rfl;rw[hk2] at h1;cases h1;exact h2 rfl
   have DW:∀(v:ak),ij w1 w.heap.size v all→ij (w1.setRow k (b.open (ae pm lm cm) (ae pn ln cn) (ae pk lk ck) (ae (some ⟨gv,0,none⟩) all.length cv))) w.heap.size v all:=fun v ho=>ho.at_ fun g hg=>setRow_other (by
    obtain⟨cur,q1,_⟩:=ho.2 g hg
    exact CJ g _ _ q1 (by decide))
   refine Lag.Yields.lR 122 _ _ rfl k _ e6 Ml 122 z hk2 (by kernel_rfl) hz (by simp[cy]) ⟨⟨k,gv,cv,congrArg some e6,rF,cM hk2,DW _ jq⟩,.inr ⟨⟨(setRow_other (by omega)).trans hS.1,dJ hS.2 (by omega)⟩,?_⟩⟩;intro j u ds hj hp
   match j,hp with
   |0,hp=>exact hp
   |1,hp=>exact hp
   |2,⟨cp,h1,h2⟩=>exact⟨cp,h1,(setRow_other (CJ _ _ _ h2 (by decide))).trans h2⟩
   |3,⟨D7,Eh,h1,h2⟩=>exact⟨D7,Eh,h1,DW _ h2⟩
   |4,⟨D7,Eh,h1,h2⟩=>exact⟨D7,Eh,h1,DW _ h2⟩
   |5,⟨D7,Eh,h1,h2⟩=>exact⟨D7,Eh,h1,DW _ h2⟩
   |6,hp=>exact hp
   |7,⟨k',z',h1,h2,h3,h4⟩=>
    by_cases tv:k'=k
    ·subst tv;exact⟨k',_,h1,h2,cM h3,rfl⟩
    ·exact⟨k',z',h1,h2,(setRow_other tv).trans h3,h4⟩
   |8,_=>exact(hj rfl).elim
   |9,hp=>exact hp
   |j+10,_=>trivial
  ·have d6:ev (aB 23)=_:=hd.1 rfl;clear hd;refine yv (v:=ev (aB 23)) ?_ (d6);rfl
 case rfin=>
  intro a2 w2 hR;have hS:=hR.s;obtain⟨k,gv,cv,Sc,rF,hk2,jq⟩:=hR.val 8 (by decide);have e9:a2.tmps.getD 6 af=_:=hR.val 9 (by decide);have ha:=hR.lits 116 rfl;simp only[bf,bR,nL] at ha;rw[hR.kp 1 (by kernel_rfl),hR.kp 2 (by kernel_rfl),hR.kp 4 (by kernel_rfl),hR.kp 5 (by kernel_rfl)] at ha;simp only[kO,List.getD_cons_succ,List.getD_cons_zero] at ha;clear hR;have e6:a2.tmps.getD 7 af=pv k 0:=bt Sc;rw[e6,e9] at ha;generalize a2.tmps.getD=zz at ha;clear e6 Sc e9;subst ha;have sA:=hS.1;have rG:=hS.2;clear hS;obtain⟨x0,x1,x2,x3,x4,x5,x6,x7,x8,x9,nG,nE,oh,nM,nQ⟩:=bQ sA;have fx:=cI sA 12;have mC:=jq.reads (by omega)
  have HC:Hid (∀j u,(rowOf all)[j]?=some u→w2.cell? ⟨gv,0+j,none⟩=some u):=ai (by
   rcases mC with⟨h0,_⟩|⟨g,off,cap,h0,_,_,h1⟩
   ·cases h0
   ·cases h0;exact h1)
  have Bv:=(jq.1.lt gv rfl).2;have yN:=(aj.1 hk2).1;have hbl:=(aj.1 sA).1;have HK:=ai hk2;have HBo:=ai sA;have EI:=ai rG;clear hk2 mC sA rG jq hk b1 SN x0 x1 x2 x3 x4 x5 x6 x7 x8 x9 nG nE nM nQ;generalize hL:all.length=L at *;have HL:=ai hL;clear hL;obtain⟨N,XE⟩:∃N,N=2 ^ lm:=⟨_,rfl⟩
  have hN8:N≤8:=by
   have:lm=0∨lm=1∨lm=2∨lm=3:=by omega
   rcases this with h|h|h|h<;>subst h<;>omega
  have hN:wrap64 (2 ^ lm)=(N:Int):=by
   have:lm=0∨lm=1∨lm=2∨lm=3:=by omega
   rcases this with h|h|h|h<;>subst h<;>subst XE<;>simp[wrap64]
  have YR:=ai XE;clear XE;have YU:Hid (aC w2.heap.size w2 w2):=ai (aw _ _);go_wp2;rw[hN];clear hN
  go_loopw [4,5,8,9,10,11,13,14,16,31] (fun v4 f _ _ _ _ _ _ _ i wr=>∃(M:Nat) (p4:Option Addr) (c4:Nat),M≤N∧i=ah ag M∧f=aA (iZ b all (bK pl) lm M).2∧v4=ae p4 (iZ b all (bK pl) lm M).1.length c4∧Reads wr (ae p4 (iZ b all (bK pl) lm M).1.length c4) (iZ b all (bK pl) lm M).1.length ((iZ b all (bK pl) lm M).1.map (aM ag))∧aC w2.heap.size w2 wr) (fun _ _ _ _ _ _ _ _ _ i _=>N-(intOf i).toNat)
  case atStart=>exact⟨0,none,0,oA _,by simp,by simp[iZ],by simp[iZ],bI ⟨rfl,by simp[iZ],by simp[iZ]⟩,aw _ _⟩
  case round=>
   obtain⟨M,p4,c4,hM,rfl,rfl,rfl,hr4,eA⟩:=hrel;rename ar=>wo;have hsz:=eA.size
   by_cases hlt:M<N
   ·have hst:iZ b all (bK pl) lm (M+1)=if Ej (Ek b all (bK pl) lm M) (iZ b all (bK pl) lm M).2 (zb lm M) (iZ b all (bK pl) lm M).1 then(zb lm M,true) else iZ b all (bK pl) lm M:=rfl
    generalize iZ b all (bK pl) lm M=st at *;obtain⟨lc,f⟩:=st;simp only[] at hst hr4;have SI:=ai hst;have HR4:=ai hr4;have w8:=ai eA
    have FB:Hid (∀w9,aC wo.heap.size wo w9→w9.heap[k]?=some (au (b.open (ae pm lm cm) (ae pn ln cn) (ae pk lk ck) (ae (some ⟨gv,0,none⟩) L cv)) 122 (0,0))∧w9.heap[w.heap.size]?=some (au (b.cells (ae pm lm cm) (ae pn ln cn) (ae pk lk ck)) 28 (0,0))∧(∀i u,(rowOf all)[i]?=some u→w9.cell? ⟨gv,0+i,none⟩=some u)):=ai fun w9 Md=>by
     have h:=eA.trans (Md.mono hsz);exact⟨(h.block _ yN).trans HK.out,(h.block _ hbl).trans HBo.out,fun i u hi=>(h.cell (p:=⟨gv,0+i,none⟩) Bv).trans (HC.out i u hi)⟩
    obtain⟨q1,q2,-⟩:=FB.out wo (aw _ _);obtain⟨y0,y1,y2,y3,y4,y5,y6,y7,y8,y9,K7,Ja,I9,MU,I8,GL⟩:=jF q1;have g2:(wo.alloc (au #[ah ag b.room,ah ag b.depth,ah ag b.least,ah ag b.minutes,ah ag b.cu,ah ag b.iB,ah ag b.ek,ah ag b.ji,ah ag b.ll,ah ag b.lm,ah ag b.pl,ah ag b.pm,ae pm lm cm,ae pn ln cn,ae pk lk ck,ae none 0 0] 122)).heap[w.heap.size]?=some (au (b.cells (ae pm lm cm) (ae pn ln cn) (ae pk lk ck)) 28 (0,0)):=(aX _ _ _ (aj.1 q2).1).trans q2;have z12:=aH g2 12 (ae pm lm cm) rfl;have aer:=cI g2 12;clear hst hr4 eA q1 q2 g2 oh fx;have hb2:aC wo.heap.size wo (wo.alloc (au #[ah ag b.room,ah ag b.depth,ah ag b.least,ah ag b.minutes,ah ag b.cu,ah ag b.iB,ah ag b.ek,ah ag b.ji,ah ag b.ll,ah ag b.lm,ah ag b.pl,ah ag b.pm,ae pm lm cm,ae pn ln cn,ae pk lk ck,ae none 0 0] 122)):=(aw _ _).alloc (ay _) _;have ho2:=ax wo (au #[ah ag b.room,ah ag b.depth,ah ag b.least,ah ag b.minutes,ah ag b.cu,ah ag b.iB,ah ag b.ek,ah ag b.ji,ah ag b.ll,ah ag b.lm,ah ag b.pl,ah ag b.pm,ae pm lm cm,ae pn ln cn,ae pk lk ck,ae none 0 0] 122);have px:=ai hb2;have YQ:=ai ho2;have ZW:(wo.alloc (au #[ah ag b.room,ah ag b.depth,ah ag b.least,ah ag b.minutes,ah ag b.cu,ah ag b.iB,ah ag b.ek,ah ag b.ji,ah ag b.ll,ah ag b.lm,ah ag b.pl,ah ag b.pm,ae pm lm cm,ae pn ln cn,ae pk lk ck,ae none 0 0] 122)).heap.size=wo.heap.size+1:=by simp
    clear hb2 ho2;go_wp2
    go_loopw [9,11,40] (fun v9 _ i wr=>∃j:Nat,j≤lm∧i=ah ag j∧wr.ownsRow (wo.heap.size+1) 3 1 v9 (eh j M).length ((eh j M).map fun(i:Nat)=>aM ag (i:Int))∧aC (wo.heap.size+1) (wo.alloc (au #[ah ag b.room,ah ag b.depth,ah ag b.least,ah ag b.minutes,ah ag b.cu,ah ag b.iB,ah ag b.ek,ah ag b.ji,ah ag b.ll,ah ag b.lm,ah ag b.pl,ah ag b.pm,ae pm lm cm,ae pn ln cn,ae pk lk ck,ae none 0 0] 122)) wr) (fun _ _ i _=>lm-(intOf i).toNat)
    case atStart=>exact⟨0,oA _,by simp,eO _ _ _ _,aw _ _⟩
    case round=>
     obtain⟨j,hj,rfl,hown,xY⟩:=hrel;have WQ:=xY.size;rw[ZW] at WQ;have hcl:=qD j M;have hM5:M<512:=Nat.lt_of_lt_of_le hlt (Nat.le_trans hN8 (by decide))
     by_cases Ud:j<lm
     ·cases hb:M.testBit j
      ·have e1:eh (j+1) M=eh j M:=by rw[rh,hb];simp
       have O4:=vY M j hM5;rw[hb] at O4;have H1:=ai e1;clear e1;go_wp2;go_roundw
       case rel=>exact⟨j+1,by omega,by simp,by rw[H1.out];exact hown,xY⟩
       case measure=>simp[intOf];omega
      ·have e1:eh (j+1) M=eh j M++[j]:=by rw[rh,hb];simp
       have O4:=vY M j hM5;rw[hb] at O4;have H1:=ai e1
       have UU:Hid (∀(i:Nat) (u:ak),([ah ag (j:Int)]:List ak)[i]?=some u→(wr.alloc (au #[ah ag (j:Int)] 3)).cell? ((⟨wr.heap.size,0,none⟩:Addr).add i)=some u):=ai fun i u hj=>by
        match i,hj with
        |0,hj=>simp at hj;subst hj;simp[l5]
       clear e1
       go_wp2_with (at_builtin;refine wpList_append_own _ rfl _ _ 25 rfl (wo.heap.size+1) 3 i0 (ah ag 0) 1 8 Tryz.underlying25 hi hz0 hz1 hz2 rfl (by decide) u9 _ _ rfl (hown.alloc _) ⟨wr.heap.size,0,none⟩ 1 1 [ah ag (j:Int)] rfl rfl UU.out (by simp[cy]) (by unfold maxLen;omega) (by omega) (by simp;omega) ?_;intro v' w3 JX hgrow hnil)
       go_roundw
       case rel=>exact⟨j+1,by omega,by simp,by rw[H1.out,List.length_append,gi];exact JX,td (by omega) hown xY hgrow⟩
       case measure=>simp[intOf];omega
     ·obtain rfl:lm=j:=by omega
      rename ar=>wc;obtain⟨p9,c9,rfl⟩:=eu hown;have Vw:aC wo.heap.size wo wc:=px.out.trans (xY.mono (by simp));have hoc:wc.heap[wo.heap.size]?=some (au #[ah ag b.room,ah ag b.depth,ah ag b.least,ah ag b.minutes,ah ag b.cu,ah ag b.iB,ah ag b.ek,ah ag b.ji,ah ag b.ll,ah ag b.lm,ah ag b.pl,ah ag b.pm,ae pm lm cm,ae pn ln cn,ae pk lk ck,ae none 0 0] 122 (0,0)):=(xY.block _ (by simp)).trans YQ.out;have ag8:=aH (FB.out wc Vw).1 15 (ae (some ⟨gv,0,none⟩) L cv) rfl;have aiS:=cI (FB.out wc Vw).1 15;have aeW:=ai hown;have HBc:=ai Vw;have HOc:=ai hoc;have hcs:wo.heap.size+1≤wc.heap.size:=WQ;have hCb:∀i∈eh lm M,i<lm:=fun i hi=>by simp[eh] at hi;exact hi.1
      have O7:=qD lm M;unfold Ek zb at SI;clear hown xY Vw hoc y0 y1 y2 y3 y4 y5 y6 y7 y8 y9 K7 Ja I9 MU I8 GL z12 aer WQ;go_wp2;generalize eh lm M=C at *
      go_loopw [13,14,16,56] (fun _ _ _ i wr=>∃(j:Nat) (PQ:Option Addr) (c15:Nat),j≤L∧i=ah ag j∧wr.heap[wo.heap.size]?=some (au #[ah ag b.room,ah ag b.depth,ah ag b.least,ah ag b.minutes,ah ag b.cu,ah ag b.iB,ah ag b.ek,ah ag b.ji,ah ag b.ll,ah ag b.lm,ah ag b.pl,ah ag b.pm,ae pm lm cm,ae pn ln cn,ae pk lk ck,ae PQ j c15] 122 (0,0))∧wr.ownsRow (wo.heap.size+1) 134 4 (ae PQ j c15) j (rowOf ((all.take j).map fun a=>a.only C))∧wr.ownsRow (wo.heap.size+1) 3 1 (ae p9 C.length c9) C.length (C.map fun(i:Nat)=>aM ag (i:Int))∧aC wo.heap.size wo wr) (fun _ _ _ i _=>L-(intOf i).toNat)
      case atStart=>exact⟨0,none,0,oA _,by simp,HOc.out,eO _ _ _ _,aeW.out,HBc.out⟩
      case round=>
       obtain⟨j,PQ,c15,hj,rfl,S7,JV,Ns,xY⟩:=hrel;have WQ:=xY.size
       by_cases Ud:j<L
       ·rename ar=>wj;have H9:j<all.length:=by rw[HL.out];exact Ud
        obtain⟨c0,c1,c2,c3⟩:=Reads.cell (w:=wj) (cap:=cv) (n:=L) (FB.out wj xY).2.2 j H9;simp only[eo] at c0 c1 c2 c3;have hao:=PN.out _ (cz H9);have tR:(all.take (j+1)).map (fun a=>a.only C)=(all.take j).map (fun a=>a.only C)++[all[j].only C]:=by rw[cF H9,gi];rfl
        have HTk:=ai tR;have PK:=ai xY;have HOj:=ai S7;have HOA:=ai JV;have HOC:=ai Ns;have HAk:=ai hao;clear tR xY S7 JV Ns hao;generalize all[j]=a at *;go_wp2;have hWs:((wj.alloc (au a.cells 134)).alloc (au (⟨a.leak,0,0,0⟩:eV).cells 134)).heap.size=wj.heap.size+2:=by simp
        have hAw:((wj.alloc (au a.cells 134)).alloc (au (⟨a.leak,0,0,0⟩:eV).cells 134)).heap[wj.heap.size]?=some (au a.cells 134 (0,0)):=(aX _ _ _ (by simp)).trans (ax wj _)
        have hKw:((wj.alloc (au a.cells 134)).alloc (au (⟨a.leak,0,0,0⟩:eV).cells 134)).heap[wj.heap.size+1]?=some (au (⟨a.leak,0,0,0⟩:eV).cells 134 (0,0)):=by
         have:=ax (wj.alloc (au a.cells 134)) (au (⟨a.leak,0,0,0⟩:eV).cells 134);simpa using this
        have I3:aC wj.heap.size wj ((wj.alloc (au a.cells 134)).alloc (au (⟨a.leak,0,0,0⟩:eV).cells 134)):=((aw _ _).alloc (ay _) _).alloc (by simp) _;have HAw:=ai hAw;have HKw:=ai hKw;have HbW:=ai I3;clear hAw hKw I3 c0 c1 c2 c3
        go_loopw [16,65] (fun _ i wr=>∃t:Nat,t≤C.length∧i=ah ag t∧wr.heap[wj.heap.size+1]?=some (au ((C.take t).foldl (fun k i=>k.put i (a.get i)) (⟨a.leak,0,0,0⟩:eV)).cells 134 (0,0))∧aC (wj.heap.size+1) ((wj.alloc (au a.cells 134)).alloc (au (⟨a.leak,0,0,0⟩:eV).cells 134)) wr) (fun _ i _=>C.length-(intOf i).toNat)
        case atStart=>exact⟨0,oA _,by simp,HKw.out,aw _ _⟩
        case round=>
         obtain⟨t,ht,rfl,Nt,YC⟩:=hrel;have YD:=YC.size;rw[hWs] at YD;have O4:aC wj.heap.size wj wr:=HbW.out.trans (YC.mono (by simp));have hAt:=(YC.block wj.heap.size (by simp)).trans HAw.out;have XH:=eJ HOC.out O4;have HTx:=ai YC;have HBt:=ai O4;have HKt:=ai Nt
         by_cases LR:t<C.length
         ·obtain⟨g9,rfl⟩:∃g9,p9=some ⟨g9,0,none⟩:=by
           rcases XH.2 with⟨h1,h2⟩|⟨g,cap,cur,h1,_⟩
           ·exfalso;simp at h1;omega
           ·exact⟨g,by simp at h1;exact h1.1⟩
          have hci:=XH.cells (g:=g9) rfl t (ah ag (C[t]:Nat)) (by simp[lZ LR]);have e9:(⟨g9,0,none⟩:Addr).add t=⟨g9,t,none⟩:=by cases t<;>simp[l5]
          rw[e9] at hci;have hi3:C[t]<3:=by have:=hCb _ (cz LR);omega
          have hfo:(C.take (t+1)).foldl (fun k i=>k.put i (a.get i)) (⟨a.leak,0,0,0⟩:eV)=((C.take t).foldl (fun k i=>k.put i (a.get i)) (⟨a.leak,0,0,0⟩:eV)).put C[t] (a.get C[t]):=by rw[cF LR,List.foldl_append];rfl
          have HFo:=ai hfo;generalize (C.take t).foldl (fun k i=>k.put i (a.get i)) (⟨a.leak,0,0,0⟩:eV)=kk at *;generalize C[t]=i at *
          have hx1:wr.cell? ⟨wj.heap.size,1+i,none⟩=some (ah ag (a.get i)):=by
           match i,hi3 with
           |0,_=>exact aH hAt 1 _ rfl
           |1,_=>exact aH hAt 2 _ rfl
           |2,_=>exact aH hAt 3 _ rfl
          have hx2:wr.cell? ⟨wj.heap.size+1,1+i,none⟩=some (ah ag (kk.get i)):=by
           match i,hi3 with
           |0,_=>exact aH Nt 1 _ rfl
           |1,_=>exact aH Nt 2 _ rfl
           |2,_=>exact aH Nt 3 _ rfl
          have hx3:=cI Nt (1+i);have hst:=NH i hi3 (a.get i) Nt;have HSe:=ai hst;clear hst hfo YC O4 hAt XH Nt e9;go_wp2;go_roundw
          case rel=>exact⟨t+1,by omega,by simp,by rw[HFo.out];exact HSe.out,HTx.out.setCell (p:=⟨wj.heap.size+1,1+i,none⟩) (ay _) _⟩
          case measure=>simp[intOf];omega
         ·obtain rfl:C.length=t:=by omega
          have tv:(C.take C.length).foldl (fun k i=>k.put i (a.get i)) (⟨a.leak,0,0,0⟩:eV)=a.only C:=by rw[List.take_length];rfl
          rw[tv] at Nt;have HKt:=ai Nt;generalize a.only C=kk at *;have k0:=aH Nt 0 (ah ag kk.leak) rfl;have k1:=aH Nt 1 (ah ag kk.m0) rfl;have k2:=aH Nt 2 (ah ag kk.m1) rfl;have k3:=aH Nt 3 (ah ag kk.m2) rfl;have hot:wr.heap[wo.heap.size]?=some (au #[ah ag b.room,ah ag b.depth,ah ag b.least,ah ag b.minutes,ah ag b.cu,ah ag b.iB,ah ag b.ek,ah ag b.ji,ah ag b.ll,ah ag b.lm,ah ag b.pl,ah ag b.pm,ae pm lm cm,ae pn ln cn,ae pk lk ck,ae PQ j c15] 122 (0,0)):=(O4.block _ (aj.1 HOj.out).1).trans HOj.out;have hAA:=eJ HOA.out O4;have hol:=(aj.1 hot).1;have GL:=aH hot 15 (ae PQ j c15) rfl
          have UU:Hid (∀(i:Nat) (u:ak),kk.cells.toList[i]?=some u→(wr.alloc (au kk.cells 134)).cell? ((⟨wr.heap.size,0,none⟩:Addr).add i)=some u):=ai fun i u hj=>by
           have:=ax wr (au kk.cells 134);have h5:=aH this i u (by simpa using hj);have e:(⟨wr.heap.size,0,none⟩:Addr).add i=⟨wr.heap.size,i,none⟩:=by cases i<;>simp[l5]
           rw[e];exact h5
          have KU:=ai XH;have HAA:=ai hAA;have HOt:=ai hot;have hbo:wo.heap.size+1≤wr.heap.size:=by omega
          clear Nt YC O4 hAt XH tv hot
          go_wp2_with (first
           |(at_builtin;refine wpList_append_own _ rfl _ _ 120 rfl (wo.heap.size+1) 134 i1 (aQ #[ah ag 0,ah ag 0,ah ag 0,ah ag 0]) 4 32 Tryz.underlying120 KZ PR hy1 hy2 rfl (by decide) (ae PQ j c15) j (rowOf ((all.take j).map fun a=>a.only C)) rfl (hAA.alloc (au kk.cells 134)) ⟨wr.heap.size,0,none⟩ 1 1 kk.cells.toList rfl rfl UU.out (by simp[cy]) (by unfold maxLen;omega) (by omega) (by first|omega|(simp;omega)) ?_;intro v' w5 Rq hgrow hnil
             obtain⟨p16,c16,rfl⟩:=eu Rq;have ho5:w5.heap[wo.heap.size]?=some (au #[ah ag b.room,ah ag b.depth,ah ag b.least,ah ag b.minutes,ah ag b.cu,ah ag b.iB,ah ag b.ek,ah ag b.ji,ah ag b.ll,ah ag b.lm,ah ag b.pl,ah ag b.pm,ae pm lm cm,ae pn ln cn,ae pk lk ck,ae PQ j c15] 122 (0,0)):=(hgrow.block _ (by simp;omega) (mX hAA HOt.out (by decide))).trans ((aX _ _ _ hol).trans HOt.out);have hC5:=ie (W':=w5) (KU.out.alloc (au kk.cells 134)) fun g hg=>hgrow.block g ((KU.out.alloc (au kk.cells 134)).lt g hg).2 (yu KU.out hAA (by decide) hg);have HO5:=ai ho5;have HC5:=ai hC5;have Ym:=ai Rq;have HG5:=ai hgrow;have f15:=cI ho5 15;have z15:=aH ho5 15 (ae PQ j c15) rfl
             clear ho5 hC5 Rq hgrow hnil))
          go_roundw
          case rel=>
           refine⟨j+1,p16,c16,by omega,by simp,bT _ HO5.out,?_,dC HC5.out HO5.out (by decide),(((PK.out.trans (HBt.out.mono WQ)).alloc (by omega) _).grown HG5.out (by simp;omega) (fun g hg=>by have:=(HAA.out.lt g hg).1;omega)).setCell (p:=⟨wo.heap.size,15,none⟩) (ay _) _⟩;rw[HTk.out,Dl];exact dC Ym.out HO5.out (by decide)
          case measure=>simp[intOf];omega
       ·obtain rfl:L=j:=by omega
        rename ar=>wd;have tR:all.take L=all:=List.take_of_length_le (by rw[HL.out];exact ay _);rw[tR] at JV;have hall:(all.map fun a=>a.only C).length=L:=by rw[iH];exact HL.out
        have hrA:Reads wd (ae PQ L c15) (all.map fun a=>a.only C).length (rowOf (all.map fun a=>a.only C)):=by
         rw[hall];exact Reads.jP JV (by omega) (by rw[Oe,hall];omega)
        have hrC:Reads wd (ae p9 C.length c9) (C.map fun(i:Nat)=>(i:Int)).length ((C.map fun(i:Nat)=>(i:Int)).map (aM ag)):=by
         have h1:=Reads.jP Ns (by omega) (by simp);rw[iH,List.map_map];exact h1
        have hSu:=fun W (hb:aC wd.heap.size wd W)=>xi b cZ (ae pm lm cm) (ae pn ln cn) (ae pk lk ck) (ae PQ L c15) (all.map fun a=>a.only C) (fun a ha=>by
         obtain⟨x,hx,rfl⟩:=List.mem_map.1 ha
         exact eV.TG (PN.out x hx) C) (bK pl) OV W (hrA.below hb)
        have hrL:Reads wd (ae p4 lc.length c4) lc.length (lc.map (aM ag)):=HR4.out.below xY;have hpl:Reads wd (ae qu pl.length qC) pl.length (pl.map (aM ag)):=I5.out.below (EI.out.trans ((w8.out.mono EI.out.size).trans (xY.mono (by have:=EI.out.size;omega))));have hcm:=fun W (hb:aC wd.heap.size wd W)=>rj (C.map fun(i:Nat)=>(i:Int)) lc (ae p9 C.length c9) (ae p4 lc.length c4) W (hrC.below hb) (hrL.below hb);have OU:=fun W (hb:aC wd.heap.size wd W)=>lL pl UT.out (ae qu pl.length qC) W (hpl.below hb);have HSu:=ai hSu;have HCm:=ai hcm;have HPo:=ai OU;have HRC:=ai hrC;have HRL:=ai hrL;have HQd:=ai xY;have HOd:=ai S7;clear hSu hcm OU hrC hrL hrA hpl xY S7 JV Ns tR hall;unfold Ej at SI;obtain⟨g12,Ur⟩:∃r,decide ((C.length:Int)>lc.length)=r:=⟨_,rfl⟩
        obtain⟨g20,h20⟩:∃r,((C.length:Int)==(lc.length:Int))=r:=⟨_,rfl⟩
        obtain⟨NG,h24⟩:∃r,decide (j9 (C.map fun(i:Nat)=>(i:Int)) lc<0)=r:=⟨_,rfl⟩
        simp only[iH] at SI;rw[Ur,h20,h24] at SI;generalize b.sure (all.map fun a=>a.only C) (bK pl)=bs at *;go_wp2
        refine Gd.cj (by kernel_rfl) [
        pV (aQ (b.open (ae pm lm cm) (ae pn ln cn) (ae pk lk ck) (ae PQ L c15))),
         pV (ae qu pl.length qC),
         pV (ah ag (bK pl)),
         pV (aA bs),
         pV (aA bs),
         fun v ds w9=>bs=true→v=aA f,
         fun v ds w9=>bs=true→v=aA (!f),
         pV ((if bs=true then Cp (!f) else af)),
         fun v ds w9=>(bs && !(!f))=true→v=ae p9 C.length c9,
         fun v ds w9=>(bs && !(!f))=true→v=ah ag C.length,
         fun v ds w9=>(bs && !(!f))=true→v=ae p4 lc.length c4,
         fun v ds w9=>(bs && !(!f))=true→v=ah ag lc.length,
         fun v ds w9=>(bs && !(!f))=true→v=aA g12,
         fun v ds w9=>bs=true→v=aA (!f||g12),
         pV ((if bs=true then Cp (!f||g12) else af)),
         fun v ds w9=>(bs && !(!f||g12))=true→v=ae p9 C.length c9,
         fun v ds w9=>(bs && !(!f||g12))=true→v=ah ag C.length,
         fun v ds w9=>(bs && !(!f||g12))=true→v=ae p4 lc.length c4,
         fun v ds w9=>(bs && !(!f||g12))=true→v=ah ag lc.length,
         fun v ds w9=>(bs && !(!f||g12))=true→v=aA g20,
         pV ((if (bs && !(!f||g12))=true then Cp g20 else af)),
         fun v ds w9=>((bs && !(!f||g12))&&g20)=true→v=ae p9 C.length c9,
         fun v ds w9=>((bs && !(!f||g12))&&g20)=true→v=ae p4 lc.length c4,
         fun v ds w9=>((bs && !(!f||g12))&&g20)=true→v=ah ag (j9 (C.map fun(i:Nat)=>(i:Int)) lc),
         fun v ds w9=>((bs && !(!f||g12))&&g20)=true→v=aA NG,
         fun v ds w9=>(bs && !(!f||g12))=true→v=aA (g20&&NG),
         fun v ds w9=>bs=true→v=aA ((!f||g12)||(g20&&NG)),
         pV (aA (bs&&((!f||g12)||(g20&&NG))))]
         (fun w9=>aC wd.heap.size wd w9) [(1,ae qu pl.length qC),(4,ae p4 lc.length c4),(5,aA f),(9,ae p9 C.length c9),(10,pv wo.heap.size 0)] (by kernel_rfl) ?rst (fun w1 w2 h hb=>h.trans (hb.mono h.size)) ((aw _ _).drew) ⟨rfl,rfl,rfl,rfl,rfl,trivial⟩ ?reach ?rfin
        case rst=>
         refine⟨sV,sV,sV,sV,sV,fun _ _ _ _ _ h _=>h,fun _ _ _ _ _ h _=>h,sV,fun _ _ _ _ _ h _=>h,fun _ _ _ _ _ h _=>h,fun _ _ _ _ _ h _=>h,fun _ _ _ _ _ h _=>h,fun _ _ _ _ _ h _=>h,fun _ _ _ _ _ h _=>h,sV,fun _ _ _ _ _ h _=>h,fun _ _ _ _ _ h _=>h,fun _ _ _ _ _ h _=>h,fun _ _ _ _ _ h _=>h,fun _ _ _ _ _ h _=>h,sV,fun _ _ _ _ _ h _=>h,fun _ _ _ _ _ h _=>h,fun _ _ _ _ _ h _=>h,fun _ _ _ _ _ h _=>h,fun _ _ _ _ _ h _=>h,fun _ _ _ _ _ h _=>h,sV,trivial⟩
        case reach=>
         refine⟨?_,?_,?_,?_,?_,?_,?_,?_,?_,?_,?_,?_,?_,?_,?_,?_,?_,?_,?_,?_,?_,?_,?_,?_,?_,?_,?_,?_,trivial⟩<;>rintro ev w1 hS hc hg hf ⟨b1,b4,b5,b9,Sw,-⟩ hd
         ·clear hd;have q:=(Below.block hS _ (aj.1 HOd.out).1).trans HOd.out;exact k8 122 rfl Sw q Tryz.underlying122 rfl (by kernel_rfl) (rfl)
         ·clear hd;refine yv ?_ rfl;go_simp
         ·have d1:ev (aB 85)=_:=hd.1 rfl;clear hd;refine yq (args:=#[ae qu pl.length qC]) (HPo.out _ hS) ?_ fun _=>rfl;go_simp
         ·have d0:ev (aB 84)=_:=hd.1 rfl;have d2:ev (aB 86)=_:=hd.2.1 rfl;clear hd;refine yc (args:=#[aQ (b.open (ae pm lm cm) (ae pn ln cn) (ae pk lk ck) (ae PQ L c15)),ah ag (bK pl)]) (HSu.out _ hS) ?_ fun _=>rfl;go_simp
         ·have d3:ev (aB 87)=_:=hd.1 rfl;clear hd;refine yv ?_ rfl;go_simp
         ·have d4:ev (aB 88)=_:=hd.1 rfl;clear hd;refine⟨fun hgd=>?_,fun hgd=>⟨?_,bI (aw _ _)⟩⟩
          ·have hA:=gA.1 (d4.symm.trans hgd);refine yv (v:=(aA f:ak)) ?_ (fun _=>rfl);go_simp
          ·intro hc;exact absurd (d4.trans (gA.2 hc)) hgd
         ·have d5:bs=true→(ev (aB 89))=aA f:=hd.1 rfl;have d4:ev (aB 88)=_:=hd.2.1 rfl;clear hd;refine⟨fun hgd=>?_,fun hgd=>⟨?_,bI (aw _ _)⟩⟩
          ·have hA:=gA.1 (d4.symm.trans hgd);have y5:=d5 hA;refine yv (v:=(aA (!f):ak)) ?_ (fun _=>rfl);go_simp
          ·intro hc;exact absurd (d4.trans (gA.2 hc)) hgd
         ·have d6:bs=true→(ev (aB 90))=aA (!f):=hd.1 rfl;have d4:ev (aB 88)=_:=hd.2.1 rfl;clear hd;refine⟨fun hgd=>?_,fun hgd=>⟨?_,bI (aw _ _)⟩⟩
          ·have hA:=gA.1 (d4.symm.trans hgd);have y6:=d6 hA;refine yv (v:=aA (!f)) ?_ ((if_pos hA).symm);go_simp
          ·exact(if_neg (fun hc=>absurd (d4.trans (gA.2 hc)) hgd)).symm
         ·have d7:ev (aB 91)=_:=hd.1 rfl;clear hd;refine⟨fun hgd=>?_,fun hgd=>⟨?_,bI (aw _ _)⟩⟩
          ·have hA:=gB.1 (d7.symm.trans hgd);refine yv (v:=(ae p9 C.length c9:ak)) ?_ (fun _=>rfl);go_simp
          ·intro hc;exact absurd (d7.trans (gB.2 hc)) hgd
         ·have d8:(bs && !(!f))=true→(ev (aB 92))=ae p9 C.length c9:=hd.1 rfl;have d7:ev (aB 91)=_:=hd.2.1 rfl;clear hd;refine⟨fun hgd=>?_,fun hgd=>⟨?_,bI (aw _ _)⟩⟩
          ·have hA:=gB.1 (d7.symm.trans hgd);have y8:=d8 hA;refine yv (v:=(ah ag C.length:ak)) ?_ (fun _=>rfl);go_simp
          ·intro hc;exact absurd (d7.trans (gB.2 hc)) hgd
         ·have d7:ev (aB 91)=_:=hd.1 rfl;clear hd;refine⟨fun hgd=>?_,fun hgd=>⟨?_,bI (aw _ _)⟩⟩
          ·have hA:=gB.1 (d7.symm.trans hgd);refine yv (v:=(ae p4 lc.length c4:ak)) ?_ (fun _=>rfl);go_simp
          ·intro hc;exact absurd (d7.trans (gB.2 hc)) hgd
         ·have d10:(bs && !(!f))=true→(ev (aB 94))=ae p4 lc.length c4:=hd.1 rfl;have d7:ev (aB 91)=_:=hd.2.1 rfl;clear hd;refine⟨fun hgd=>?_,fun hgd=>⟨?_,bI (aw _ _)⟩⟩
          ·have hA:=gB.1 (d7.symm.trans hgd);have K7:=d10 hA;refine yv (v:=(ah ag lc.length:ak)) ?_ (fun _=>rfl);go_simp
          ·intro hc;exact absurd (d7.trans (gB.2 hc)) hgd
         ·have d9:(bs && !(!f))=true→(ev (aB 93))=ah ag C.length:=hd.1 rfl;have d11:(bs && !(!f))=true→(ev (aB 95))=ah ag lc.length:=hd.2.1 rfl;have d7:ev (aB 91)=_:=hd.2.2.1 rfl;clear hd;refine⟨fun hgd=>?_,fun hgd=>⟨?_,bI (aw _ _)⟩⟩
          ·have hA:=gB.1 (d7.symm.trans hgd);have y9:=d9 hA;have Ja:=d11 hA;refine yv (v:=aA g12) ?_ (fun _=>rfl);rw[←Ur];go_simp
          ·intro hc;exact absurd (d7.trans (gB.2 hc)) hgd
         ·have d7:ev (aB 91)=_:=hd.1 rfl;have d12:(bs && !(!f))=true→(ev (aB 96))=aA g12:=hd.2.1 rfl;have d4:ev (aB 88)=_:=hd.2.2.1 rfl;clear hd;refine⟨fun hgd=>?_,fun hgd=>⟨?_,bI (aw _ _)⟩⟩
          ·have hA:=gA.1 (d4.symm.trans hgd);rcases Bool.eq_false_or_eq_true f with hf|hf
           ·have y7:ev (aB 91)=aA false:=by rw[d7,if_pos hA,hf];rfl
            clear d7;have I9:=d12 (by rw[hA,hf];rfl);refine yv (v:=aA g12) ?_ (fun _=>by rw[hf];simp);go_simp
           ·have y7:ev (aB 91)=aA true:=by rw[d7,if_pos hA,hf];rfl
            clear d7;refine yv (v:=aA true) ?_ (fun _=>by rw[hf];simp);go_simp
          ·intro hc;exact absurd (d4.trans (gA.2 hc)) hgd
         ·have d13:bs=true→(ev (aB 97))=aA (!f||g12):=hd.1 rfl;have d4:ev (aB 88)=_:=hd.2.2.1 rfl;clear hd;refine⟨fun hgd=>?_,fun hgd=>⟨?_,bI (aw _ _)⟩⟩
          ·have hA:=gA.1 (d4.symm.trans hgd);have MU:=d13 hA;refine yv (v:=aA (!f||g12)) ?_ ((if_pos hA).symm);go_simp
          ·exact(if_neg (fun hc=>absurd (d4.trans (gA.2 hc)) hgd)).symm
         ·have d14:ev (aB 98)=_:=hd.1 rfl;clear hd;refine⟨fun hgd=>?_,fun hgd=>⟨?_,bI (aw _ _)⟩⟩
          ·have hA:=gB.1 (d14.symm.trans hgd);refine yv (v:=(ae p9 C.length c9:ak)) ?_ (fun _=>rfl);go_simp
          ·intro hc;exact absurd (d14.trans (gB.2 hc)) hgd
         ·have d15:(bs && !(!f||g12))=true→(ev (aB 99))=ae p9 C.length c9:=hd.1 rfl;have d14:ev (aB 98)=_:=hd.2.1 rfl;clear hd;refine⟨fun hgd=>?_,fun hgd=>⟨?_,bI (aw _ _)⟩⟩
          ·have hA:=gB.1 (d14.symm.trans hgd);have GL:=d15 hA;refine yv (v:=(ah ag C.length:ak)) ?_ (fun _=>rfl);go_simp
          ·intro hc;exact absurd (d14.trans (gB.2 hc)) hgd
         ·have d14:ev (aB 98)=_:=hd.1 rfl;clear hd;refine⟨fun hgd=>?_,fun hgd=>⟨?_,bI (aw _ _)⟩⟩
          ·have hA:=gB.1 (d14.symm.trans hgd);refine yv (v:=(ae p4 lc.length c4:ak)) ?_ (fun _=>rfl);go_simp
          ·intro hc;exact absurd (d14.trans (gB.2 hc)) hgd
         ·have d17:(bs && !(!f||g12))=true→(ev (aB 101))=ae p4 lc.length c4:=hd.1 rfl;have d14:ev (aB 98)=_:=hd.2.1 rfl;clear hd;refine⟨fun hgd=>?_,fun hgd=>⟨?_,bI (aw _ _)⟩⟩
          ·have hA:=gB.1 (d14.symm.trans hgd);have YX:=d17 hA;refine yv (v:=(ah ag lc.length:ak)) ?_ (fun _=>rfl);go_simp
          ·intro hc;exact absurd (d14.trans (gB.2 hc)) hgd
         ·have d16:(bs && !(!f||g12))=true→(ev (aB 100))=ah ag C.length:=hd.1 rfl;have d18:(bs && !(!f||g12))=true→(ev (aB 102))=ah ag lc.length:=hd.2.1 rfl;have d14:ev (aB 98)=_:=hd.2.2.1 rfl;clear hd;refine⟨fun hgd=>?_,fun hgd=>⟨?_,bI (aw _ _)⟩⟩
          ·have hA:=gB.1 (d14.symm.trans hgd);have y16:=d16 hA;have YW:=d18 hA;refine yv (v:=aA g20) ?_ (fun _=>rfl);rw[←h20];go_simp
          ·intro hc;exact absurd (d14.trans (gB.2 hc)) hgd
         ·have d19:(bs && !(!f||g12))=true→(ev (aB 103))=aA g20:=hd.1 rfl;have d14:ev (aB 98)=_:=hd.2.1 rfl;clear hd;refine⟨fun hgd=>?_,fun hgd=>⟨?_,bI (aw _ _)⟩⟩
          ·have hA:=gB.1 (d14.symm.trans hgd);have y19:=d19 hA;refine yv (v:=aA g20) ?_ ((if_pos hA).symm);go_simp
          ·exact(if_neg (fun hc=>absurd (d14.trans (gB.2 hc)) hgd)).symm
         ·have d20:ev (aB 104)=_:=hd.1 rfl;clear hd;refine⟨fun hgd=>?_,fun hgd=>⟨?_,bI (aw _ _)⟩⟩
          ·have hA:=Vz.1 (d20.symm.trans hgd);refine yv (v:=(ae p9 C.length c9:ak)) ?_ (fun _=>rfl);go_simp
          ·intro hc;exact absurd (d20.trans (Vz.2 hc)) hgd
         ·have d20:ev (aB 104)=_:=hd.1 rfl;clear hd;refine⟨fun hgd=>?_,fun hgd=>⟨?_,bI (aw _ _)⟩⟩
          ·have hA:=Vz.1 (d20.symm.trans hgd);refine yv (v:=(ae p4 lc.length c4:ak)) ?_ (fun _=>rfl);go_simp
          ·intro hc;exact absurd (d20.trans (Vz.2 hc)) hgd
         ·have d21:((bs && !(!f||g12))&&g20)=true→(ev (aB 105))=ae p9 C.length c9:=hd.1 rfl;have d22:((bs && !(!f||g12))&&g20)=true→(ev (aB 106))=ae p4 lc.length c4:=hd.2.1 rfl;have d20:ev (aB 104)=_:=hd.2.2.1 rfl;clear hd;refine⟨fun hgd=>?_,fun hgd=>⟨?_,bI (aw _ _)⟩⟩
          ·have hA:=Vz.1 (d20.symm.trans hgd);have y21:=d21 hA;have y22:=d22 hA;refine Lag.Yields.call (f:=98) (args:=#[ae p9 C.length c9,ae p4 lc.length c4]) ?_ (HCm.out _ hS) ?_
           ·go_simp
           ·rintro e w2 ⟨rfl,rfl⟩;exact⟨_,rfl,fun _=>rfl,bI (aw _ _)⟩
          ·intro hc;exact absurd (d20.trans (Vz.2 hc)) hgd
         ·have d23:((bs && !(!f||g12))&&g20)=true→(ev (aB 107))=ah ag (j9 (C.map fun(i:Nat)=>(i:Int)) lc):=hd.1 rfl;have d20:ev (aB 104)=_:=hd.2.1 rfl;clear hd;refine⟨fun hgd=>?_,fun hgd=>⟨?_,bI (aw _ _)⟩⟩
          ·have hA:=Vz.1 (d20.symm.trans hgd);have y23:=d23 hA;refine yv (v:=aA NG) ?_ (fun _=>rfl);rw[←h24];go_simp
          ·intro hc;exact absurd (d20.trans (Vz.2 hc)) hgd
         ·have d20:ev (aB 104)=_:=hd.1 rfl;have d24:((bs && !(!f||g12))&&g20)=true→(ev (aB 108))=aA NG:=hd.2.1 rfl;have d14:ev (aB 98)=_:=hd.2.2.1 rfl;clear hd;refine⟨fun hgd=>?_,fun hgd=>⟨?_,bI (aw _ _)⟩⟩
          ·have hA:=gB.1 (d14.symm.trans hgd);have y20:ev (aB 104)=aA g20:=by rw[d20,if_pos hA]
           clear d20;rcases Bool.eq_false_or_eq_true g20 with hf|hf
           ·have y24:=d24 (by rw[hA,hf];rfl);rw[hf] at y20;refine yv (v:=aA NG) ?_ (fun _=>by rw[hf];simp);go_simp
           ·rw[hf] at y20;refine yv (v:=aA false) ?_ (fun _=>by rw[hf];simp);go_simp
          ·intro hc;exact absurd (d14.trans (gB.2 hc)) hgd
         ·have d14:ev (aB 98)=_:=hd.1 rfl;have d25:(bs && !(!f||g12))=true→(ev (aB 109))=aA (g20&&NG):=hd.2.1 rfl;have d4:ev (aB 88)=_:=hd.2.2.1 rfl;clear hd;refine⟨fun hgd=>?_,fun hgd=>⟨?_,bI (aw _ _)⟩⟩
          ·have hA:=gA.1 (d4.symm.trans hgd);have I8:ev (aB 98)=aA (!f||g12):=by rw[d14,if_pos hA]
           clear d14;rcases Bool.eq_false_or_eq_true (!f||g12) with hf | hf
           ·rw[hf] at I8;refine yv (v:=aA true) ?_ (fun _=>by rw[hf];simp);go_simp
           ·have y25:=d25 (by rw[hA,hf];rfl);rw[hf] at I8;refine yv (v:=aA (g20&&NG)) ?_ (fun _=>by rw[hf];simp);go_simp
          ·intro hc;exact absurd (d4.trans (gA.2 hc)) hgd
         ·have d4:ev (aB 88)=_:=hd.1 rfl;have d26:bs=true→(ev (aB 110))=aA ((!f||g12)||(g20&&NG)):=hd.2.1 rfl;clear hd;rcases Bool.eq_false_or_eq_true bs with hf|hf
          ·have y26:=d26 hf;have y4:ev (aB 88)=aA true:=d4.trans (gA.2 hf);refine yv (v:=aA ((!f||g12)||(g20&&NG))) ?_ (by show _=Cp _;rw[hf];simp);go_simp
          ·have y4:ev (aB 88)=aA false:=d4.trans (by rw[hf]);refine yv (v:=aA false) ?_ (by show _=Cp _;rw[hf];simp);go_simp
        case rfin=>
         intro a3 w3 hR;have hS:=hR.s;have YO:a3.tmps.getD 111 af=_:=hR.val 27 (by decide);have ha:=hR.lits 116 rfl;simp only[bf,bR,nL] at ha;rw[hR.kp 0 (by kernel_rfl),hR.kp 1 (by kernel_rfl),hR.kp 2 (by kernel_rfl),hR.kp 3 (by kernel_rfl),hR.kp 4 (by kernel_rfl),hR.kp 5 (by kernel_rfl),hR.kp 6 (by kernel_rfl),hR.kp 7 (by kernel_rfl),hR.kp 8 (by kernel_rfl),hR.kp 9 (by kernel_rfl),hR.kp 10 (by kernel_rfl),hR.kp 12 (by kernel_rfl),hR.kp 15 (by kernel_rfl),hR.kp 17 (by kernel_rfl),hR.kp 18 (by kernel_rfl),hR.kp 19 (by kernel_rfl),hR.kp 20 (by kernel_rfl),hR.kp 21 (by kernel_rfl),hR.kp 22 (by kernel_rfl),hR.kp 23 (by kernel_rfl),hR.kp 24 (by kernel_rfl),hR.kp 25 (by kernel_rfl),hR.kp 26 (by kernel_rfl),hR.kp 27 (by kernel_rfl),hR.kp 28 (by kernel_rfl),hR.kp 29 (by kernel_rfl),hR.kp 30 (by kernel_rfl),hR.kp 31 (by kernel_rfl),hR.kp 114 (by kernel_rfl),hR.kp 115 (by kernel_rfl)] at ha;simp only[kO,List.getD_cons_succ,List.getD_cons_zero] at ha;clear hR;rw[YO] at ha;generalize a3.tmps.getD=zz at ha;have pI:=ai hS;clear YO hS;subst ha;obtain⟨r,hr⟩:∃r,(bs&&((!f||g12)||(g20&&NG)))=r:=⟨_,rfl⟩
         rw[hr] at SI;rw[hr];clear hr;have aeT:=ai (HRL.out.below pI.out);have aeS:=ai (HRC.out.below pI.out);have HBf:=ai (w8.out.trans ((HQd.out.trans (pI.out.mono HQd.out.size)).mono hsz));cases r
         ·have hs:iZ b all (bK pl) lm (M+1)=(lc,f):=by rw[SI.out];rfl
          have HS:=ai hs;clear hs;go_wp2;go_roundw
          case rel=>
           refine⟨M+1,p4,c4,by omega,by simp,?_,?_,?_,HBf.out⟩
           ·rw[HS.out]
           ·rw[HS.out]
           ·rw[HS.out];exact aeT.out
          case measure=>simp[intOf];omega
         ·have hs:iZ b all (bK pl) lm (M+1)=(C.map fun(i:Nat)=>(i:Int),true):=by rw[SI.out];rfl
          have HS:=ai hs;clear hs;go_wp2;go_roundw
          case rel=>
           refine⟨M+1,p9,c9,by omega,by simp,?_,?_,?_,HBf.out⟩
           ·rw[HS.out]
           ·rw[HS.out];simp
           ·rw[HS.out];have:=aeS.out;simp only[iH] at this ⊢;exact this
          case measure=>simp[intOf];omega
   ·obtain rfl:N=M:=by omega
    have HN1:=ai eA;have HR1:=ai hr4;clear eA hr4;rw[YR.out] at HR1;go_wp2
    go_ret3
    exact⟨ae p4 (iZ b all (bK pl) lm N).1.length c4,by rw[←YR.out];rfl,by rw[←YR.out] at HR1 ⊢;exact HR1.out,EI.out.trans (HN1.out.mono EI.out.size)⟩
structure xd(w:ar)(os:List Obj)(w':ar):Prop where
 at_:∀i o,os[i]?=some o→w'.heap[w.heap.size+i]?=some o
 below:aC w.heap.size w w'
 size:w.heap.size+os.length≤w'.heap.size
theorem xd.nil(w:ar):xd w [] w:=⟨by simp,aw _ _,by simp⟩
theorem xd.alloc{w w':ar}{os:List Obj}(h:xd w os w')(hs:w'.heap.size=w.heap.size+os.length)(o:Obj):xd w (os++[o]) (w'.alloc o):=by
 refine⟨fun i p hi=>?_,h.below.alloc (by omega) o,by simp;omega⟩;rcases Nat.lt_trichotomy i os.length with h1|h1|h1
 ·rw[List.getElem?_append_left h1] at hi;exact(aX _ _ _ (by omega)).trans (h.at_ i p hi)
 ·subst h1;simp at hi;subst hi;rw[←hs];exact ax w' _
 ·rw[List.getElem?_eq_none (by simp;omega)] at hi;cases hi
theorem xd.next{w w1 w2:ar}{os:List Obj}(h:xd w os w1)(hb:aC w1.heap.size w1 w2):xd w os w2:=by
 have hs:=h.size;refine⟨fun i p hi=>(hb.block _ ?_).trans (h.at_ i p hi),h.below.trans (hb.mono (by omega)),Nat.le_trans hs hb.size⟩;have:=(List.getElem?_eq_some_iff.1 hi).1;omega
theorem Yh(w:ar)(A B C D:Obj):xd w [A,B,C,D] ((((w.alloc A).alloc B).alloc C).alloc D):=
 ((((xd.nil w).alloc (by simp) A).alloc (by simp) B).alloc (by simp) C).alloc (by simp) D
theorem Mu{zs:List Int}(h:zs≠[]):Lib.compact zs≠[]:=by
 intro hc;unfold Lib.compact Lib.compactUpTo at hc;have h1:=List.map_eq_nil_iff.1 hc;have h2:(0:Nat)∈(bf zs.length).filter (Lib.keeps zs.toArray):=List.mem_filter.2 ⟨List.mem_range.2 (cP.2 h),Lib.keeps_lt_one _ 0 (by omega)⟩;rw[h1] at h2;cases h2
theorem Yx(b:BB)(men sent marks:ak)(ml:List Mn)(ss:List Int)(ms:List Mk)(w:ar)(hL:Laid w)(hB:cK b men sent marks ml ss ms w)(hne:bn b ml ss ms≠[])(pl:List Int)(hp:fp b pl)(mi:Nat)(h1:1≤mi)(h2:(mi:Int)≤b.minutes)
  (lv:ak) (hl:Reads w lv pl.length (pl.map (aM ag))) :
  bp aq 60 #[aQ (b.cells men sent marks),lv,ah ag mi] w fun e w'=>∃x y r,ig (fun a=>b.BS (b.cu+a.used) (bK pl) mi) (bn b ml ss ms)=x::r∧(x::r).getLast?=some y∧e=aG (bM #[aQ #[ah ag x,ah ag y],ah ag 0])∧aC w.heap.size w w':=by
 have hlen:=jH ss ms hB.ok hB.iw;have kG:0<(bn b ml ss ms).length:=cP.2 hne;have cZ:=hB.ok;have hao:=n4 (ss:=ss) (ms:=ms) hB.ok hB.iw;obtain⟨pm,cm,rfl,_⟩:=aV hB.rm;obtain⟨pn,cn,rfl,_⟩:=aV hB.rs;obtain⟨pk,ck,rfl,_⟩:=aV hB.rk;obtain⟨qu,qC,rfl,_⟩:=aV hl;have ht:=Yh w (au (b.cells (ae pm ml.length cm) (ae pn ss.length cn) (ae pk ms.length ck)) 28) (au #[ae qu pl.length qC] 25) (au #[ah ag mi] 3) (au #[ah ag 0,ah ag 0] 23)
 have hop:=QN b (ae pm ml.length cm) (ae pn ss.length cn) (ae pk ms.length ck) ml ss ms _ (hL.below ht.below) (hB.below ht.below) hne (w.heap.size+1) (w.heap.size+2) (fun W hb=>by
  have hw:=hb
  exact Sz b cZ _ _ _ pl hp mi h1 h2 _ _ _ W ((hb.block (w.heap.size+1) (by simp)).trans (ht.at_ 1 _ rfl)) ((hb.block (w.heap.size+2) (by simp)).trans (ht.at_ 2 _ rfl)) ((hl.below ht.below).below hb))
 have HO:=ai hop;have HT:=ai ht;have HRl:=ai hl;have PN:=ai hao;clear hop ht hL hB hl hao;generalize hall:bn b ml ss ms=all at *;clear hall;generalize ml.length=lm at *;generalize ss.length=ln at *;generalize ms.length=lk at *;obtain⟨of,hof⟩:∃of:eV→Int,(fun a=>b.BS (b.cu+a.used) (bK pl) mi)=of:=⟨_,rfl⟩
 rw[hof];have HOf:=ai hof;clear hof
 go_enter Tryz.func60,Tryz.ntmps60
 go_wp2_with (first
  |(go_at_call 103;refine HO.out.mono ?_;clear HO;rintro e w1 ⟨v,rfl,jq,hb1⟩
    have rQ:=HT.out.next hb1
    obtain⟨gv,cv,rfl⟩:∃gv cv,v=ae (some ⟨gv,0,none⟩) all.length cv:=by
     rcases jq.1.2 with⟨_,h0⟩|⟨g,cap,cur,rfl,_⟩
     ·omega
     ·exact⟨g,cap,rfl⟩
    have o6:=ai rQ;have SJ:Hid (Reads (w1.alloc (au (b.open (ae pm lm cm) (ae pn ln cn) (ae pk lk ck) (ae (some ⟨gv,0,none⟩) all.length cv)) 122)) (ae (some ⟨gv,0,none⟩) all.length cv) all.length (rowOf all)):=ai ((jq.reads (by omega)).below ((aw _ _).alloc (ay _) _))
    have HNu:=ai (JF b (ae pm lm cm) (ae pn ln cn) (ae pk lk ck) all hne (by omega) of w1.heap.size (w.heap.size+1) (w.heap.size+2) _ _ SJ.out (fun a ha W hb=>by
     have q:=(o6.out.next ((aw _ _).alloc (ay _) (au (b.open (ae pm lm cm) (ae pn ln cn) (ae pk lk ck) (ae (some ⟨gv,0,none⟩) all.length cv)) 122))).next hb
     have q1:=(hb.block w1.heap.size (by simp)).trans (ax w1 _);rw[←HOf.out]
     exact Sy b cZ _ _ _ _ pl hp mi h1 h2 a (PN.out a ha) _ _ _ _ W q1 (q.at_ 1 _ rfl) (q.at_ 2 _ rfl) (HRl.out.below q.below)))
    clear rQ jq hb1)
  |(go_at_call 124;refine HNu.out.mono ?_;rintro e w2 ⟨gn,cgn,rfl,ho2,hb2⟩;have YQ:=ai ho2;have px:=ai hb2;clear ho2 hb2))
 have hq:=(o6.out.next ((aw _ _).alloc (ay _) (au (b.open (ae pm lm cm) (ae pn ln cn) (ae pk lk ck) (ae (some ⟨gv,0,none⟩) all.length cv)) 122))).next px.out
 have KY:ig of all≠[]:=by
  have h1:sorted (all.map of)≠[]:=by
   intro h;have h2:(sorted (all.map of)).length=(all.map of).length:=xe _;rw[h] at h2;simp at h2;exact hne (List.eq_nil_of_length_eq_zero h2.symm)
  exact Mu h1
 have hnl:(ig of all).length≤1000:=by
  have h1:=Lib.compact_length_le (sorted (all.map of));have h2:(sorted (all.map of)).length=all.length:=(xe _).trans (iH _);unfold ig;omega
 obtain⟨x,r,hxr⟩:∃x r,ig of all=x::r:=by
  cases h:ig of all with
  |nil=>exact(KY h).elim
  |cons x r=>exact⟨x,r,rfl⟩
 have hN:∃N,(ig of all).length=N:=⟨_,rfl⟩
 obtain⟨N,hN⟩:=hN;have hN1:1≤N:=by rw[←hN,hxr];simp
 obtain⟨y,hy⟩:∃y,(ig of all)[N-1]?=some y:=⟨_,lZ (by omega)⟩
 obtain⟨cur,hgb,Bv,hc0,hcl⟩:∃cur:Array ak,w2.heap[gn]?=some (au cur 3 (0,0))∧w1.heap.size+1≤gn∧cur[0]?=some (ah ag x)∧cur[N-1]?=some (ah ag y):=by
  rcases YQ.out.2 with⟨h0,_⟩|⟨g',cap',cur,h0,hb0,h1,h2,h3,h4,h5⟩
  ·cases h0
  ·cases h0;rw[Nat.mul_one,hN] at h5
   have hz:∀(j:Nat) (u:Int),(ig of all)[j]?=some u→cur[j]?=some (ah ag u):=fun j u hj=>by
    have h6:(cur.toList.take N)[j]?=some (aM ag u):=by rw[h5,List.getElem?_map,hj];rfl
    rw[List.getElem?_take] at h6;split at h6
    ·simpa using h6
    ·cases h6
   refine⟨cur,h1,by simpa using hb0,hz 0 x (by rw[hxr];rfl),hz _ _ hy⟩
 have acU:=o6.out.size;simp at acU;have hwr:IntKind.i64.wrap ((N:Int)-1)=((N-1:Nat):Int):=by rw[fT _ (by omega) (by omega)];omega
 have i1:((N-1:Nat):Int)<(N:Int):=by omega
 have i2:(0:Int)≤((N-1:Nat):Int):=by omega
 have i3:(0:Int)<(N:Int):=by omega
 have hgB:gn≠w.heap.size+1+1+1:=by omega
 have HXR:=ai hxr;have HY:=ai hy;have HNN:=ai hN;rw[hN];clear hxr hy KY hnl hN SJ HNu YQ HRl PN HT
 refine cj (by kernel_rfl) [
 pV (ae (some ⟨gn,0,none⟩) N cgn),
  pV (pv gn 0),
  pV (ah ag x),
  pV (ae (some ⟨gn,0,none⟩) N cgn),
  pV (ae (some ⟨gn,0,none⟩) N cgn),
  pV (ah ag N),
  pV (ah ag ((N-1:Nat):Int)),
  pV (pv gn (N-1)),
  pV (ah ag y),
  pV (aQ #[ah ag x,ah ag y]),
  fun v ds w9=>w9.heap[w.heap.size+1+1+1]?=some (au #[ah ag x,ah ag y] 23 (0,0)),
  pV (ah ag 0)]
  (fun w9=>w9.heap[gn]?=some (au cur 3 (0,0))∧(∃z1 z2,w9.heap[w.heap.size+1+1+1]?=some (au #[z1,z2] 23 (0,0)))∧aC w.heap.size w w9) [(10,ae (some ⟨gn,0,none⟩) N cgn),(6,pv (w.heap.size+1+1+1) 0)] (by kernel_rfl) ?rst (fun w1 w2 h hb=>⟨(hb.block _ (aj.1 h.1).1).trans h.1,h.2.1.imp fun z1 h1=>h1.imp fun z2 h2=>(hb.block _ (aj.1 h2).1).trans h2,h.2.2.trans (hb.mono h.2.2.size)⟩) (⟨hgb,⟨_,_,hq.at_ 3 _ rfl⟩,hq.below.drew⟩) ⟨rfl,rfl,trivial⟩ ?reach ?rfin
 case rst=>
  refine⟨sV,sV,sV,sV,sV,sV,sV,sV,sV,sV,?_,sV,trivial⟩
  ·rintro v ds w1 w2 hS h hb;exact(hb.block _ (aj.1 h).1).trans h
 case reach=>
  refine⟨?_,?_,?_,?_,?_,?_,?_,?_,?_,?_,?_,?_,trivial⟩<;>rintro ev w1 hS hc hg hf ⟨Sw,b6,-⟩ hd
  ·clear hd;refine yv ?_ rfl;go_simp
  ·have d0:ev (aB 24)=_:=hd.1 rfl;clear hd;refine yv ?_ rfl;go_simp;intro hx;exfalso;omega
  ·have d1:ev (aB 25)=_:=hd.1 rfl;clear hd;have z:=aH hS.1 0 _ hc0;refine yv ?_ rfl;go_simp
  ·clear hd;refine yv ?_ rfl;go_simp
  ·clear hd;refine yv ?_ rfl;go_simp
  ·have d4:ev (aB 28)=_:=hd.1 rfl;clear hd;refine yv ?_ rfl;go_simp
  ·have d5:ev (aB 29)=_:=hd.1 rfl;clear hd;refine yv ?_ rfl;go_simp
  ·have d3:ev (aB 27)=_:=hd.1 rfl;have d6:ev (aB 30)=_:=hd.2.1 rfl;clear hd;refine yv ?_ rfl;go_simp
  ·have d7:ev (aB 31)=_:=hd.1 rfl;clear hd;have z:=aH hS.1 _ _ hcl;refine yv ?_ rfl;go_simp
  ·have d2:ev (aB 26)=_:=hd.1 rfl;have d8:ev (aB 32)=_:=hd.2.1 rfl;clear hd;refine yv ?_ rfl;go_simp
  ·have d9:ev (aB 33)=_:=hd.1 rfl;clear hd;obtain⟨hg1,⟨z1,z2,hz⟩,uC⟩:=hS;have c0:=aH hz 0 _ rfl;have c1:=aH hz 1 _ rfl;have f0:=cI hz 0;have f1:=cI hz 1;refine Lag.Yields.skip (w':=(w1.setCell ⟨w.heap.size+1+1+1,0,none⟩ (ah ag x)).setCell ⟨w.heap.size+1+1+1,1,none⟩ (ah ag y)) ?_ ⟨bT _ (bT _ hz),.inr ⟨⟨(bu _ _ _ _ hgB).trans ((bu _ _ _ _ hgB).trans hg1),⟨_,_,bT _ (bT _ hz)⟩,(uC.setCell (p:=⟨_,0,none⟩) (by show _≤w.heap.size+1+1+1;omega) _).setCell (p:=⟨_,1,none⟩) (by show _≤w.heap.size+1+1+1;omega) _⟩,?_⟩⟩
   ·go_simp
   ·intro j u ds hj hp
    match j,hp with
    |0,hp=>exact hp
    |1,hp=>exact hp
    |2,hp=>exact hp
    |3,hp=>exact hp
    |4,hp=>exact hp
    |5,hp=>exact hp
    |6,hp=>exact hp
    |7,hp=>exact hp
    |8,hp=>exact hp
    |9,hp=>exact hp
    |10,_=>exact(hj rfl).elim
    |11,hp=>exact hp
    |j+12,_=>trivial
  ·clear hd;refine yv ?_ rfl;go_simp
 case rfin=>
  intro a2 w2 hR;have hS:=hR.s;have Io:w2.heap[w.heap.size+1+1+1]?=some (au #[ah ag x,ah ag y] 23 (0,0)):=hR.val 10 (by decide);have e11:a2.tmps.getD 7 af=_:=hR.val 11 (by decide);have k6:a2.tmps.getD 6 af=pv (w.heap.size+1+1+1) 0:=hR.kept (by kernel_rfl);have ha:=hR.lits 34 rfl;simp only[bf,bR,nL] at ha;clear hR;rw[e11,k6] at ha;clear e11;generalize a2.tmps.getD=zz at ha;have HE:=ai Io;have HF:=ai hS.2.2;clear Io hS k6;subst ha;go_wp2;refine bodyPost_ret (results_cell_tmp (g:=w.heap.size+1+1+1) rfl rfl (run_loadVar_row _ _ 23 23 _ (0,0) _ HE.out Tryz.underlying23 rfl (by kernel_rfl))) rfl ⟨x,y,r,HXR.out,?_,rfl,HF.out⟩;rw[←HXR.out,List.getLast?_eq_getElem?,HNN.out];exact HY.out
end Go.Proofs.YtffladgmkiimjaaGreatDoor
namespace Go.Proofs.YtffladgmkiimjaaGreatDoor
open Go.RowKit Go.Lag Go.Maps
theorem wfI{n:Int}(h0 : -9223372036854775808≤n)(h1:n≤9223372036854775807):(Lit.int .i64 n).wf=true:=by
 simp[Lit.wf,IntKind.min,IntKind.max,IntKind.signed,IntKind.bits];omega
def cnt(i:Nat)(l:List eV)(n:Int):Nat:=l.countP fun a=>a.get i==n
def uf(i:Nat)(all:List eV):Nat→Nat
 |0=>0
 |j+1=>max (uf i all j) (cnt i (all.take (j+1)) ((all.getD j ⟨0,0,0,0⟩).get i))
def ru(all:List eV):Nat→Int × Nat
 |0=>(-1,all.length)
 |i+1=>if uf i all all.length<(ru all i).2 then((i:Int),uf i all all.length) else ru all i
theorem zZ:Keyed aq 3:=int_keyed iJ
theorem Ct(w:ar):(zeroValue 3).run aq w=.ok (.int .i64 0) w:=by kernel_rfl
def xX(D:DataW Unit)(i:Nat)(l:List eV):Prop:=IsMap D∧∀n:Int,D.atKey (.int .i64 n) (.lit (.int .i64 0))=.lit (.int .i64 (cnt i l n))
theorem xX.nil(i:Nat):xX (.map []) i []:=⟨⟨_,rfl⟩,fun n=>rfl⟩
theorem xX.put{D:DataW Unit}{i:Nat}{l:List eV}(h:xX D i l)(a:eV):xX (D.put (.int .i64 (a.get i)) (.lit (.int .i64 ((cnt i l (a.get i):Int)+1)))) i (l++[a]):=by
 refine⟨h.1.put _ _,fun n=>?_⟩
 by_cases hn:a.get i=n
 ·subst hn;rw[atKey_put_same h.1 (by trivial)];simp[cnt,List.countP_append]
 ·rw[atKey_put_other (by simpa using fun e=>hn e.symm),h.2 n];simp[cnt,List.countP_append,hn]
theorem Jd(i:Nat)(all:List eV):∀j,j≤all.length→uf i all j≤j
 |0,_=>ay _
 |j+1,h=>by
  have h1:=Jd i all j (by omega);have h2:cnt i (all.take (j+1)) ((all.getD j ⟨0,0,0,0⟩).get i)≤(all.take (j+1)).length:=xg;simp only[List.length_take] at h2;unfold uf;omega
theorem KJ(all:List eV):∀i,(ru all i).2≤all.length
 |0=>ay _
 |i+1=>by
  have:=KJ all i;unfold ru;split<;>simp<;>omega
theorem Yv(b:BB)(men sent marks:ak)(ml:List Mn)(ss:List Int)(ms:List Mk)(w:ar)(hL:Laid w)(hB:cK b men sent marks ml ss ms w)(hne:bn b ml ss ms≠[]) :
  bp aq 53 #[.agg (b.cells men sent marks)] w fun e w'=>e=.returned (.tuple #[.int .i64 (ru (bn b ml ss ms) ml.length).1,.int .i64 (ru (bn b ml ss ms) ml.length).2,.int .i64 0])∧aC w.heap.size w w':=by
 have hlen:=jH ss ms hB.ok hB.iw;have kG:0<(bn b ml ss ms).length:=cP.2 hne;have cZ:=hB.ok;have hao:=n4 (ss:=ss) (ms:=ms) hB.ok hB.iw;have Ru:=hB.iw.len;obtain⟨pm,cm,rfl,_⟩:=aV hB.rm;obtain⟨pn,cn,rfl,_⟩:=aV hB.rs;obtain⟨pk,ck,rfl,_⟩:=aV hB.rk;have b1:aC w.heap.size w (w.alloc (.cells (b.cells (.slice pm ml.length cm) (.slice pn ss.length cn) (.slice pk ms.length ck)) 28)):=(aw _ _).alloc (ay _) _;have HX:=ai (ax w (.cells (b.cells (.slice pm ml.length cm) (.slice pn ss.length cn) (.slice pk ms.length ck)) 28));have HO:=ai (yy b _ _ _ ml ss ms _ (hL.below b1) (hB.below b1) hne (fun W' _=>Bl b _ _ _ W'));have yb:=ai b1;have PN:=ai hao;clear hL hB hne hao b1;generalize bn b ml ss ms=all at *;generalize ml.length=lm at *;generalize ss.length=ln at *;generalize ms.length=lk at *;have hmm:=@run_makeMap aq
 go_enter Tryz.func53,Tryz.ntmps53
 go_wp2_with (first
  |(refine wpList_load_row rfl 28 _ rfl _ rfl 28 _ (0,0) _ HX.out Tryz.underlying28 rfl (by kernel_rfl) ?_)
  |(refine wpList_store_row rfl 122 _ _ rfl _ _ rfl rfl 122 _ UR.out (by kernel_rfl) rfl (by simp[cy]) ?_)
  |(go_at_call 103;refine HO.out.mono ?_;clear HO;rintro e w1 ⟨v,rfl,jq,hb1⟩
    obtain⟨gv,cv,rfl⟩:∃gv cv,v=.slice (some ⟨gv,0,none⟩) all.length cv:=by
     rcases jq.1.2 with⟨_,h0⟩|⟨g,cap,cur,rfl,_⟩
     ·omega
     ·exact⟨g,cap,rfl⟩
    have KT:=ai jq;have px:=ai hb1;have UR:=ai (ax w1 (.cells iv 122))
    clear jq hb1))
 have hk2:((w1.alloc (.cells iv 122)).setRow w1.heap.size (b.open (.slice pm lm cm) (.slice pn ln cn) (.slice pk lk ck) (.slice (some ⟨gv,0,none⟩) all.length cv))).heap[w1.heap.size]?=some (.cells (b.open (.slice pm lm cm) (.slice pn ln cn) (.slice pk lk ck) (.slice (some ⟨gv,0,none⟩) all.length cv)) 122 (0,0)):=cM UR.out
 have uC:aC w.heap.size w ((w1.alloc (.cells iv 122)).setRow w1.heap.size (b.open (.slice pm lm cm) (.slice pn ln cn) (.slice pk lk ck) (.slice (some ⟨gv,0,none⟩) all.length cv))):=by
  have h1:=yb.out.trans (px.out.mono yb.out.size);exact dJ (h1.alloc h1.size _) h1.size
 have Bv:=(KT.out.1.lt gv rfl).2
 have WV:=KT.out.at_ (W':=((w1.alloc (.cells iv 122)).setRow w1.heap.size (b.open (.slice pm lm cm) (.slice pn ln cn) (.slice pk lk ck) (.slice (some ⟨gv,0,none⟩) all.length cv)))) fun g hg=>by
  have:g=gv:=by simpa [Value.ownBlock] using hg.symm
  subst this;exact(setRow_other (by omega)).trans (aX _ _ _ Bv)
 have kH:w.heap.size<w1.heap.size:=by have:=px.out.size;simp at this;omega
 have hx2:((w1.alloc (.cells iv 122)).setRow w1.heap.size (b.open (.slice pm lm cm) (.slice pn ln cn) (.slice pk lk ck) (.slice (some ⟨gv,0,none⟩) all.length cv))).heap[w.heap.size]?=some (.cells (b.cells (.slice pm lm cm) (.slice pn ln cn) (.slice pk lk ck)) 28 (0,0)):=by
  refine(setRow_other (by omega)).trans ((aX _ _ _ (by omega)).trans ((px.out.block _ ?_).trans HX.out));simp
 have mC:=WV.reads (by omega);generalize hWe:((w1.alloc (.cells iv 122)).setRow w1.heap.size (b.open (.slice pm lm cm) (.slice pn ln cn) (.slice pk lk ck) (.slice (some ⟨gv,0,none⟩) all.length cv)))=W2 at *;generalize w1.heap.size=k at *
 have HC:Hid (∀j u,(rowOf all)[j]?=some u→W2.cell? ⟨gv,0+j,none⟩=some u):=ai (by
  rcases mC with⟨h0,_⟩|⟨g,off,cap,h0,_,_,h1⟩
  ·cases h0
  ·cases h0;exact h1)
 have adD:=(WV.1.lt gv rfl).2;have y1:=aH hk2 15 _ rfl;have f1:=cI hk2 15;have FC:=ai hk2;have HX2:=ai hx2;have Ti:=ai uC;have HWe:=ai hWe;clear hWe mC WV KT yb px HX UR uC Bv hk2 hx2
 have FB:Hid (∀w9,aC W2.heap.size W2 w9→w9.cell? ⟨k,15,none⟩=some (.slice (some ⟨gv,0,none⟩) all.length cv)∧w9.heap[k]?=some (.cells (b.open (.slice pm lm cm) (.slice pn ln cn) (.slice pk lk ck) (.slice (some ⟨gv,0,none⟩) all.length cv)) 122 (0,0))∧w9.heap[w.heap.size]?=some (.cells (b.cells (.slice pm lm cm) (.slice pn ln cn) (.slice pk lk ck)) 28 (0,0))):=ai fun w9 Md=>by
  have h1:=(Md.block _ (aj.1 FC.out).1).trans FC.out;exact⟨aH h1 15 _ rfl,h1,(Md.block _ (aj.1 HX2.out).1).trans HX2.out⟩
 refine cj (by kernel_rfl) [
 pV (.pointer (some ⟨k,15,none⟩)),
  pV (.slice (some ⟨gv,0,none⟩) all.length cv),
  pV (.int .i64 all.length),
  pV (.int .i64 (-1)),
  pV (.int .i64 all.length)]
  (fun w9=>aC W2.heap.size W2 w9) [(1,pv w.heap.size 0),(5,pv k 0)] (by kernel_rfl) ?rst (fun w1 w2 h hb=>h.trans (hb.mono h.size)) (by have:=HWe.out;subst this;exact(aw _ _).drew) ⟨rfl,rfl,trivial⟩ ?reach ?rfin
 case rst=>
  refine⟨sV,sV,sV,sV,sV,trivial⟩
 case reach=>
  refine⟨?_,?_,?_,?_,?_,trivial⟩<;>rintro ev w1 hS hc hg hf ⟨b1,b5,-⟩ hd
  ·clear hd;refine yv ?_ rfl;go_simp
  ·have d0:ev (.tmp 19)=_:=hd.1 rfl;clear hd;obtain y1:=(FB.out w1 hS).1;refine yv ?_ rfl;go_simp
  ·have d1:ev (.tmp 20)=_:=hd.1 rfl;clear hd;refine yv ?_ rfl;go_simp
  ·clear hd;refine yv ?_ rfl;go_simp
  ·have d2:ev (.tmp 21)=_:=hd.1 rfl;clear hd;refine yv ?_ rfl;go_simp
 case rfin=>
  intro a2 w2 hR;have hS:=hR.s;have e3:a2.tmps.getD 2 af=_:=hR.val 3 (by decide);have e4:a2.tmps.getD 3 af=_:=hR.val 4 (by decide);have k1:a2.tmps.getD 1 af=pv w.heap.size 0:=hR.kept (by kernel_rfl);have k4:a2.tmps.getD 4 af=.int .i64 0:=hR.kept (by kernel_rfl);have k5:a2.tmps.getD 5 af=pv k 0:=hR.kept (by kernel_rfl);have ha:=hR.lits 60 rfl;simp only[bf,bR,nL] at ha;clear hR;rw[e3,e4,k1,k4,k5] at ha;generalize a2.tmps.getD=zz at ha;have px:=ai hS;clear e3 e4 k1 k4 k5 hS y1 f1;subst ha;obtain⟨y1,hk2,hx2⟩:=FB.out w2 px.out;have f1:=cI hk2 15;obtain⟨x0,x1,x2,x3,x4,x5,x6,x7,x8,x9,nG,nE,oh,nM,nQ⟩:=bQ hx2;have fx:=cI hx2 12;clear hk2 hx2;generalize hL:all.length=L at *;have HL:=ai hL;clear hL x0 x1 x2 x3 x4 x5 x6 x7 x8 x9 nG nE nM nQ;go_wp2
  go_loopw [2,3,6,7,8,10,25] (fun mn lf _ _ _ _ i wr=>∃m:Nat,m≤lm∧i=.int .i64 m∧mn=.int .i64 (ru all m).1∧lf=.int .i64 (ru all m).2∧aC w2.heap.size w2 wr) (fun _ _ _ _ _ _ i _=>lm-(intOf i).toNat)
  case atStart=>exact⟨0,by omega,rfl,rfl,by simp[ru,HL.out],aw _ _⟩
  case round=>
   obtain⟨m,hm,rfl,rfl,rfl,eA⟩:=hrel;rename ar=>wo;have hsz:=eA.size
   by_cases hlt:m<lm
   ·have GL:=(eA.cell (p:=⟨k,15,none⟩) (aj.1 (FB.out w2 px.out).2.1).1).trans y1;have w8:=ai eA
    have hkb:k<wo.heap.size:=by
     have:=(aj.1 (FB.out w2 px.out).2.1).1;omega
    have hgb:gv<wo.heap.size:=by have:=px.out.size;omega
    have fz:(wo.alloc (.map #[] 0)).frozen? ⟨k,15,none⟩=false:=by
     have:=(FB.out wo (px.out.trans (eA.mono px.out.size))).2.1;exact cI ((aX _ _ _ hkb).trans this) 15
    have HCr:Hid (∀W,aC (wo.heap.size) wo W→∀i u,(rowOf all)[i]?=some u→W.cell? ⟨gv,0+i,none⟩=some u):=ai fun W hW i u hi=>by
     have:=HC.out i u hi;have h2:=(px.out.trans ((eA.mono px.out.size).trans (hW.mono (by have:=px.out.size;omega)))).cell (p:=⟨gv,0+i,none⟩) adD;exact h2.trans this
    have HAs:Hid (ru all (m+1)=if uf m all all.length<(ru all m).2 then((m:Int),uf m all all.length) else ru all m):=ai rfl;have hal:=KJ all m;generalize ru all m=am at *;obtain⟨am,al⟩:=am;simp only[] at hal;clear eA;go_wp2
    go_loopw [8,10,32] (fun wst _ i wq=>∃j:Nat,j≤L∧i=.int .i64 j∧wst=.int .i64 (uf m all j)∧(∃D,xX D m (all.take j)∧wq.ownsMap aq 3 (plainElem (H:=Unit) aq 3) wo.heap.size j D)∧aC wo.heap.size wo wq) (fun _ _ i _=>L-(intOf i).toNat)
    case atStart=>exact⟨0,by omega,rfl,rfl,⟨_,xX.nil _,World.ownsMap_made _ _ _ _⟩,(aw _ _).alloc (ay _) _⟩
    case round=>
     obtain⟨j,hj,rfl,rfl,⟨D,hD,hown⟩,xY⟩:=hrel
     by_cases Ud:j<L
     ·have H9:j<all.length:=by rw[HL.out];exact Ud
      have WQ:=xY.size;have hql:=hown.lt;have hbq:=px.out.size;obtain⟨c0,c1,c2,c3⟩:=Reads.cell (w:=wr) (cap:=cv) (n:=L) (fun i u hi=>HCr.out wr xY i u hi) j H9;simp only[eo] at c0 c1 c2 c3;have hw1:uf m all (j+1)=max (uf m all j) (cnt m (all.take (j+1)) ((all.getD j ⟨0,0,0,0⟩).get m)):=rfl;have hwl:=Jd m all j (by omega);have hgd:all.getD j ⟨0,0,0,0⟩=all[j]:=by simp[List.getD,lZ H9]
      have tR:all.take (j+1)=all.take j++[all[j]]:=List.take_append_getElem H9 |>.symm
      have hcl:cnt m (all.take j) (all[j].get m)≤(all.take j).length:=xg
      have YH:cnt m (all.take (j+1)) (all[j].get m)=cnt m (all.take j) (all[j].get m)+1:=by
       show List.countP _ (all.take (j+1))=_;rw[tR,List.countP_append,List.countP_singleton];simp[cnt]
      have Tg:=hD.put all[j];rw[←tR] at Tg;have hDk:=hD.2 (all[j].get m);simp only[List.length_take] at hcl
      have hgo:0≤all[j].get m∧all[j].get m≤99:=by
       have:=PN.out _ (cz H9);unfold eV.get;split
       ·exact this.m0
       ·exact this.m1
       ·exact this.m2
      rw[hgd,YH] at hw1;have HCn:=ai YH;have RF:=ax wr (.cells all[j].cells 134)
      have hx:(wr.alloc (.cells all[j].cells 134)).cell? ⟨wr.heap.size,1+m,none⟩=some (.int .i64 (all[j].get m)):=by
       have h3:m<3:=by omega
       match m,h3 with
       |0,_=>exact aH RF 1 _ rfl
       |1,_=>exact aH RF 2 _ rfl
       |2,_=>exact aH RF 3 _ rfl
      have hoa:=hown.alloc (.cells all[j].cells 134);have HBa:=ai RF;have PK:=ai xY;have HDp:=ai Tg;have HDk:=ai hDk;have HW1:=ai hw1;clear hD hown tR hgd YH RF xY Tg hDk;generalize all[j]=a at *;generalize hcc:cnt m (all.take j) (a.get m)=cc at *;generalize hww:uf m all j=ww at *;have hkey:keyOf aq 3 (.int .i64 (a.get m))=some (.int .i64 (a.get m)):=keyOf_int_mk iJ (wfI (by omega) (by omega));have zz:IntKind.i64.wrap ((cc:Int)+1)=(cc:Int)+1:=by rw[IntKind.wrap_i64];omega
      have HNe:Hid (wr.heap.size≠wo.heap.size):=ai (by omega);rcases Int.lt_or_le (ww:Int) ((cc:Int)+1) with q1|q1
      ·go_wp2_with (first
        |(at_lookup;refine wpList_lookup_own_int _ rfl _ _ 146 rfl 3 3 .i64 zZ Tryz.underlying146 iJ (Ct _) wo.heap.size j _ rfl hoa _ _ rfl hkey ?_;intro c hat hwc
          obtain rfl:c=(cc:Int):=by rw[HDk.out] at hat;simpa using hat.symm)
        |(at_lookup;refine wpList_lookup_own_int _ rfl _ _ 146 rfl 3 3 .i64 zZ Tryz.underlying146 iJ (Ct _) wo.heap.size (j+1) _ rfl hown1 _ _ rfl hkey ?_;intro c hat hwc
          obtain rfl:c=(cc:Int)+1:=by have:=HDp.out.2 (a.get m);rw[HCn.out] at this;rw[this] at hat;simpa using hat.symm)
        |(at_mapUpdate;refine wpList_mapUpdate_own _ rfl _ _ _ 146 rfl 3 3 zZ Tryz.underlying146 _ wo.heap.size j _ rfl hoa (by unfold maxLen;omega) _ _ _ rfl rfl hkey _ [] (plainElem_int iJ (wfI (by omega) (by omega))) ?_;intro w1 hown1 DX
          have hx1:=(DX.cell hx (by simpa using HNe.out))
          clear hx)
        |go_in)
       go_roundw
       case rel=>
        refine⟨j+1,by omega,by simp,?_,⟨_,HDp.out,hown1⟩,(PK.out.alloc (by omega) _).grown DX (by simp;omega) (fun k hk=>by cases hk;exact ay _)⟩;exact congrArg (aM .i64) (by have:=HW1.out;omega)
       case measure=>simp[intOf];omega
      ·go_wp2_with (first
        |(at_lookup;refine wpList_lookup_own_int _ rfl _ _ 146 rfl 3 3 .i64 zZ Tryz.underlying146 iJ (Ct _) wo.heap.size j _ rfl hoa _ _ rfl hkey ?_;intro c hat hwc
          obtain rfl:c=(cc:Int):=by rw[HDk.out] at hat;simpa using hat.symm)
        |(at_lookup;refine wpList_lookup_own_int _ rfl _ _ 146 rfl 3 3 .i64 zZ Tryz.underlying146 iJ (Ct _) wo.heap.size (j+1) _ rfl hown1 _ _ rfl hkey ?_;intro c hat hwc
          obtain rfl:c=(cc:Int)+1:=by have:=HDp.out.2 (a.get m);rw[HCn.out] at this;rw[this] at hat;simpa using hat.symm)
        |(at_mapUpdate;refine wpList_mapUpdate_own _ rfl _ _ _ 146 rfl 3 3 zZ Tryz.underlying146 _ wo.heap.size j _ rfl hoa (by unfold maxLen;omega) _ _ _ rfl rfl hkey _ [] (plainElem_int iJ (wfI (by omega) (by omega))) ?_;intro w1 hown1 DX
          have hx1:=(DX.cell hx (by simpa using HNe.out))
          clear hx)
        |go_in)
       go_roundw
       case rel=>
        refine⟨j+1,by omega,by simp,?_,⟨_,HDp.out,hown1⟩,(PK.out.alloc (by omega) _).grown DX (by simp;omega) (fun k hk=>by cases hk;exact ay _)⟩;exact congrArg (aM .i64) (by have:=HW1.out;omega)
       case measure=>simp[intOf];omega
     ·obtain rfl:j=L:=by omega
      have PK:=ai xY;have HHm:=hmm;rw[HL.out] at HAs;clear hown xY hD;generalize uf m all j=ww at *
      by_cases h9:(ww:Int)<al
      ·go_wp2;go_roundw
       case rel=>
        refine⟨m+1,by omega,by simp,?_,?_,w8.out.trans (PK.out.mono hsz)⟩
        ·rw[HAs.out,if_pos (by omega)]
        ·rw[HAs.out,if_pos (by omega)]
       case measure=>simp[intOf];omega
      ·go_wp2;go_roundw
       case rel=>
        refine⟨m+1,by omega,by simp,?_,?_,w8.out.trans (PK.out.mono hsz)⟩
        ·rw[HAs.out,if_neg (by omega)]
        ·rw[HAs.out,if_neg (by omega)]
       case measure=>simp[intOf];omega
   ·obtain rfl:m=lm:=by omega
    have w8:=ai eA;clear eA;go_wp2
    go_ret3
    exact⟨rfl,Ti.out.trans ((px.out.trans (w8.out.mono px.out.size)).mono Ti.out.size)⟩
end Go.Proofs.YtffladgmkiimjaaGreatDoor
namespace Go.Proofs.YtffladgmkiimjaaGreatDoor
open Go.RowKit Go.Lag
open Go.Conc
theorem RY:ex.Ok:=⟨by decide,by decide,by decide,by decide,by decide,by decide,by decide,by decide,by decide,by decide⟩
theorem NA:wY j8:=by
 refine⟨fun m h=>?_,fun i k hi hk hik=>?_,by decide⟩
 ·simp only[j8,cC,List.not_mem_nil,or_false] at h;rcases h with rfl|rfl
  ·refine⟨⟨by decide,fun k h=>?_⟩,by decide⟩;have h3:k<3:=h
   match k,h3 with
   |0,_=>exact bI (show 97≤97∧97≤122 from by decide)
   |1,_=>exact bI (show 97≤110∧110≤122 from by decide)
   |2,_=>exact bI (show 97≤110∧110≤122 from by decide)
  ·refine⟨⟨by decide,fun k h=>?_⟩,by decide⟩;have h3:k<2:=h
   match k,h3 with
   |0,_=>exact bI (show 97≤98∧98≤122 from by decide)
   |1,_=>exact bI (show 97≤111∧111≤122 from by decide)
 ·have h2:k<2:=hk;obtain⟨rfl,rfl⟩:i=0∧k=1:=by omega
  show(⟨#[97,110,110]⟩:ByteArray)≠⟨#[98,111]⟩;decide
def rC:Mk:=⟨1,11,11⟩
def Ws:Mk:=⟨1,12,12⟩
theorem Wu:lu ex [rC]:=⟨by decide,by decide⟩
theorem TP:lu ex [rC,Ws]:=⟨by decide,by decide⟩
theorem NB:bn ex j8 [] []=[⟨0,3,4,0⟩,⟨0,4,4,0⟩,⟨1,3,4,0⟩,⟨1,4,4,0⟩]:=by decide+kernel
theorem Kq:bn ex j8 [] [rC]=[⟨0,4,4,0⟩,⟨1,3,4,0⟩,⟨1,4,4,0⟩]:=by decide+kernel
theorem Sb:bn (ex.lk 0 0) j8 [] [rC]=[⟨0,4,4,0⟩]:=by decide+kernel
theorem Ko:bn ex j8 [] []≠[]:=by rw[NB];simp
theorem RZ:bn ex j8 [] [rC]≠[]:=by rw[Kq];simp
theorem VB:bn (ex.lk 0 0) j8 [] [rC]≠[]:=by rw[Sb];simp
theorem Ha{b:BB}{pl:List Int}(h:(pl.all fun p=>decide (1≤p∧p≤b.minutes))=true)(ha:∀(k:Nat) (h:k+1<pl.length),pl[k]<pl[k+1])(hl:(pl.length:Int)≤b.ek):fp b pl:=
 ⟨fun p hp=>by have:=bL.1 h p hp;simpa using this,ha,hl⟩
theorem Lz:fp ex [1,3]:=Ha (by decide) (fun k h=>by have h2:k+1<2:=h;obtain rfl:k=0:=(by omega);simp) (by decide)
theorem Wb:fp ex [1,2]:=Ha (by decide) (fun k h=>by have h2:k+1<2:=h;obtain rfl:k=0:=(by omega);simp) (by decide)
theorem U4:fp ex [1]:=Ha (by decide) (fun k h=>by have h2:k+1<1:=h;omega) (by decide)
theorem QE(b:BB)(h:b.Ok):fp b []:=⟨by simp,fun k h=>by simp at h,by have:=h.ek;simpa using this.1⟩
theorem zQ{zs ys:List Int}(hp:zs.Perm ys)(hs:ys.Pairwise (·≤·)):sorted zs=ys:=by
 have h1:(sorted zs).Pairwise (fun a b=>(decide (a≤b))=true):=List.pairwise_mergeSort (fun a b c h1 h2=>by simp at *;omega) (fun a b=>by simp;omega) zs;exact List.Perm.eq_of_pairwise (le:=fun a b=>a≤b) (fun a b _ _ h1 h2=>by omega) (h1.imp fun h=>by simpa using h) hs ((List.mergeSort_perm zs _).trans hp)
theorem vD(lt:Nat→Nat→Bool)(p:Nat):∀(r:List Nat) (x:Nat),p∈x::r→(∀y∈x::r,(y==p||(lt p y && !lt y p))=true)→jM lt x r=p
 |[],x,hm,_=>(List.mem_singleton.1 hm).symm
 |y::r,x,hm,h=>by
  show jM lt (if lt y x=true then y else x) r=p;have hx:=h x (by simp);have hy:=h y (by simp);have hr:∀z∈r,(z==p||(lt p z && !lt z p))=true:=fun z hz=>h z (by simp[hz])
  by_cases e1:x=p
  ·subst e1
   have:(if lt y x=true then y else x)=x:=by
    by_cases hl:lt y x=true
    ·simp[hl] at hy;rw[if_pos hl];exact hy
    ·rw[if_neg hl]
   rw[this]
   exact vD lt x r x (by simp) fun z hz=>by
    rcases cC.1 hz with rfl|hz
    ·simp
    ·exact hr z hz
  ·by_cases e2:y=p
   ·subst e2
    have hx':lt y x=true:=by
     rw[Bool.or_eq_true,Bool.and_eq_true] at hx;rcases hx with hx|hx
     ·exact absurd (by simpa using hx) e1
     ·exact hx.1
    rw[if_pos hx']
    exact vD lt y r y (by simp) fun z hz=>by
     rcases cC.1 hz with rfl|hz
     ·simp
     ·exact hr z hz
   ·have hp:p∈r:=by
     rcases cC.1 hm with h1|h1
     ·exact absurd h1.symm e1
     ·rcases cC.1 h1 with h2|h2
      ·exact absurd h2.symm e2
      ·exact h2
    refine vD lt p r _ (by simp[hp]) fun z hz=>?_;rcases cC.1 hz with rfl|hz
    ·by_cases hl:lt y x=true
     ·rw[if_pos hl];exact hy
     ·rw[if_neg hl];exact hx
    ·exact hr z hz
theorem BA:kg ex (dw [] []).toNat (bK []) (bn ex j8 [] []) 512=[10,12,18,20]:=by decide+kernel
section
variable{w:ar}{m s k:ak}
theorem Uy(hL:Laid w)(hB:cK ex m s k j8 [] [] w):bp aq 33 #[aQ (ex.cells m s k)] w fun e w'=>e=aG (bM #[ah ag 60,ah ag 0])∧aC w.heap.size w w':=SH ex m s k j8 [] [] w hL hB
theorem aaU(hL:Laid w)(hB:cK ex m s k j8 [] [] w):bp aq 65 #[aQ (ex.cells m s k),ah ag 37] w fun e w'=>e=aG (bM #[ah ag 18,ah ag 0])∧aC w.heap.size w w':=Yt ex m s k j8 [] [] w hL hB 37 (by decide)
theorem jc{q:Nat}{l:List Int}{t:TypeId}(h:w.heap[q]?=some (au ((l.map (aM ag)).toArray) t (0,0)))(hl:l.length≤100):Reads w (ae (some ⟨q,0,none⟩) l.length l.length) l.length (l.map (aM ag)):=
 .inr ⟨q,0,l.length,rfl,by omega,(aj.1 h).1,fun j u hj=>by rw[eo];exact aH h j u (by simpa using hj)⟩
theorem XZ(hL:Laid w)(hB:cK ex m s k j8 [] [] w)(q q2:Nat)(h1:w.heap[q]?=some (au #[ah ag 3,ah ag 4] 3 (0,0)))(h2:w.heap[q2]?=some (au #[ah ag 1] 3 (0,0))) :
  bp aq 32 #[aQ (ex.cells m s k),aQ #[ah ag 0,ae (some ⟨q,0,none⟩) 2 2],ae (some ⟨q2,0,none⟩) 1 1] w fun e w'=>∃v,e=aG (bM #[v,ah ag 0])∧Reads w' v 5 ([44,38,29,20,11].map (aM ag))∧aC w.heap.size w w':=by
 have h:=UN ex m s k j8 [] [] w hL hB 0 (by decide) [3,4] (by decide) rfl q 0 2 (aj.1 h1).1 (by decide) (fun j u hj=>by rw[eo];exact aH h1 j u (by simpa using hj)) [1] U4 _ (jc (l:=[1]) h2 (by decide));have e:ex.m6 (ex.cu+(pH 0 [3,4]).used) (bK [1]) ex.minutes.toNat=[44,38,29,20,11]:=by decide+kernel
 rw[e] at h;exact h
theorem R9(hL:Laid w)(hB:cK ex m s k j8 [] [] w):bp aq 42 #[aQ (ex.cells m s k)] w fun e w'=>e=aG (bM #[ah ag 4,ah ag 0])∧aC w.heap.size w w':=by
 have h:=KX ex m s k j8 [] [] w hL hB;rw[NB] at h;exact h
theorem aaX(hL:Laid w)(hB:cK ex m s k j8 [] [] w)(q:Nat)(h1:w.heap[q]?=some (au #[ah ag 1,ah ag 3] 3 (0,0))) :
  bp aq 60 #[aQ (ex.cells m s k),ae (some ⟨q,0,none⟩) 2 2,ah ag 5] w fun e w'=>e=aG (bM #[aQ #[ah ag 21,ah ag 31],ah ag 0])∧aC w.heap.size w w':=by
 have h:=Yx ex m s k j8 [] [] w hL hB Ko [1,3] Lz 5 (by decide) (by decide) _ (jc (l:=[1,3]) h1 (by decide));refine h.mono ?_;rintro e w' ⟨x,y,r,hn,hy,rfl,hb⟩
 have e1:ig (fun a=>ex.BS (ex.cu+a.used) (bK [1,3]) 5) (bn ex j8 [] [])=[21,26,31]:=by
  unfold ig;rw[zQ (ys:=[21,26,26,31]) (by decide+kernel) (by decide)];decide+kernel
 rw[e1] at hn;cases hn;cases hy;exact⟨rfl,hb⟩
theorem X5(hL:Laid w)(hB:cK ex m s k j8 [] [] w)(q:Nat)(h1:w.heap[q]?=some (au #[ah ag 1,ah ag 3] 3 (0,0))) :
  bp aq 44 #[aQ (ex.cells m s k),ae (some ⟨q,0,none⟩) 2 2] w fun e w'=>e=aG (bM #[ah ag 1,ah ag 0])∧aC w.heap.size w w':=by
 have h:=IX ex m s k j8 [] [] w hL hB Ko [1,3] Lz _ (jc (l:=[1,3]) h1 (by decide));have e:jQ (qB ex (bn ex j8 [] []) (bK [1,3])) (bn ex j8 [] []).length=1:=by decide+kernel
 rw[e] at h;exact h
theorem Uz(hL:Laid w)(hB:cK ex m s k j8 [] [] w)(q:Nat)(h1:w.heap[q]?=some (au #[ah ag 1,ah ag 2] 3 (0,0))) :
  bp aq 44 #[aQ (ex.cells m s k),ae (some ⟨q,0,none⟩) 2 2] w fun e w'=>e=aG (bM #[ah ag 0,ah ag 0])∧aC w.heap.size w w':=by
 have h:=IX ex m s k j8 [] [] w hL hB Ko [1,2] Wb _ (jc (l:=[1,2]) h1 (by decide));have e:jQ (qB ex (bn ex j8 [] []) (bK [1,2])) (bn ex j8 [] []).length=0:=by decide+kernel
 rw[e] at h;exact h
theorem aaV(hL:Laid w)(hB:cK ex m s k j8 [] [] w) :
  bp aq 63 #[aQ (ex.cells m s k),ae none 0 0] w fun e w'=>e=aG (bM #[ah ag 2,aA true,ah ag 0])∧aC w.heap.size w w':=by
 have h:=Yu ex m s k j8 [] [] w hL hB Ko [] (QE _ RY) (ae none 0 0) (bI ⟨rfl,rfl,rfl⟩);have e:ux ex (bn ex j8 [] []) (bK [])=(2,true):=by decide+kernel
 rw[e] at h;exact h
theorem R7(hL:Laid w)(hB:cK ex m s k j8 [] [] w)(p1:Plain w m)(p2:Plain w s)(p3:Plain w k) :
  j6 aq 20 #[aQ (ex.cells m s k)] w fun v w'=>∃lv:ak,v=bM #[lv,aA true,ah ag 0]∧Reads w' lv 2 ([1,3].map (aM ag))∧Old w w':=by
 have h:=RV hL hB p1 p2 p3 Ko (by rw[BA];simp) (by rw[BA];decide) 10 (fun x r hp=>vD sk 10 r x (hp.mem_iff.2 (by rw[BA];decide)) fun y hy=>by
  have:=hp.mem_iff.1 hy;rw[BA] at this;have h2:([10,12,18,20].all fun y=>y==10||(sk 10 y && !sk y 10))=true:=by decide+kernel
  exact bL.1 h2 y this)
 have e:ia 10=[1,3]:=by decide+kernel
 unfold NK at h;rw[e] at h;exact h
theorem R3(hL:Laid w)(hB:cK ex m s k j8 [] [] w)(p1:Plain w m)(p2:Plain w s)(p3:Plain w k) :
  j6 aq 23 #[aQ (ex.cells m s k)] w fun v w'=>∃lv:ak,v=bM #[lv,aA true,ah ag 0]∧Reads w' lv 2 ([2,4].map (aM ag))∧Old w w':=by
 have h:=Q6 hL hB p1 p2 p3 Ko (by rw[BA];simp) (by rw[BA];decide) 20 (fun x r hp=>vD sj 20 r x (hp.mem_iff.2 (by rw[BA];decide)) fun y hy=>by
  have:=hp.mem_iff.1 hy;rw[BA] at this;have h2:([10,12,18,20].all fun y=>y==20||(sj 20 y && !sj y 20))=true:=by decide+kernel
  exact bL.1 h2 y this)
 have e:ia 20=[2,4]:=by decide+kernel
 unfold NK at h;rw[e] at h;exact h
theorem Pj(hL:Laid w)(hB:cK ex m s k j8 [] [] w)(q:Nat)(h1:w.heap[q]?=some (au #[ah ag 1,ah ag 3] 3 (0,0))) :
  bp aq 25 #[aQ (ex.cells m s k),ae (some ⟨q,0,none⟩) 2 2] w fun e w'=>e=aG (bM #[ah ag 44,aA true,ah ag 0])∧aC w.heap.size w w':=by
 have h:=EJ ex m s k j8 [] [] w hL hB Ko [1,3] Lz _ (jc (l:=[1,3]) h1 (by decide));have e:jn ex (bn ex j8 [] []) (bK [1,3]) 100=some 44:=by decide+kernel
 rw[e] at h;exact h
theorem X6(hL:Laid w)(hB:cK ex m s k j8 [] [] w)(q:Nat)(h1:w.heap[q]?=some (au #[ah ag 1] 3 (0,0))) :
  bp aq 27 #[aQ (ex.cells m s k),ae (some ⟨q,0,none⟩) 1 1] w fun e w'=>∃v,e=aG (bM #[v,aA true,ah ag 0])∧Reads w' v 1 ([0].map (aM ag))∧aC w.heap.size w w':=by
 have h:=UY ex m s k j8 [] [] w hL hB Ko [1] U4 _ (jc (l:=[1]) h1 (by decide));have e:iZ ex (bn ex j8 [] []) (bK [1]) j8.length (2 ^ j8.length)=([0],true):=by decide+kernel
 rw[e] at h;exact h
theorem X4(hL:Laid w)(hB:cK ex m s (ae none 0 0) j8 [] [] w) :
  bp aq 75 #[aQ (ex.cells m s (ae none 0 0)),aQ #[ah ag 1,ah ag 11,ah ag 11]] w fun e w'=>∃m' s' k',e=aG (bM #[aQ (ex.cells m' s' k'),ah ag 0])∧gg ex m' s' k' j8 [] [rC] w'∧aC w.heap.size w w':=UO ex m s j8 [] w hL hB rC Wu RZ
theorem Pk(hL:Laid w)(hB:cK ex m s k j8 [] [rC] w):bp aq 42 #[aQ (ex.cells m s k)] w fun e w'=>e=aG (bM #[ah ag 3,ah ag 0])∧aC w.heap.size w w':=by
 have h:=KX ex m s k j8 [] [rC] w hL hB;rw[Kq] at h;exact h
theorem Pm(hL:Laid w)(hB:cK ex m s k j8 [] [rC] w) :
  bp aq 58 #[aQ (ex.cells m s k),ah ag 0] w fun e w'=>∃v,e=aG (bM #[v,ah ag 0])∧Reads w' v 2 ([3,4].map (aM ag))∧aC w.heap.size w w':=by
 have h:=EN ex m s k j8 [] [rC] w hL hB RZ 0 (by decide)
 have e:ig (fun a=>a.get 0) (bn ex j8 [] [rC])=[3,4]:=by
  unfold ig;rw[zQ (ys:=[3,4,4]) (by decide+kernel) (by decide)];decide+kernel
 rw[e] at h;exact h
theorem aaW(hL:Laid w)(hB:cK ex m s k j8 [] [rC] w):bp aq 53 #[aQ (ex.cells m s k)] w fun e w'=>e=aG (bM #[ah ag 0,ah ag 2,ah ag 0])∧aC w.heap.size w w':=by
 have h:=Yv ex m s k j8 [] [rC] w hL hB RZ;have e:ru (bn ex j8 [] [rC]) j8.length=(0,2):=by decide+kernel
 rw[e] at h;exact h
theorem UB(hL:Laid w)(hB:cK ex m s k j8 [] [rC] w) :
  bp aq 80 #[aQ (ex.cells m s k),aQ #[ah ag 0,ah ag 0]] w fun e w'=>∃m' s' k',e=aG (bM #[aQ ((ex.lk 0 0).cells m' s' k'),ah ag 0])∧gg (ex.lk 0 0) m' s' k' j8 [] [rC] w'∧aC w.heap.size w w':=
 S2 ex m s k j8 [] [rC] w hL hB 0 0 (by decide) (by decide) (by decide) 0 0 (by decide) (by decide) (by decide) VB
theorem Mj(hL:Laid w)(hB:cK (ex.lk 0 0) m s k j8 [] [rC] w) :
  bp aq 58 #[aQ ((ex.lk 0 0).cells m s k),ah ag 0] w fun e w'=>∃v,e=aG (bM #[v,ah ag 0])∧Reads w' v 1 ([4].map (aM ag))∧aC w.heap.size w w':=by
 have h:=EN (ex.lk 0 0) m s k j8 [] [rC] w hL hB VB 0 (by decide)
 have e:ig (fun a=>a.get 0) (bn (ex.lk 0 0) j8 [] [rC])=[4]:=by
  unfold ig;rw[zQ (ys:=[4]) (by decide+kernel) (by decide)];decide+kernel
 rw[e] at h;exact h
theorem XY(hL:Laid w)(hB:cK ex m s k j8 [] [rC] w):bp aq 82 #[aQ (ex.cells m s k),ah ag 1] w fun e w'=>e=aG (bM #[aQ gK,ah ag 7])∧aC w.heap.size w w':=
 IQ ex m s k j8 [] [rC] w hL hB 1 (by decide) (by decide) (by decide+kernel)
theorem R1(hB:cK ex m s k j8 [] [rC] w) :
  bp aq 88 #[aQ (ex.cells m s k),aQ #[ah ag 1,ah ag 12,ah ag 12]] w fun e w'=>∃k',e=aG (aQ (ex.cells m s k'))∧cK ex m s k' j8 [] [rC,Ws] w'∧aC w.heap.size w w':=by
 obtain⟨p1,c1,e1,_⟩:=aV hB.rm;obtain⟨p2,c2,e2,_⟩:=aV hB.rs;refine(MP ex m s k ⟨⟨_,_,_,e1⟩,⟨_,_,_,e2⟩⟩ [rC] (by decide) Ws w hB.rk).mono ?_;rintro e w' ⟨k',rfl,h1,_,hb⟩;exact⟨k',rfl,⟨RY,NA,QE _ RY,TP,hB.rm.below hb,hB.rs.below hb,h1⟩,hb⟩
theorem UA(hL:Laid w)(hB:cK ex m s k j8 [] [rC,Ws] w) :
  bp aq 50 #[aQ (ex.cells m s k)] w fun e w'=>∃v,e=aG (bM #[v,ah ag 0])∧Reads w' v 2 ([0,1].map (aM ag))∧aC w.heap.size w w':=by
 have h:=S1 ex m s k j8 [] [rC,Ws] w hL hB;have e:qE ex j8 [] [rC,Ws]=[0,1]:=by decide+kernel
 rw[e] at h;exact h
end
structure Tj(m:ak)(w:ar):Prop where
 own:gg ex m (ae none 0 0) (ae none 0 0) j8 [] [] w
 pl:Plain w m
theorem Pg{w:ar}(h0:1≤w.heap.size):bp aq 93 #[] w fun e w'=>∃m,e=aG (aQ (ex.cells m (ae none 0 0) (ae none 0 0)))∧Tj m w'∧aC w.heap.size w w':=by
 refine(Km w).mono ?_;rintro e w' ⟨g,c,rfl,hr,hg,hge,hb⟩;refine⟨_,rfl,⟨⟨⟨RY,NA,QE _ RY,⟨by simp,by simp⟩,hr,bI ⟨rfl,rfl,rfl⟩,bI ⟨rfl,rfl,rfl⟩⟩,fun g' h'=>?_,fun g' h'=>(by cases h'),fun g' h'=>(by cases h')⟩,fun g' h'=>?_⟩,hb⟩
 ·obtain rfl:g=g':=bt h';exact⟨_,hg⟩
 ·obtain rfl:g=g':=bt h';refine⟨by omega,_,_,_,hg,fun u hu=>?_⟩;simp only[gu,j8,List.flatMap_cons,List.flatMap_nil,List.append_nil] at hu;simp at hu;rcases hu with rfl|rfl|rfl|rfl|rfl|rfl
  ·exact .inr ⟨_,rfl⟩
  ·exact bI ⟨_,_,rfl⟩
  ·exact bI ⟨_,_,rfl⟩
  ·exact .inr ⟨_,rfl⟩
  ·exact bI ⟨_,_,rfl⟩
end Go.Proofs.YtffladgmkiimjaaGreatDoor
