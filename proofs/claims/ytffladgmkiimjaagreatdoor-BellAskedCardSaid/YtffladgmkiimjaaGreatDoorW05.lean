/- LONE WALKS: handed (112). LONE WALKS: Play (32). LONE WALKS: open (103 .. -/
import Derived.Test.YtffladgmkiimjaaGreatDoorW02
import Derived.Laws.CopyRow
import Derived.Test.YtffladgmkiimjaaGreatDoorW01
import Derived.Test.YtffladgmkiimjaaGreatDoorW00
import Derived.Test.YtffladgmkiimjaaGreatDoorW03
set_option linter.all false
set_option maxHeartbeats 100000000
set_option maxRecDepth 1000000
open Array renaming replicate → aT,getElem?_eq_some_iff → ak
open Go renaming undef → af,Value → aj,World → ar,bodyPost_ret → bg,Calls → bm,wpList_store_row → fA,run_loadVar_row → j3,wpList_load_row → lO
open Go.Ending renaming returned → aF,returned → aJ
open Go.Exit renaming ret → dQ
open Go.IntKind renaming i64 → ag
open Go.Lib renaming hid → ai
open Go.Obj renaming cells → au
open Go.Operand renaming tmp → aK
open Go.Proofs.Tryz renaming prog → aq,underlying28 → cB,underlying122 → iH
open Go.RowKit renaming Below → az,Hid → ld
open Go.RowKit.Below renaming heap_alloc → aS,refl → aw,heap_setCell → bj
open Go.Value renaming int → aD,bool → aG,agg → aO,slice → ae,int → ah,tuple → cD,oneCell' → cj,ownBlock → iY
open Go.World renaming alloc_heap_new → ay,size_alloc → dU
open List renaming length_map → dI
open List.range renaming loop → bT
open Nat renaming le_trans → aN,le_refl → ax
namespace Go.Proofs.YtffladgmkiimjaaGreatDoor
open Go.RowKit Go.Lag
theorem aeI(n:Int)(h:0≤n∧n≤99)(w:ar):bm aq 167 #[ah ag n] w fun e w'=>e=aF (aG false)∧w=w':=by
 go_enter Tryz.func167,Tryz.ntmps167
 go_wp2_with (go_at_call 138;refine(iM _ _ _ (by omega) (by omega) _).mono ?_;rintro e w' ⟨rfl,rfl⟩)
 go_ret
 exact⟨rfl,rfl⟩
theorem Vv(xs:List Int)(LH:∀x∈xs,0≤x∧x≤99)(v:aj)(w:ar)(hv:Reads w v xs.length (xs.map (aD ag))) :
  bm aq 170 #[v,.func (.func 167) #[] #[]] w fun e w'=>e=aF (ah ag (-1))∧w=w':=by
 rcases hv with⟨rfl,hn,hx0⟩|⟨g,off,cap,rfl,hn,hg,hc⟩
 ·obtain rfl:xs=[]:=by simpa using hx0
  clear hx0 hn
  go_enter Tryz.func170,Tryz.ntmps170
  go_wp2
  go_loopw [8] (fun i wr=>i=ah ag 0∧wr=w) (fun _ _=>0)
  case atStart=>exact⟨rfl,rfl⟩
  case round=>
   obtain⟨rfl,rfl⟩:=hrel;go_wp2
   go_ret
   exact⟨rfl,rfl⟩
 ·have HC:=ai hc;clear hc;generalize hL:xs.length=L at *;have HL:=ai hL;clear hL
  go_enter Tryz.func170,Tryz.ntmps170
  go_wp2
  go_loopw [5,8] (fun _ i wr=>∃k:Nat,k≤L∧i=ah ag k∧wr=w) (fun _ i _=>L-(intOf i).toNat)
  case atStart=>exact⟨0,by omega,rfl,rfl⟩
  case round=>
   obtain⟨k,hk,rfl,rfl⟩:=hrel
   by_cases hlt:k<L
   ·have kh:k<xs.length:=by rw[HL.out];exact hlt
    have hcell:wr.cell? ⟨g,off+k,none⟩=some (ah ag xs[k]):=HC.out k _ (by simp[kh]);have hx:=LH xs[k] (List.getElem_mem kh);generalize xs[k]=x at *;clear LH
    go_wp2_with (go_at_call 167;refine(aeI x hx _).mono ?_;rintro e w2 ⟨rfl,rfl⟩)
    go_roundw
    case rel=>exact⟨k+1,by omega,by simp⟩
    case measure=>(simp[intOf];try omega)
   ·obtain rfl:k=L:=by omega
    clear LH;go_wp2
    go_ret
    exact⟨rfl,rfl⟩
theorem Nb(xs:List Int)(LH:∀x∈xs,0≤x∧x≤99)(v:aj)(w:ar)(hv:Reads w v xs.length (xs.map (aD ag))) :
  bm aq 166 #[v,.func (.func 167) #[] #[]] w fun e w'=>e=aF (aG false)∧w=w':=by
 have H:=ai (Vv xs LH v w hv);clear LH hv
 go_enter Tryz.func166,Tryz.ntmps166
 go_wp2_with (go_at_call 170;refine H.out.mono ?_;rintro e w2 ⟨rfl,rfl⟩)
 go_ret
 exact⟨rfl,rfl⟩
def o8(lk:Int)(br:List Int):eA:=⟨lk,br.getD 0 0,br.getD 1 0,br.getD 2 0⟩
theorem Lt(lk:Int):∀(br:List Int),br.length≤3→
  ((#[aD ag lk,ah ag 0,ah ag 0,ah ag 0]:Array aj).toList.take 1++br.map (aD ag)++(#[aD ag lk,ah ag 0,ah ag 0,ah ag 0]:Array aj).toList.drop (1+(br.map (aD ag)).length)).toArray=(o8 lk br).cells
 |[],_=>rfl
 |[_],_=>rfl
 |[_,_],_=>rfl
 |[_,_,_],_=>rfl
 |_::_::_::_::_,h=>by simp at h
theorem KD(b:BB)(men sent marks:aj)(ml:List Mn)(Xp:ml.length≤3)(lk:Int)(h0:0≤lk∧lk≤99)(br:List Int)(hbr:∀x∈br,0≤x∧x≤99)(hl:br.length=ml.length)(g off cap:Nat)(w:ar)(hm:Reads w men ml.length (fF ml))
  (hg:g<w.heap.size) (Kz:br.length≤cap) (hcc:∀j u,(br.map (aD ag))[j]?=some u→w.cell? ⟨g,off+j,none⟩=some u) :
  bm aq 112 #[aO (b.cells men sent marks),aO #[ah ag lk,ae (some ⟨g,off,none⟩) br.length cap]] w fun e w'=>e=aF (cD #[aO (o8 lk br).cells,ah ag 0])∧az w.heap.size w w':=by
 have hv:Reads w (ae (some ⟨g,off,none⟩) br.length cap) br.length (br.map (aD ag)):=.inr ⟨g,off,cap,rfl,⟨by omega,Kz⟩,hg,hcc⟩;have hb3:az w.heap.size w (((w.alloc (au (b.cells men sent marks) 119)).alloc (au #[ah ag lk,ae (some ⟨g,off,none⟩) br.length cap] 42)).alloc (au #[ah ag 0,ah ag 0,ah ag 0,ah ag 0] 134)):=(((aw _ w).alloc (ax _) _).alloc (by simp) _).alloc (by simp;omega) _;obtain⟨pm,cm,rfl,_⟩:=aR hm;have LC:=ai (Nb br hbr _ _ (hv.below hb3));have hb8:=((((aw _ w).alloc (ax _) (au (b.cells (ae pm ml.length cm) sent marks) 119)).alloc (by simp) (au #[ah ag lk,ae (some ⟨g,off,none⟩) br.length cap] 42)).alloc (by simp;omega) (au #[ah ag lk,ah ag 0,ah ag 0,ah ag 0] 134)).drew
 have hr8:((((w.alloc (au (b.cells (ae pm ml.length cm) sent marks) 119)).alloc (au #[ah ag lk,ae (some ⟨g,off,none⟩) br.length cap] 42)).alloc (au #[ah ag lk,ah ag 0,ah ag 0,ah ag 0] 134)).drew).heap[w.heap.size+1+1]?=some (au #[ah ag lk,ah ag 0,ah ag 0,ah ag 0] 134 (0,0)):=
  (od w (b.cells (ae pm ml.length cm) sent marks) #[ah ag lk,ae (some ⟨g,off,none⟩) br.length cap] #[ah ag lk,ah ag 0,ah ag 0,ah ag 0] 119 42 134).2.2
 have yf:=run_copy_row (P:=aq) _ 25 25 3 3 (w.heap.size+1+1) 1 3 3 ⟨g,off,none⟩ br.length cap _ 134 (br.map (aD ag)) Tryz.underlying25 (by kernel_rfl) hr8 (by rw[dI];exact(Nat.min_eq_left (by omega)).symm)
  (fun j u hj=>by
   have h1:=(hb8.cell (p:=⟨g,off+j,none⟩) hg).trans (hcc j u hj);have e:(⟨g,off,none⟩:Addr).add j=⟨g,off+j,none⟩:=by cases j<;>simp[Addr.add]
   rw[e];exact h1) (by simp;try omega) (by intro u hu;simp at hu;obtain⟨x,_,rfl⟩:=hu;rfl)
 rw[Lt lk br (by omega)] at yf;have HR:ld ((((((w.alloc (au (b.cells (ae pm ml.length cm) sent marks) 119)).alloc (au #[ah ag lk,ae (some ⟨g,off,none⟩) br.length cap] 42)).alloc (au #[ah ag lk,ah ag 0,ah ag 0,ah ag 0] 134)).drew).setRow (w.heap.size+1+1) (o8 lk br).cells).heap[w.heap.size+1+1]?=some (au (o8 lk br).cells 134 (0,0))):=ai (cV hr8);have HB:=ai hb8;have hbl:(br.map (aD ag)).length=br.length:=dI _;rw[hbl] at yf;clear hb3 hcc hv hm hr8 hb8 hbl hbr;rw[←hl] at *;generalize br.length=L at *;generalize o8 lk br=A at *;have z1:IntKind.i64.wrap (L:Int)=L:=eX _ (by omega) (by omega)
 go_enter Tryz.func112,Tryz.ntmps112
 go_wp2_with (first
  |(go_at_call 138;refine(iM _ _ _ (by omega) (by omega) _).mono ?_;rintro e w' ⟨rfl,rfl⟩)
  |(go_at_call 166;refine LC.out.mono ?_;rintro e w' ⟨rfl,rfl⟩))
 go_region
 all_goals
  go_wp2_with (first
   |(refine lO rfl 134 _ rfl _ rfl 134 _ (0,0) _ HR.out Tryz.underlying134 rfl (by kernel_rfl) ?_)
   |(refine fA rfl 134 _ _ rfl _ _ rfl rfl 134 _ HR.out (by kernel_rfl) rfl (by simp[cj]) ?_))
  refine bg (results_cell_tmp (g:=w.heap.size+1+1) rfl rfl (j3 _ _ 134 134 _ (0,0) _ (cV HR.out) Tryz.underlying134 rfl (by kernel_rfl))) rfl ⟨rfl,?_⟩;exact dv (dv HB.out (by omega)) (by omega)
theorem T3{lk:Int}(h0:0≤lk∧lk≤99):∀ {br:List Int},br.length≤3→(∀x∈br,0≤x∧x≤99)→(o8 lk br).Ok
 |[],_,_=>⟨⟨h0.1,by show lk≤400;omega⟩,by simp[o8],by simp[o8],by simp[o8]⟩
 |[a],_,h=>⟨⟨h0.1,by show lk≤400;omega⟩,h a (by simp),by simp[o8],by simp[o8]⟩
 |[a,c],_,h=>⟨⟨h0.1,by show lk≤400;omega⟩,h a (by simp),h c (by simp),by simp[o8]⟩
 |[a,c,d],_,h=>⟨⟨h0.1,by show lk≤400;omega⟩,h a (by simp),h c (by simp),h d (by simp)⟩
 |_::_::_::_::_,h,_=>by simp at h
theorem WD(b:BB)(men sent marks:aj)(ml:List Mn)(ss:List Int)(ms:List Mk)(w:ar)(hL:Laid w)(hB:cH b men sent marks ml ss ms w)(lk:Int)(h0:0≤lk∧lk≤99)(br:List Int)(hbr:∀x∈br,0≤x∧x≤99)(hl:br.length=ml.length)
  (g off cap:Nat) (hg:g<w.heap.size) (Kz:br.length≤cap) (hcc:∀j u,(br.map (aD ag))[j]?=some u→w.cell? ⟨g,off+j,none⟩=some u) (pl:List Int) (hp:js b pl) (lv:aj) (hlv:Reads w lv pl.length (pl.map (aD ag))) :
  bm aq 32 #[aO (b.cells men sent marks),aO #[ah ag lk,ae (some ⟨g,off,none⟩) br.length cap],lv] w fun e w'=>∃v,e=aF (cD #[v,ah ag 0])∧Reads w' v b.minutes.toNat ((b.mR (b.cM+(o8 lk br).used) (bG pl) b.minutes.toNat).map (aD ag))∧az w.heap.size w w':=by
 have cS:=hB.ok;have xq:=cS.minutes;have oW:∀s∈pl,1≤s∧s≤8:=fun s h=>by have:=hp.mem s h;omega
 have Qh:bG pl<512:=mS pl oW;have Xp:=hB.gV.len;have hao:=T3 h0 (by omega) hbr;obtain⟨pm,cm,rfl,_⟩:=aR hB.rm;obtain⟨pn,cn,rfl,_⟩:=aR hB.rs;obtain⟨pk,ck,rfl,_⟩:=aR hB.rk;obtain⟨pZ,qj,rfl,_⟩:=aR hlv;have b0:az w.heap.size w ((w.alloc (au (b.cells (ae pm ml.length cm) (ae pn ss.length cn) (ae pk ms.length ck)) 28)).alloc (au #[ah ag lk,ae (some ⟨g,off,none⟩) br.length cap] 42)):=((aw _ _).alloc (ax _) _).alloc (by simp) _;have HT:ld (Two w (b.cells (ae pm ml.length cm) (ae pn ss.length cn) (ae pk ms.length ck)) 28 #[ah ag lk,ae (some ⟨g,off,none⟩) br.length cap] 42 ((w.alloc (au (b.cells (ae pm ml.length cm) (ae pn ss.length cn) (ae pk ms.length ck)) 28)).alloc (au #[ah ag lk,ae (some ⟨g,off,none⟩) br.length cap] 42))):=ai ⟨(Two.mk' w _ _ _ _).one,(Two.mk' w _ _ _ _).two,b0,by simp⟩;have ug:=ai (eY b _ _ _ ml ss ms _ (hL.below b0) (hB.below b0))
 have HHd:ld (∀W,az w.heap.size w W→bm aq 112 #[aO (b.cells (ae pm ml.length cm) (ae pn ss.length cn) (ae pk ms.length ck)),aO #[ah ag lk,ae (some ⟨g,off,none⟩) br.length cap]] W fun e w'=>e=aF (cD #[aO (o8 lk br).cells,ah ag 0])∧az W.heap.size W w'):=ai fun W hb=>
  KD b _ _ _ ml Xp lk h0 br hbr hl g off cap W (hB.below hb).rm (Nat.lt_of_lt_of_le hg hb.size) Kz fun j u hj=>(hb.cell (p:=⟨g,off+j,none⟩) hg).trans (hcc j u hj)
 have XT:ld (∀W,az w.heap.size w W→bm aq 113 #[aO (b.cells (ae pm ml.length cm) (ae pn ss.length cn) (ae pk ms.length ck)),ae pZ pl.length qj] W fun e w'=>e=aF (ah ag 0)∧az W.heap.size W w'):=ai fun W hb=>sS b cS _ _ _ _ pl hp W (hlv.below hb);have HLv:=ai hlv;have WL:=ai oW;clear hL hB hlv oW hcc b0 hbr hp;generalize hA:o8 lk br=A at *;clear hA;generalize ml.length=lm at *;generalize ss.length=ln at *;generalize ms.length=lk2 at *;generalize br.length=lb at *;subst hl
 go_enter Tryz.func32,Tryz.ntmps32
 go_wp2_with (first
  |(go_at_call 71;refine ug.out.mono ?_;clear ug;rintro e w1 ⟨rfl,hb1⟩
    have rI:=HT.out.next hb1;have oL:=ai rI
    obtain⟨x0,x1,x2,x3,x4,x5,x6,x7,x8,x9,nS,nR,oO,n4,oK⟩:=bM rI.one;have zt:=(aS w1 (au (b.cells (ae pm lb cm) (ae pn ln cn) (ae pk lk2 ck)) 119) (w.heap.size+1) (by have:=rI.size;omega)).trans rI.two;have z0:=aH zt 0 _ rfl;have z1:=aH zt 1 _ rfl;clear zt
    clear rI hb1)
  |(go_at_call 112;refine(HHd.out _ (oL.out.below.alloc (by have:=oL.out.size;omega) _)).mono ?_;clear HHd;rintro e w2 ⟨rfl,hb2⟩
    have hk2:=(hb2.block w1.heap.size (by simp)).trans (ay w1 _);have FX:=ai hk2;have oX:ld (az w.heap.size w w2):=ai ((oL.out.below.alloc (by have:=oL.out.size;omega) _).trans (hb2.mono (by have:=oL.out.size;simp;omega)));obtain⟨y0,y1,y2,y3,y4,y5,y6,y7,y8,y9,LR,NS,NQ,NP,Js⟩:=bM ((aS w2 (au A.cells 134) _ (ak.1 hk2).1).trans hk2);have hs2:=hb2.size;simp only[dU] at hs2
    clear hk2 hb2)
  |(go_at_call 113;refine(XT.out _ (oX.out.alloc oX.out.size _)).mono ?_;clear XT;rintro e w3 ⟨rfl,hb3⟩
    have HK3:ld (w3.heap[w1.heap.size]?=some (au (b.cells (ae pm lb cm) (ae pn ln cn) (ae pk lk2 ck)) 119 (0,0))):=ai ((hb3.block _ (by simp;omega)).trans ((aS _ _ _ (by omega)).trans FX.out));have HA3:ld (w3.heap[w2.heap.size]?=some (au A.cells 134 (0,0))):=ai ((hb3.block _ (by simp)).trans (ay w2 _));have o9:ld (az w.heap.size w w3):=ai ((oX.out.alloc oX.out.size _).trans (hb3.mono (by have:=oX.out.size;simp;omega)))
    clear hb3))
 have hl3:=(ak.1 HK3.out).1;have Zm:=(ak.1 HA3.out).1
 refine bQ (by kernel_rfl) [
 pV (aO (b.cells (ae pm lb cm) (ae pn ln cn) (ae pk lk2 ck))),
  pV (aO A.cells),
  pV (ae pZ pl.length qj),
  pV (ah ag (bG pl)),
  fun v ds w9=>Reads w9 v b.minutes.toNat ((b.mR (b.cM+A.used) (bG pl) b.minutes.toNat).map (aD ag)),
  fun v ds w9=>Reads w9 v b.minutes.toNat ((b.mR (b.cM+A.used) (bG pl) b.minutes.toNat).map (aD ag)),
  pV (ah ag 0)]
  (fun w9=>az w3.heap.size w3 w9) [(2,ae pZ pl.length qj),(9,pv w1.heap.size 0),(10,pv w2.heap.size 0)] (by kernel_rfl) ?rst (fun w1 w2 h hb=>h.trans (hb.mono h.size)) ((aw _ _).drew) ⟨rfl,rfl,rfl,trivial⟩ ?reach ?rfin
 case rst=>
  refine⟨sV,sV,sV,sV,?_,?_,sV,trivial⟩
  ·rintro v ds w1 w2 hS h hb;exact h.below hb
  ·rintro v ds w1 w2 hS h hb;exact h.below hb
 case reach=>
  refine⟨?_,?_,?_,?_,?_,?_,?_,trivial⟩<;>rintro ev w1 hS hc hg hf ⟨b2,b9,T2,-⟩ hd
  ·clear hd;obtain⟨u0,u1,u2,u3,u4,u5,u6,u7,u8,u9,u10,u11,u12,u13,u14⟩:=bM ((hS.block _ hl3).trans HK3.out);exact tV
  ·clear hd;obtain⟨u0,u1,u2,u3⟩:=pQ ((hS.block _ Zm).trans HA3.out);exact tV
  ·clear hd;exact tV
  ·have d2:ev (aK 37)=_:=hd.1 rfl;clear hd;refine yq (args:=#[ae pZ pl.length qj]) (kV pl WL.out _ _ (HLv.out.below (o9.out.trans (hS.mono o9.out.size)))) ?_ fun _=>rfl;go_simp
  ·have d0:ev (aK 35)=_:=hd.1 rfl;have d1:ev (aK 36)=_:=hd.2.1 rfl;have d3:ev (aK 38)=_:=hd.2.2.1 rfl;clear hd;refine Lag.Yields.call (f:=114) (args:=#[aO (b.cells (ae pm lb cm) (ae pn ln cn) (ae pk lk2 ck)),aO A.cells,ah ag (bG pl)]) ?_ (Dv b cS _ _ _ A hao (bG pl) Qh _) ?_
   ·go_simp
   ·rintro e w2 ⟨v,rfl,h1,h2⟩;exact⟨_,rfl,Reads.iT h1 (by omega) (by simp[BB.mR]),.inl h2⟩
  ·exact yv rfl (hd.1 rfl)
  ·clear hd;exact tV
 case rfin=>
  intro a2 w4 hR;have hS:=hR.s;have e5:Reads w4 (a2.tmps.getD 6 af) b.minutes.toNat ((b.mR (b.cM+A.used) (bG pl) b.minutes.toNat).map (aD ag)):=hR.val 5 (by decide);have e6:a2.tmps.getD 7 af=_:=hR.val 6 (by decide);have ha:=hR.lits 40 rfl;simp only[List.range,bT,List.map] at ha;clear hR;have acB:=ha;rw[e6] at ha;generalize a2.tmps.getD 6 af=pv6 at *;generalize a2.tmps.getD=zz at ha;have HE:=ai e5;have HF:=ai hS;clear e5 e6 hS acB;subst ha;go_wp2;go_ret2;exact⟨_,rfl,HE.out,o9.out.trans (HF.out.mono o9.out.size)⟩
theorem R3(b:BB)(men sent marks:aj)(ml:List Mn)(ss:List Int)(ms:List Mk)(w:ar)(hL:Laid w)(hB:cH b men sent marks ml ss ms w)(hne:bn b ml ss ms≠[])(cp cq:Nat)
  (hown:∀W,az w.heap.size w W→bm aq 131 #[aO (b.cells men sent marks),pv cp 0,pv cq 0] W fun e W'=>e=aF (ah ag 0)∧az W.heap.size W W') :
  bm aq 103 #[aO (b.cells men sent marks),.func (.func 131) #[] #[pv cp 0,pv cq 0]] w fun e w'=>∃v,e=aF (cD #[aO (b.open men sent marks v),ah ag 0])∧gJ w' w.heap.size v (bn b ml ss ms)∧az w.heap.size w w':=by
 have ug:ld (∀W,az w.heap.size w W→bm aq 71 #[aO (b.cells men sent marks)] W fun e w'=>e=aF (ah ag 0)∧az W.heap.size W w'):=ai fun W hb=>eY b men sent marks ml ss ms W (hL.below hb) (hB.below hb);have Ul:ld (∀W,az w.heap.size w W→bm aq 116 #[.func (.func 117) #[aO (b.cells men sent marks)] #[]] W fun e w'=>∃v,e=aF v∧gJ w' W.heap.size v (bn b ml ss ms)∧az W.heap.size W w'):=ai fun W hb=>oC b men sent marks ml ss ms W (hB.below hb);have EY:=ai hown;obtain⟨pm,cm,rfl,_⟩:=aR hB.rm;obtain⟨pn,cn,rfl,_⟩:=aR hB.rs;obtain⟨pk,ck,rfl,_⟩:=aR hB.rk;have kg:0<(bn b ml ss ms).length:=List.length_pos_iff.2 hne;clear hL hB hne hown;generalize bn b ml ss ms=all at *;generalize ml.length=lm at *;generalize ss.length=ln at *;generalize ms.length=lk at *;have b0:az w.heap.size w ((w.alloc (au (b.cells (ae pm lm cm) (ae pn ln cn) (ae pk lk ck)) 28)).alloc (au gU 122)):=((aw _ _).alloc (ax _) _).alloc (by simp) _;have HT:ld (Two w (b.cells (ae pm lm cm) (ae pn ln cn) (ae pk lk ck)) 28 gU 122 ((w.alloc (au (b.cells (ae pm lm cm) (ae pn ln cn) (ae pk lk ck)) 28)).alloc (au gU 122))):=ai ⟨(Two.mk' w _ _ _ _).one,(Two.mk' w _ _ _ _).two,b0,by simp⟩;have Jq:=ai b0;clear b0
 go_enter Tryz.func103,Tryz.ntmps103
 go_wp2_with (first
  |(refine lO rfl 122 _ rfl _ rfl 122 _ (0,0) _ HL7.out iH rfl (by kernel_rfl) ?_)
  |(refine fA rfl 122 _ _ rfl _ _ rfl rfl 122 _ NK.out (by kernel_rfl) rfl (by simp[cj]) ?_)
  |(go_at_call 71;refine(ug.out _ Jq.out).mono ?_;clear ug;rintro e w1 ⟨rfl,hb1⟩
    have rI:=HT.out.next hb1;have oL:=ai rI
    obtain⟨x0,x1,x2,x3,x4,x5,x6,x7,x8,x9,nS,nR,oO,n4,oK⟩:=bM rI.one
    clear rI hb1)
  |(go_at_call 131;refine(EY.out _ (oL.out.below.alloc (by have:=oL.out.size;omega) _)).mono ?_;clear EY;rintro e w2 ⟨rfl,hb2⟩
    have Ce:=(oL.out.next ((aw _ _).alloc (ax _) (au (b.open (ae pm lm cm) (ae pn ln cn) (ae pk lk ck) (ae none 0 0)) 122))).next hb2;have FV:=ai Ce
    have hk2:=(hb2.block w1.heap.size (by simp)).trans (ay w1 _);have FX:=ai hk2;have hs1:=oL.out.size;have hs2:=hb2.size;obtain⟨y0,y1,y2,y3,y4,y5,y6,y7,y8,y9,LR,NS,NQ,NP,Js,G9⟩:=jo hk2
    clear Ce hk2 hb2)
  |(go_at_call 116;refine(Ul.out _ FV.out.below).mono ?_;clear Ul;rintro e w3 ⟨v,rfl,iU,hb3⟩
    have E6:=FV.out.next hb3;have O6:=ai E6;have LB:=ai iU
    simp only[dU] at hs2;have hk3:=(hb3.block w1.heap.size (by omega)).trans FX.out;have HK3:=ai hk3;have hs3:=hb3.size;clear y0 y1 y2 y3 y4 y5 y6 y7 y8 y9 LR NS NQ NP Js G9;have G9:=aH hk3 15 _ rfl;have f7:=cN hk3 15;have o9:=ai hb3
    obtain⟨gv,oF,rfl,D7⟩:∃gv oF,v=ae (some ⟨gv,0,none⟩) all.length oF∧w2.heap.size≤gv:=by
     rcases iU.1.2 with⟨_,h0⟩|⟨g,cap,cur,rfl,hg,_⟩
     ·omega
     ·exact⟨g,cap,rfl,hg⟩
    have HL7:ld ((w3.setCell ⟨w1.heap.size,15,none⟩ (ae (some ⟨gv,0,none⟩) all.length oF)).heap[w1.heap.size]?=some (au (b.open (ae pm lm cm) (ae pn ln cn) (ae pk lk ck) (ae (some ⟨gv,0,none⟩) all.length oF)) 122 (0,0))):=ai (cP _ hk3);have NK:ld ((w3.setCell ⟨w1.heap.size,15,none⟩ (ae (some ⟨gv,0,none⟩) all.length oF)).heap[w.heap.size+1]?=some (au gU 122 (0,0))):=ai ((bj _ _ _ _ (by show w.heap.size+1≠w1.heap.size;omega)).trans E6.two)
    clear E6 hk3 hb3 iU))
 refine bg (results_cell_tmp (g:=w.heap.size+1) rfl rfl (j3 _ _ 122 122 _ (0,0) _ (cV NK.out) iH rfl (by kernel_rfl))) rfl ⟨_,rfl,?_,?_⟩
 ·have hs1:=oL.out.size;refine(LB.out.at_ fun g hg=>?_).base (by omega);have D9:g=gv:=by simpa [iY] using hg.symm
  subst D9;exact(setRow_other (by omega)).trans (bj _ _ _ _ (by show g≠w1.heap.size;omega))
 ·have hs1:=oL.out.size;exact dv (O6.out.below.setCell (p:=⟨w1.heap.size,15,none⟩) (by show _≤w1.heap.size;omega) _) (by omega)
abbrev gT:Array Value:=#[ah ag 0,ah ag 0,ah ag 0,ah ag 0,ah ag 0,ah ag 0,ah ag 0,ah ag 0,ah ag 0,ah ag 0,ah ag 0,ah ag 0,ae none 0 0,ae none 0 0,ae none 0 0]
theorem G4(b:BB)(men sent marks:aj)(ml:List Mn)(ss:List Int)(ms:List Mk)(w:ar)(hL:Laid w)(hB:cH b men sent marks ml ss ms w)(hne:bn b ml ss ms≠[]) :
  bm aq 150 #[aO (b.cells men sent marks)] w fun e w'=>∃m' s' k',e=aF (cD #[aO (b.cells m' s' k'),ah ag 0])∧fq b m' s' k' ml ss ms w'∧rH w.heap.size m' s' k'∧az w.heap.size w w':=by
 obtain⟨pm,cm,rfl,_⟩:=aR hB.rm;obtain⟨pn,cn,rfl,_⟩:=aR hB.rs;obtain⟨pk,ck,rfl,_⟩:=aR hB.rk;have b0:az w.heap.size w ((w.alloc (au (b.cells (ae pm ml.length cm) (ae pn ss.length cn) (ae pk ms.length ck)) 28)).alloc (au gT 28)):=((aw _ _).alloc (ax _) _).alloc (by simp) _;have HT:ld (Two w (b.cells (ae pm ml.length cm) (ae pn ss.length cn) (ae pk ms.length ck)) 28 gT 28 ((w.alloc (au (b.cells (ae pm ml.length cm) (ae pn ss.length cn) (ae pk ms.length ck)) 28)).alloc (au gT 28))):=ai ⟨(Two.mk' w _ _ _ _).one,(Two.mk' w _ _ _ _).two,b0,by simp⟩;have ug:=ai (eY b _ _ _ ml ss ms _ (hL.below b0) (hB.below b0))
 have HSo:ld (∀W,az w.heap.size w W→bm aq 119 #[aO (b.cells (ae pm ml.length cm) (ae pn ss.length cn) (ae pk ms.length ck))] W fun e w'=>e=aF (aG true)∧az W.heap.size W w'):=ai fun W hb=>by
  have:=JH b _ _ _ ml ss ms W (hB.below hb);rw[decide_eq_true hne] at this;exact this
 have EY:ld (∀W,az w.heap.size w W→bm aq 157 #[aO (b.cells (ae pm ml.length cm) (ae pn ss.length cn) (ae pk ms.length ck))] W fun e w'=>∃m' s' k',e=aF (aO (b.cells m' s' k'))∧fq b m' s' k' ml ss ms w'∧rH W.heap.size m' s' k'∧az W.heap.size W w'):=ai fun W hb=>Vb b _ _ _ ml ss ms W (hB.below hb);have HML:=ai hB.gV;clear hL hB hne b0
 go_enter Tryz.func150,Tryz.ntmps150
 go_wp2_with (first
  |(refine fA rfl 28 _ _ rfl _ _ rfl rfl 28 _ HZ.out (by kernel_rfl) rfl (by simp[cj]) ?_)
  |(go_at_call 71;refine ug.out.mono ?_;clear ug;rintro e w1 ⟨rfl,hb1⟩
    have rI:=HT.out.next hb1;have oL:=ai rI
    obtain⟨x0,x1,x2,x3,x4,x5,x6,x7,x8,x9,nS,nR,oO,n4,oK⟩:=bM rI.one
    clear rI hb1)
  |(go_at_call 119;refine(HSo.out _ oL.out.below).mono ?_;clear HSo;rintro e w2 ⟨rfl,hb2⟩
    have Ce:=oL.out.next hb2;have FV:=ai Ce
    clear x0 x1 x2 x3 x4 x5 x6 x7 x8 x9 nS nR oO n4 oK;obtain⟨x0,x1,x2,x3,x4,x5,x6,x7,x8,x9,nS,nR,oO,n4,oK⟩:=bM Ce.one
    clear Ce hb2)
  |(go_at_call 157;refine(EY.out _ FV.out.below).mono ?_;clear EY;rintro e w3 ⟨m',s',k',rfl,OH,hf3,hb3⟩
    have O6:=ai (FV.out.next hb3);have HZ:=ai O6.out.two;obtain⟨p5,c5,rfl,_⟩:=aR OH.rm;obtain⟨p8,c8,rfl,_⟩:=aR OH.rs;obtain⟨Uv,c11,rfl,_⟩:=aR OH.rk;have o9:=ai OH;have Ui:ld (fq b (ae p5 ml.length c5) (ae p8 ss.length c8) (ae Uv ms.length c11) ml ss ms (w3.setRow (w.heap.size+1) (b.cells (ae p5 ml.length c5) (ae p8 ss.length c8) (ae Uv ms.length c11)))):=ai (OH.setRow hf3 (by have:=FV.out.size;omega));have HF3:=ai (hf3.base FV.out.below.size)
    clear OH hb3 hf3))
 refine bg (results_cell_tmp (g:=w.heap.size+1) rfl rfl (j3 _ _ 28 28 _ (0,0) _ (cV HZ.out) cB rfl (by kernel_rfl))) rfl ⟨_,_,_,rfl,Ui.out,HF3.out,dv O6.out.below (by omega)⟩
theorem yN(a1 a2 b1 b2 m1 m2:Int)(w:ar)(a:Act)(h4:a.tmps.getD 4 af=.pointer (some ⟨w.heap.size+1+1,0,none⟩))(h5:a.tmps.getD 5 af=aG (decide (m1≤m2)))(hd:a.defers=[]) :
  bodyPost aq Tryz.f153 (fun e w'=>e=aF (cD #[aO #[ah ag m1,ah ag m2],aG (decide (m1≤m2))])∧az w.heap.size w w') dQ a
   ((((w.alloc (au #[ah ag a1,ah ag a2] 23)).alloc (au #[ah ag b1,ah ag b2] 23)).alloc (au #[ah ag m1,ah ag m2] 23)).alloc (au #[ah ag m1,ah ag m2] 23)).drew:=by
 have b0:=(((((aw w.heap.size w).alloc (ax _) (au #[ah ag a1,ah ag a2] 23)).alloc (by simp) (au #[ah ag b1,ah ag b2] 23)).alloc (by simp;omega) (au #[ah ag m1,ah ag m2] 23)).alloc (by simp;omega) (au #[ah ag m1,ah ag m2] 23)).drew;have hk:=(od w #[ah ag a1,ah ag a2] #[ah ag b1,ah ag b2] #[ah ag m1,ah ag m2] 23 23 23).2.2;have hk2:=(aS _ (au #[ah ag m1,ah ag m2] 23) _ (ak.1 hk).1).trans hk;refine bg (results_cell_tmp (g:=w.heap.size+1+1) rfl h4 (j3 _ _ 23 23 _ (0,0) _ hk2 Tryz.underlying23 rfl (by kernel_rfl))) hd ⟨by rw[h5],b0⟩
theorem Sy(a1 a2 b1 b2:Int)(w:ar) :
  bm aq 153 #[aO #[ah ag a1,ah ag a2],aO #[ah ag b1,ah ag b2]] w fun e w'=>e=aF (cD #[aO #[ah ag (max a1 b1),ah ag (min a2 b2)],aG (decide (max a1 b1≤min a2 b2))])∧az w.heap.size w w':=by
 have key:∀(m1 m2:Int),max a1 b1=m1→min a2 b2=m2→bm aq 153 #[aO #[ah ag a1,ah ag a2],aO #[ah ag b1,ah ag b2]] w fun e w'=>e=aF (cD #[aO #[ah ag m1,ah ag m2],aG (decide (m1≤m2))])∧az w.heap.size w w':=by
  intro m1 m2 h1 h2
  go_enter Tryz.func153,Tryz.ntmps153
  rcases Int.lt_or_le a1 b1 with q1|q1<;>rcases Int.lt_or_le b2 a2 with q2|q2
  ·obtain rfl:m1=b1:=by omega
   obtain rfl:m2=b2:=by omega
   clear h1 h2;go_wp2
   go_region
   go_wp2;exact yN a1 a2 m1 m2 m1 m2 w _ rfl rfl rfl
  ·obtain rfl:m1=b1:=by omega
   obtain rfl:m2=a2:=by omega
   clear h1 h2;go_wp2
   go_region
   go_wp2;exact yN a1 m2 m1 b2 m1 m2 w _ rfl rfl rfl
  ·obtain rfl:m1=a1:=by omega
   obtain rfl:m2=b2:=by omega
   clear h1 h2;go_wp2
   go_region
   go_wp2;exact yN m1 a2 b1 m2 m1 m2 w _ rfl rfl rfl
  ·obtain rfl:m1=a1:=by omega
   obtain rfl:m2=a2:=by omega
   clear h1 h2;go_wp2
   go_region
   go_wp2;exact yN m1 m2 b1 b2 m1 m2 w _ rfl rfl rfl
 exact key _ _ rfl rfl
def BB.lk(b:BB)(l m:Int):BB:={ b with ll:=l,lm:=m }
theorem BB.abK{b:BB}(h:b.Ok){l m:Int}(h0:0≤l)(h1:l≤m)(h2:m≤99)(h3:m-l<3):(b.lk l m).Ok:=⟨h.room,h.depth,h.least,h.minutes,h.cM,h.km,h.eT,h.j9,⟨h0,h1,h2,h3⟩,h.Mm⟩
theorem cH.lk{b:BB}{men sent marks:aj}{ml:List Mn}{ss:List Int}{ms:List Mk}{w:ar}(h:cH b men sent marks ml ss ms w){l m:Int}(h0:0≤l)(h1:l≤m)(h2:m≤99)(h3:m-l<3):cH (b.lk l m) men sent marks ml ss ms w:=
 ⟨BB.abK h.ok h0 h1 h2 h3,h.gV,⟨h.l5.mem,h.l5.asc,h.l5.len⟩,⟨h.kG.mem,h.kG.len⟩,h.rm,h.rs,h.rk⟩
theorem Uu(b:BB)(men sent marks:aj)(ml:List Mn)(ss:List Int)(ms:List Mk)(w:ar)(hL:Laid w)(hB:cH b men sent marks ml ss ms w)(lo hi:Int)(h0:0≤lo)(h1:lo≤hi)(h2:hi≤99)(z1 z2:Int)(hz1:max b.ll lo=z1)(hz2:min b.lm hi=z2)(hz:z1≤z2)
  (hne:bn (b.lk z1 z2) ml ss ms≠[]) :
  bm aq 80 #[aO (b.cells men sent marks),aO #[ah ag lo,ah ag hi]] w fun e w'=>∃m' s' k',e=aF (cD #[aO ((b.lk z1 z2).cells m' s' k'),ah ag 0])∧fq (b.lk z1 z2) m' s' k' ml ss ms w'∧az w.heap.size w w':=by
 have hlk:=hB.ok.leak;obtain⟨pm,cm,rfl,_⟩:=aR hB.rm;obtain⟨pn,cn,rfl,_⟩:=aR hB.rs;obtain⟨pk,ck,rfl,_⟩:=aR hB.rk;have Tg:=od w (b.cells (ae pm ml.length cm) (ae pn ss.length cn) (ae pk ms.length ck)) #[ah ag lo,ah ag hi] gT 28 23 28;have b0:az w.heap.size w (((w.alloc (au (b.cells (ae pm ml.length cm) (ae pn ss.length cn) (ae pk ms.length ck)) 28)).alloc (au #[ah ag lo,ah ag hi] 23)).alloc (au gT 28)):=(((aw _ _).alloc (ax _) _).alloc (by simp) _).alloc (by simp;omega) _;have HT:ld (Two w (b.cells (ae pm ml.length cm) (ae pn ss.length cn) (ae pk ms.length ck)) 28 #[ah ag lo,ah ag hi] 23 (((w.alloc (au (b.cells (ae pm ml.length cm) (ae pn ss.length cn) (ae pk ms.length ck)) 28)).alloc (au #[ah ag lo,ah ag hi] 23)).alloc (au gT 28))):=ai ⟨Tg.1,Tg.2.1,b0,by simp⟩;have HZ0:=ai Tg.2.2;have ug:=ai (eY b _ _ _ ml ss ms _ (hL.below b0) (hB.below b0))
 have HAg:ld (∀W,az w.heap.size w W→bm aq 150 #[aO ((b.lk z1 z2).cells (ae pm ml.length cm) (ae pn ss.length cn) (ae pk ms.length ck))] W fun e w'=>∃m' s' k',e=aF (cD #[aO ((b.lk z1 z2).cells m' s' k'),ah ag 0])∧fq (b.lk z1 z2) m' s' k' ml ss ms w'∧rH W.heap.size m' s' k'∧az W.heap.size W w'):=ai fun W hb=>
  G4 (b.lk z1 z2) _ _ _ ml ss ms W (hL.below hb) ((hB.below hb).lk (by omega) hz (by omega) (by omega)) hne
 have hmt:=fun W=>Sy b.ll b.lm lo hi W;rw[hz1,hz2,decide_eq_true hz] at hmt;have HMt:=ai hmt;clear hL hB hne b0 Tg hmt hz1 hz2
 go_enter Tryz.func80,Tryz.ntmps80
 go_wp2_with (first
  |(refine lO rfl 28 _ rfl _ rfl 28 _ (0,0) _ HK4.out cB rfl (by kernel_rfl) ?_)
  |(refine fA rfl 28 _ _ rfl _ _ rfl rfl 28 _ HZ5.out (by kernel_rfl) rfl (by simp[cj]) ?_)
  |(go_at_call 71;refine ug.out.mono ?_;clear ug;rintro e w1 ⟨rfl,hb1⟩
    have rI:=HT.out.next hb1;have oL:=ai rI
    have WJ:=ai ((hb1.block (w.heap.size+2) (by simp)).trans HZ0.out);have y0:=aH rI.two 0 _ rfl;have y1:=aH rI.two 1 _ rfl
    clear rI hb1)
  |(go_at_call 152;refine(rU lo hi 0 99 _ h0 h1 h2).mono ?_;rintro e w2 ⟨rfl,hb2⟩
    have Ce:=oL.out.next hb2;have FV:=ai Ce
    have HZ2:=ai ((hb2.block _ (ak.1 WJ.out).1).trans WJ.out);have x8:=aH Ce.one 8 _ rfl;have x9:=aH Ce.one 9 _ rfl;have v0:=aH Ce.two 0 _ rfl;have v1:=aH Ce.two 1 _ rfl
    clear Ce hb2)
  |(go_at_call 153;refine(HMt.out _).mono ?_;rintro e w3 ⟨rfl,hb3⟩
    have E6:=FV.out.next hb3;have O6:=ai E6
    have HZ3:=ai ((hb3.block _ (ak.1 HZ2.out).1).trans HZ2.out);have hx3:=(aS w3 (au #[ah ag z1,ah ag z2] 23) _ (ak.1 E6.one).1).trans E6.one;have u8:=aH hx3 8 _ rfl;have u9:=aH hx3 9 _ rfl;have f8:=cN hx3 8;have f9:=cN hx3 9;have HK4:ld ((((w3.alloc (au #[ah ag z1,ah ag z2] 23)).setCell ⟨w.heap.size,8,none⟩ (ah ag z1)).setCell ⟨w.heap.size,9,none⟩ (ah ag z2)).heap[w.heap.size]?=some (au ((b.lk z1 z2).cells (ae pm ml.length cm) (ae pn ss.length cn) (ae pk ms.length ck)) 28 (0,0))):=ai (cP _ (cP _ hx3));have HB4:ld (az w.heap.size w (((w3.alloc (au #[ah ag z1,ah ag z2] 23)).setCell ⟨w.heap.size,8,none⟩ (ah ag z1)).setCell ⟨w.heap.size,9,none⟩ (ah ag z2))):=ai (((E6.below.alloc E6.below.size _).setCell (p:=⟨w.heap.size,8,none⟩) (ax _) _).setCell (p:=⟨w.heap.size,9,none⟩) (ax _) _);have NK:ld ((((w3.alloc (au #[ah ag z1,ah ag z2] 23)).setCell ⟨w.heap.size,8,none⟩ (ah ag z1)).setCell ⟨w.heap.size,9,none⟩ (ah ag z2)).heap[w.heap.size+2]?=some (au gT 28 (0,0))):=ai ((bj _ _ _ _ (by show w.heap.size+2≠w.heap.size;omega)).trans ((bj _ _ _ _ (by show w.heap.size+2≠w.heap.size;omega)).trans ((aS _ _ _ (ak.1 HZ3.out).1).trans HZ3.out)))
    clear E6 hb3 hx3)
  |(go_at_call 150;refine(HAg.out _ HB4.out).mono ?_;clear HAg;rintro e w5 ⟨m',s',k',rfl,Tp,hf5,hb5⟩
    have HZ5:=ai ((hb5.block _ (ak.1 NK.out).1).trans NK.out);obtain⟨p5,c5,rfl,_⟩:=aR Tp.rm;obtain⟨p8,c8,rfl,_⟩:=aR Tp.rs;obtain⟨Uv,c11,rfl,_⟩:=aR Tp.rk;have Ui:ld (fq (b.lk z1 z2) (ae p5 ml.length c5) (ae p8 ss.length c8) (ae Uv ms.length c11) ml ss ms (w5.setRow (w.heap.size+2) ((b.lk z1 z2).cells (ae p5 ml.length c5) (ae p8 ss.length c8) (ae Uv ms.length c11)))):=ai (Tp.setRow hf5 (ak.1 NK.out).1);have HB5:=ai (HB4.out.trans (hb5.mono HB4.out.size))
    clear Tp hb5 hf5))
 refine bg (results_cell_tmp (g:=w.heap.size+2) rfl rfl (j3 _ _ 28 28 _ (0,0) _ (cV HZ5.out) cB rfl (by kernel_rfl))) rfl ⟨_,_,_,rfl,Ui.out,dv HB5.out (by omega)⟩
theorem Ez(w:ar):bm aq 149 #[ae none 0 0] w fun e w'=>e=aF (ae none 0 0)∧w=w':=by
 have hq:∀w,(binOp BinOp.eql 26 (Value.slice none 0 0) (Value.slice none 0 0)).run aq w=.ok (aG true) w:=fun w=>by kernel_rfl
 go_enter Tryz.func149,Tryz.ntmps149
 go_wp2
 go_ret
 exact⟨rfl,rfl⟩
theorem AP(m:Mk)(w:ar)(k:Nat)(hk:w.heap[k]?=some (au m.cells 81 (0,0))):∃v' w',(Builtin.append_ #[26,26] 26 #[ae none 0 0,ae (some ⟨k,0,none⟩) 1 1]).run aq w=.ok v' w'∧w'.ownsRow w.heap.size 81 3 v' 1 (dm [m])∧az w.heap.size w w':=by
 obtain⟨i0,hi,hz0,hz1,hz2⟩:=info_parts DW
 obtain⟨v',w',hr,h2,h3,_⟩:=run_append_own (P:=aq) w w.heap.size 26 26 81 i0 (aO #[ah ag 0,ah ag 0,ah ag 0]) 3 24 Tryz.underlying26 hi hz0 hz1 hz2 rfl (by decide) (ae none 0 0) 0 [] (World.ownsRow_nil _ _ _ _) ⟨k,0,none⟩ 1 1 m.cells.toList rfl
  (fun j u hj=>by
   have h5:=aH hk j u (by simpa using hj);have e:(⟨k,0,none⟩:Addr).add j=⟨k,j,none⟩:=by cases j<;>simp[Addr.add]
   rw[e];exact h5) (by simp[cj]) (by unfold maxLen;omega) (by omega) (ax _)
 exact⟨v',w',hr,by simpa [dm] using h2,(aw _ _).grown h3 (ax _) fun j hj=>by simp[iY] at hj⟩
theorem WG(b:BB)(men sent:aj)(ml:List Mn)(ss:List Int)(w:ar)(hL:Laid w)(hB:cH b men sent (ae none 0 0) ml ss [] w)(m:Mk)(hm:jF b [m])(hne:bn b ml ss [m]≠[]) :
  bm aq 75 #[aO (b.cells men sent (ae none 0 0)),aO m.cells] w fun e w'=>∃m' s' k',e=aF (cD #[aO (b.cells m' s' k'),ah ag 0])∧fq b m' s' k' ml ss [m] w'∧az w.heap.size w w':=by
 obtain⟨pm,cm,rfl,_⟩:=aR hB.rm;obtain⟨pn,cn,rfl,_⟩:=aR hB.rs;have Tg:=od w (b.cells (ae pm ml.length cm) (ae pn ss.length cn) (ae none 0 0)) m.cells gT 28 81 28;have b0:az w.heap.size w (((w.alloc (au (b.cells (ae pm ml.length cm) (ae pn ss.length cn) (ae none 0 0)) 28)).alloc (au m.cells 81)).alloc (au gT 28)):=(((aw _ _).alloc (ax _) _).alloc (by simp) _).alloc (by simp;omega) _;have HT:ld (Two w (b.cells (ae pm ml.length cm) (ae pn ss.length cn) (ae none 0 0)) 28 m.cells 81 (((w.alloc (au (b.cells (ae pm ml.length cm) (ae pn ss.length cn) (ae none 0 0)) 28)).alloc (au m.cells 81)).alloc (au gT 28))):=ai ⟨Tg.1,Tg.2.1,b0,by simp⟩;have HZ0:=ai Tg.2.2;have ug:=ai (eY b _ _ _ ml ss [] _ (hL.below b0) (hB.below b0))
 have HAg:ld (∀W k,az w.heap.size w W→Reads W k 1 (dm [m])→bm aq 150 #[aO (b.cells (ae pm ml.length cm) (ae pn ss.length cn) k)] W fun e w'=>∃m' s' k',e=aF (cD #[aO (b.cells m' s' k'),ah ag 0])∧fq b m' s' k' ml ss [m] w'∧rH W.heap.size m' s' k'∧az W.heap.size W w'):=ai fun W k hb hr=>
  G4 b _ _ _ ml ss [m] W (hL.below hb) ⟨hB.ok,hB.gV,hB.l5,hm,hB.rm.below hb,hB.rs.below hb,hr⟩ hne
 clear hL hB hne b0 Tg hm
 go_enter Tryz.func75,Tryz.ntmps75
 go_wp2_with (first
  |(go_at_call 71;refine ug.out.mono ?_;clear ug;rintro e w1 ⟨rfl,hb1⟩
    have oL:=ai (HT.out.next hb1);have WJ:=ai ((hb1.block (w.heap.size+2) (by simp)).trans HZ0.out)
    clear hb1))
 refine Ph.bQ (by kernel_rfl) [
 pV (pv w.heap.size 14),
  pV (ae none 0 0),
  pV (ae none 0 0),
  pV (aO m.cells),
  fun v ds w9=>∃k,v=ae (some ⟨k,0,none⟩) 1 1∧w9.heap[k]?=some (au m.cells 81 (0,0)),
  fun v ds w9=>w9.ownsRow (w.heap.size+3) 81 3 v 1 (dm [m]),
  pV (pv w.heap.size 14),
  fun v ds w9=>∃x,ds[1]?=some x∧w9.heap[w.heap.size]?=some (au (b.cells (ae pm ml.length cm) (ae pn ss.length cn) x) 28 (0,0))]
  (fun L w9=>∃k0,w9.heap[w.heap.size]?=some (au (b.cells (ae pm ml.length cm) (ae pn ss.length cn) k0) 28 (0,0))∧(L 7=false→k0=ae none 0 0)∧w9.heap[w.heap.size+1]?=some (au m.cells 81 (0,0))∧w9.heap[w.heap.size+2]?=some (au gT 28 (0,0))∧az w.heap.size w w9∧w.heap.size+3≤w9.heap.size) [(2,pv w.heap.size 0),(3,pv (w.heap.size+1) 0)] (by kernel_rfl) ?rst (fun L L2 w1 w2 Ri h hb=>by
  obtain⟨k0,h1,h2,h3,h4,h5,h6⟩:=h
  exact⟨k0,(hb.block _ (ak.1 h1).1).trans h1,fun q=>h2 (Ri 7 q),(hb.block _ (ak.1 h3).1).trans h3,(hb.block _ (ak.1 h4).1).trans h4,h5.trans (hb.mono (by omega)),aN h6 hb.size⟩) (⟨_,oL.out.one,fun _=>rfl,oL.out.two,WJ.out,oL.out.below.drew,(ak.1 WJ.out).1⟩) ⟨rfl,rfl,trivial⟩ ?reach ?rfin
 case rst=>
  refine⟨Ph.sV,Ph.sV,Ph.sV,Ph.sV,?_,?_,Ph.sV,?_,trivial⟩
  ·rintro v ds L w1 w2 hS ⟨k,h1,h2⟩ hb;exact⟨k,h1,(hb.block _ (ak.1 h2).1).trans h2⟩
  ·rintro v ds L w1 w2 hS h hb;exact cy h hb
  ·rintro v ds L w1 w2 hS ⟨x,h1,h2⟩ hb;exact⟨x,h1,(hb.block _ (ak.1 h2).1).trans h2⟩
 case reach=>
  refine⟨?_,?_,?_,?_,?_,?_,?_,?_,trivial⟩<;>rintro Lf ev w1 hn uW hS hc hg hf ⟨b2,b3,-⟩ hd
  ·clear hd;refine Ph.yv ?_ rfl;go_simp
  ·have d0:ev (aK 13)=_:=hd.1 rfl;clear hd;obtain⟨k0,hb0,q1,_⟩:=hS;obtain rfl:=q1 (hn 7 (by kernel_rfl));have x:=aH hb0 14 _ rfl;refine Ph.yv ?_ rfl;go_simp
  ·have d1:ev (aK 14)=_:=hd.1 rfl;clear hd;refine Lag.Yields.call (f:=149) (args:=#[ae none 0 0]) ?_ (Ez w1) ?_
   ·go_simp
   ·rintro e w2 ⟨rfl,rfl⟩;exact⟨_,rfl,rfl,.inl (aw _ _)⟩
  ·clear hd;obtain⟨k0,hb0,q1,hm1,_⟩:=hS;have x0:=aH hm1 0 _ rfl;have x1:=aH hm1 1 _ rfl;have x2:=aH hm1 2 _ rfl;refine Ph.yv ?_ rfl;go_simp
  ·have d3:ev (aK 16)=_:=hd.1 rfl;clear hd;refine Lag.Yields.value (v:=ae (some ⟨w1.heap.size,0,none⟩) 1 1) (w':=w1.alloc (au m.cells 81)) ?_ ⟨⟨_,rfl,ay _ _⟩,.inl ((aw _ _).alloc (ax _) _)⟩;go_simp
  ·have d2:ev (aK 15)=_:=hd.1 rfl;obtain⟨k,e17,hk⟩:=hd.2.1 rfl;clear hd;replace e17:ev (aK 17)=_:=e17;obtain⟨v',w',hr,ho,hb⟩:=AP m w1 k hk;refine Lag.Yields.value (v:=v') (w':=w') ?_ ⟨ownsRow_base ho (by obtain⟨_,_,_,_,_,_,h⟩:=hS;exact h),.inl hb⟩;simp[execOp,resolve,invoke,builtin,d2,e17,hr,Result.andThen]
  ·clear hd;refine Ph.yv ?_ rfl;go_simp
  ·have d6:ev (aK 19)=_:=hd.1 rfl;have d5:w1.ownsRow (w.heap.size+3) 81 3 (ev (aK 18)) 1 (dm [m]):=hd.2.1 rfl;clear hd;obtain⟨p5,c5,Fa⟩:=dG d5;obtain⟨k0,hb0,q1,hm1,hz1,hbl,hsz⟩:=hS;have c1:=aH hb0 14 _ rfl;have f1:=cN hb0 14;refine Lag.Yields.skip (w':=w1.setCell ⟨w.heap.size,14,none⟩ (ev (aK 18))) ?_ ⟨⟨_,rfl,cP _ hb0⟩,.inr ⟨⟨_,cP _ hb0,(by intro h;simp[Ph.upd] at h),(bj _ _ _ _ (by show _≠w.heap.size;omega)).trans hm1,(bj _ _ _ _ (by show _≠w.heap.size;omega)).trans hz1,hbl.setCell (p:=⟨w.heap.size,14,none⟩) (ax _) _,by simpa using hsz⟩,?_⟩⟩
   ·rw[Fa];go_simp
   ·intro j u ds hj hL hp
    match j,hp with
    |0,hp=>exact hp
    |1,hp=>exact hp
    |2,hp=>exact hp
    |3,hp=>exact hp
    |4,⟨k,h1,h2⟩=>exact⟨k,h1,(bj _ _ _ _ (by rintro rfl;rw[hb0] at h2;simp at h2)).trans h2⟩
    |5,hp=>exact cY hp hb0 (by decide)
    |6,hp=>exact hp
    |7,_=>exact(hj rfl).elim
    |j+8,_=>trivial
 case rfin=>
  intro a2 w2 hR;have hS:=hR.s;have e5:w2.ownsRow (w.heap.size+3) 81 3 (a2.tmps.getD 18 af) 1 (dm [m]):=hR.val 5 (by decide);obtain⟨x,h18,mN⟩:=hR.val 7 (by decide);have k2:a2.tmps.getD 2 af=pv w.heap.size 0:=hR.kept (by kernel_rfl);have k4:a2.tmps.getD 4 af=.pointer (some ⟨w.heap.size+1+1,0,none⟩):=hR.kept (by kernel_rfl);have ha:=hR.lits 24 rfl;simp only[List.range,bT,List.map] at ha;clear hR;have Fa:a2.tmps.getD 18 af=x:=Option.some.inj h18;rw[Fa] at e5;rw[k2,k4] at ha;generalize a2.tmps.getD=zz at ha;obtain⟨p5,c5,rfl⟩:=dG e5;obtain⟨_,_,_,_,hz,hbl,hsz⟩:=hS;have HK:=ai mN;have HZ:=ai hz;have EZ:=ai hbl;have Ug:=ai (Reads.iT e5 (by omega) (by rfl));clear k2 k4 h18 Fa e5 mN hz hbl;subst ha
  go_wp2_with (first
   |(refine lO rfl 28 _ rfl _ rfl 28 _ (0,0) _ HK.out cB rfl (by kernel_rfl) ?_)
   |(refine fA rfl 28 _ _ rfl _ _ rfl rfl 28 _ HZ5.out (by kernel_rfl) rfl (by simp[cj]) ?_)
   |(go_at_call 150;refine(HAg.out _ _ EZ.out Ug.out).mono ?_;clear HAg;rintro e w5 ⟨m',s',k',rfl,Tp,hf5,hb5⟩
     have HZ5:=ai ((hb5.block _ (ak.1 HZ.out).1).trans HZ.out);obtain⟨p6,c6,rfl,_⟩:=aR Tp.rm;obtain⟨p8,c8,rfl,_⟩:=aR Tp.rs;obtain⟨Uv,c11,rfl,_⟩:=aR Tp.rk;have Ui:ld (fq b (ae p6 ml.length c6) (ae p8 ss.length c8) (ae Uv ([m]:List Mk).length c11) ml ss [m] (w5.setRow (w.heap.size+2) (b.cells (ae p6 ml.length c6) (ae p8 ss.length c8) (ae Uv ([m]:List Mk).length c11)))):=ai (Tp.setRow hf5 (ak.1 HZ.out).1);have HB5:=ai (EZ.out.trans (hb5.mono EZ.out.size))
     clear Tp hb5 hf5))
  refine bg (results_cell_tmp (g:=w.heap.size+2) rfl rfl (j3 _ _ 28 28 _ (0,0) _ (cV HZ5.out) cB rfl (by kernel_rfl))) rfl ⟨_,_,_,rfl,Ui.out,dv HB5.out (by omega)⟩
theorem Jf(b:BB)(men sent marks:aj)(ml:List Mn)(ss:List Int)(ms:List Mk)(w:ar)(hL:Laid w)(hB:cH b men sent marks ml ss ms w)(mi:Int)(h1:1≤mi)(h2:mi≤b.minutes)(h3:mi<dp ss ms) :
  bm aq 82 #[aO (b.cells men sent marks),ah ag mi] w fun e w'=>e=aF (cD #[aO gT,ah ag 7])∧az w.heap.size w w':=by
 have xq:=hB.ok.minutes;have oW:∀s∈ss,1≤s∧s≤8:=fun s h=>by have:=hB.l5.mem s h;omega
 have Kr:∀m∈ms,1≤m.minute∧m.minute≤8:=fun m h=>by have:=hB.kG.mem m h;omega
 obtain⟨pm,cm,rfl,_⟩:=aR hB.rm;obtain⟨pn,cn,rfl,_⟩:=aR hB.rs;obtain⟨pk,ck,rfl,_⟩:=aR hB.rk;have b0:az w.heap.size w ((w.alloc (au (b.cells (ae pm ml.length cm) (ae pn ss.length cn) (ae pk ms.length ck)) 28)).alloc (au gT 28)):=((aw _ _).alloc (ax _) _).alloc (by simp) _;have HT:ld (Two w (b.cells (ae pm ml.length cm) (ae pn ss.length cn) (ae pk ms.length ck)) 28 gT 28 ((w.alloc (au (b.cells (ae pm ml.length cm) (ae pn ss.length cn) (ae pk ms.length ck)) 28)).alloc (au gT 28))):=ai ⟨(Two.mk' w _ _ _ _).one,(Two.mk' w _ _ _ _).two,b0,by simp⟩;have ug:=ai (eY b _ _ _ ml ss ms _ (hL.below b0) (hB.below b0));have HBh:ld (∀W,az w.heap.size w W→bm aq 155 #[aO (b.cells (ae pm ml.length cm) (ae pn ss.length cn) (ae pk ms.length ck))] W fun e w'=>e=aF (ah ag (dp ss ms))∧az W.heap.size W w'):=ai fun W hb=>ES b _ _ _ ss ms oW Kr W (hB.below hb).rs (hB.below hb).rk;clear hL hB b0 oW Kr;generalize dp ss ms=bh at *;generalize ml.length=lm at *;generalize ss.length=ln at *;generalize ms.length=lk at *
 go_enter Tryz.func82,Tryz.ntmps82
 go_wp2_with (first
  |(refine fA rfl 28 _ _ rfl _ _ rfl rfl 28 _ HZ.out (by kernel_rfl) rfl (by simp[cj]) ?_)
  |(go_at_call 71;refine ug.out.mono ?_;clear ug;rintro e w1 ⟨rfl,hb1⟩
    have rI:=HT.out.next hb1;have oL:=ai rI
    obtain⟨x0,x1,x2,x3,x4,x5,x6,x7,x8,x9,nS,nR,oO,n4,oK⟩:=bM rI.one
    clear rI hb1)
  |(go_at_call 132;refine(mZ b _ _ _ mi h1 h2 _).mono ?_;rintro e w2 ⟨rfl,hb2⟩
    have FX:=ai ((hb2.block w1.heap.size (by simp)).trans (ay w1 _));have FV:=ai ((oL.out.next ((aw _ _).alloc (ax _) (au (b.cells (ae pm lm cm) (ae pn ln cn) (ae pk lk ck)) 119))).next hb2);clear x0 x1 x2 x3 x4 x5 x6 x7 x8 x9 nS nR oO n4 oK;obtain⟨x0,x1,x2,x3,x4,x5,x6,x7,x8,x9,nS,nR,oO,n4,oK⟩:=bM FX.out
    clear hb2)
  |(go_at_call 155;refine(HBh.out _ FV.out.below).mono ?_;clear HBh;rintro e w3 ⟨rfl,hb3⟩
    have O6:=ai (FV.out.next hb3);have HZ:=ai O6.out.two
    clear hb3))
 (try simp only[Exit.inBlock,Exit.then])
 exact bg (results_cell_tmp (g:=w.heap.size+1) rfl rfl (j3 _ _ 28 28 _ (0,0) _ (cV HZ.out) cB rfl (by kernel_rfl))) rfl ⟨rfl,dv O6.out.below (by omega)⟩
theorem M3(b:BB)(p1 p2 p3:Option Addr)(n1 c1 n2 c2 n3 c3:Nat)(hbig:20<n1∨20<n2∨20<n3)(w:ar):bm aq 18 #[aO (b.cells (ae p1 n1 c1) (ae p2 n2 c2) (ae p3 n3 c3))] w fun e w'=>e=aF (aG true)∧az w.heap.size w w':=by
 refine calls_of_wp Tryz.func18 rfl ?_;have hF:=ki (args:=#[aO (b.cells (ae p1 n1 c1) (ae p2 n2 c2) (ae p3 n3 c3))]) (n:=35) (by simp) [(0,aO (b.cells (ae p1 n1 c1) (ae p2 n2 c2) (ae p3 n3 c3)))] ⟨mO rfl,trivial⟩;rw[show Tryz.f18.ntmps=35 from rfl];generalize (⟨#[aO (b.cells (ae p1 n1 c1) (ae p2 n2 c2) (ae p3 n3 c3))]++aT (35-(#[aO (b.cells (ae p1 n1 c1) (ae p2 n2 c2) (ae p3 n3 c3))]:Array aj).size) af,[]⟩:Act)=a at *;refine(fun h:∀W,az w.heap.size w W→Code.wp aq _ _ a W=>h w (aw _ _)) ?_;intro W hw;refine TQ (N:=2) rfl ?_;refine Oj ⟨[],[],[],[]⟩ (some 1) (fun B=>pv B 0) (b.cells (ae p1 n1 c1) (ae p2 n2 c2) (ae p3 n3 c3)) 28 hF hF ?_;intro B1 W a G1 ho K1 hF;have agm:=aN hw.size G1;replace hw:=hw.tr ho;clear ho;rename ar=>W1;have h1:=aw W1.heap.size W1;refine qJ 1 1 0 ⟨[],[],[],[]⟩ [(2,aG false)] hF hF trivial trivial ?_;intro a W ho hF;replace h1:=h1.tr ho;clear ho;refine XD ?_;refine wp_seq ?_;refine jM ⟨[],[],[(B1,(b.cells (ae p1 n1 c1) (ae p2 n2 c2) (ae p3 n3 c3)))],[]⟩ [(19,aG (((decide ((n1:Int)>20))||(decide ((n2:Int)>20)))||(decide ((n3:Int)>20))))] hF hF ⟨fun w1 hS=>⟨_,_,aL K1 (h1.tr hS)⟩,trivial⟩ trivial ?_;intro a W ho hF;replace h1:=h1.tr ho;clear ho;refine wp_cond_split (t:=(((decide ((n1:Int)>20))||(decide ((n2:Int)>20)))||(decide ((n3:Int)>20)))) (hF.g 0 rfl) (fun ry=>?_) (fun ry=>?_)
 ·skip
  replace hF:=hF.tl;replace hF:=hF.tl;refine jM ⟨[],[],[],[]⟩ [(2,aG true)] hF hF trivial trivial ?_;intro a W ho hF;replace h1:=h1.tr ho;clear ho;refine wp_ret ?_;show bodyPost aq Tryz.f18 (fun e w'=>e=aF (aG true)∧az w.heap.size w w') dQ a W;exact bg (results_tmp rfl _ _ _) hF.defers ⟨congrArg aJ (hF.g 0 rfl),(hw.tr h1)⟩
 ·skip
  replace hF:=hF.tl;exfalso;simp at ry;omega
theorem Tz(b:BB)(p1 p2 p3:Option Addr)(n1 c1 n2 c2 n3 c3:Nat)(hbig:20<n1∨20<n2∨20<n3)(w:ar):bm aq 29 #[aO (b.cells (ae p1 n1 c1) (ae p2 n2 c2) (ae p3 n3 c3))] w fun e w'=>e=aF (aG false)∧az w.heap.size w w':=by
 refine calls_of_wp Tryz.func29 rfl ?_;have hF:=ki (args:=#[aO (b.cells (ae p1 n1 c1) (ae p2 n2 c2) (ae p3 n3 c3))]) (n:=11) (by simp) [(0,aO (b.cells (ae p1 n1 c1) (ae p2 n2 c2) (ae p3 n3 c3)))] ⟨mO rfl,trivial⟩;rw[show Tryz.f29.ntmps=11 from rfl];generalize (⟨#[aO (b.cells (ae p1 n1 c1) (ae p2 n2 c2) (ae p3 n3 c3))]++aT (11-(#[aO (b.cells (ae p1 n1 c1) (ae p2 n2 c2) (ae p3 n3 c3))]:Array aj).size) af,[]⟩:Act)=a at *;refine(fun h:∀W,az w.heap.size w W→Code.wp aq _ _ a W=>h w (aw _ _)) ?_;intro W hw;refine TQ (N:=2) rfl ?_;refine Oj ⟨[],[],[],[]⟩ (some 1) (fun B=>pv B 0) (b.cells (ae p1 n1 c1) (ae p2 n2 c2) (ae p3 n3 c3)) 28 hF hF ?_;intro B1 W a G1 ho K1 hF;have agm:=aN hw.size G1;replace hw:=hw.tr ho;clear ho;rename ar=>W1;have h1:=aw W1.heap.size W1;refine qJ 1 1 0 ⟨[],[],[],[]⟩ [(2,aG false)] hF hF trivial trivial ?_;intro a W ho hF;replace h1:=h1.tr ho;clear ho;refine XD ?_;replace hF:=hF.tl;refine jM ⟨[(6,false)],[(1,aG true)],[(B1,(b.cells (ae p1 n1 c1) (ae p2 n2 c2) (ae p3 n3 c3)))],[]⟩ [(2,aG false)] hF hF ⟨fun w1 hS=>⟨_,_,aL K1 (h1.tr hS)⟩,trivial⟩ ⟨fun w1 hS _=>gc (M3 b p1 p2 p3 n1 c1 n2 c2 n3 c3 hbig w1),trivial⟩ ?_;intro a W ho hF;replace h1:=h1.tr ho;clear ho;refine wp_ret ?_;show bodyPost aq Tryz.f29 (fun e w'=>e=aF (aG false)∧az w.heap.size w w') dQ a W;exact bg (results_tmp rfl _ _ _) hF.defers ⟨congrArg aJ (hF.g 0 rfl),(hw.tr h1)⟩
end Go.Proofs.YtffladgmkiimjaaGreatDoor
