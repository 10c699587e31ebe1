/- LONE WALKS: are the marks right. LONE WALKS: marked. A RANGE OVER AN I .. -/
import Derived.Test.YtffladgmkiimjaaGreatDoorW00
import Derived.Test.YtffladgmkiimjaaGreatDoorW01
import Derived.RangeFuncNested
import Derived.RangeFuncBound
import Derived.RangeFuncCalls
import Derived.RangeFuncLeaves
import Derived.Shelf.RegionOpen
import Derived.OwnWalkIn
import Derived.TacticsInMore
import Derived.LoopNIn
import Derived.LoopIn
import Derived.Maps.OwnIn
import Derived.Maps.AppendAt
import Derived.RangeFuncBox
set_option linter.all false
set_option maxHeartbeats 100000000
set_option maxRecDepth 1000000
open Array renaming getElem_modify → A6,getElem?_eq_some_iff → ak,replicate_zero → jV,replicate_succ → jW
open Go renaming callsIn_wide → AY,Program → aI,TypeId → aX,undef → af,Value → aj,World → ar,bodyPost_ret → bg,Calls → bm,Addr → cU,maxLen → jB,info_parts → jT,wpList_append_own → ju,bytes → rJ
open Go.Addr renaming add → lG
open Go.Builtin renaming zeroCells → fE
open Go.Ending renaming returned → aF
open Go.IntKind renaming i64 → ag
open Go.Lib renaming hid → ai
open Go.Obj renaming cells → au
open Go.Operand renaming tmp → aK
open Go.Proofs.Tryz renaming prog → aq,underlying28 → cB,underlying122 → iH
open Go.RowKit renaming Below → az
open Go.RowKit.Below renaming heap_alloc → aS,refl → aw,heap_setCell → bj
open Go.Value renaming int → aD,bool → aG,agg → aO,slice → ae,int → ah,pointer → bp,oneCell' → cj,ownBlock → iY,slice → mr
open Go.World renaming alloc_heap_new → ay,cell? → dC,ownsRow_nil → dM,size_alloc → dU,cell?_alloc_lt → dY,putObj_heap_other → di,setCell → j4
open List renaming range → aU,eq_nil_of_length_eq_zero → aY,mem_append → bH,mem_cons_of_mem → bI,take_succ_eq_append_getElem → bN,take_of_length_le → cQ,getElem_mem → cu,mem_of_mem_take → fj,append_toArray → gY,cons_append → ie,nil_append → j5,length_cons → je,size_toArray → jv,push_toArray → jw,length_nil → nY,length_append → pz
open Nat renaming reduceSub → Ct,reduceAdd → Cu,le_trans → aN,le_refl → ax,lt_of_lt_of_le → bz
open Option.some renaming inj → bf
open Or renaming inl → cA
namespace Go.Proofs.YtffladgmkiimjaaGreatDoor
open Go.RowKit Go.Lag
theorem Sz{w:ar}{B C g off L cap j:Nat}{n lo hi:Int}{b:BB}{men sent marks:aj}(h:w.heap[B]?=some (au (b.cells men sent marks) 119 (0,0)))(hC:w.cell? ⟨C,0,none⟩=some (ae (some ⟨g,off,none⟩) L cap))(Qt:C<w.heap.size)(hg:g<w.heap.size)(hn:w.cell? ⟨g,off+j,none⟩=some (ah ag n)){w':ar}(hb:az (w.heap.size+1) (w.alloc (au #[ah ag ((j:Int)+1),ah ag lo,ah ag hi] 81)) w'):(w'.cell? ⟨B,0,none⟩=some (ah ag b.room)∧w'.cell? ⟨B,1,none⟩=some (ah ag b.depth)∧w'.cell? ⟨B,2,none⟩=some (ah ag b.least)∧w'.cell? ⟨B,3,none⟩=some (ah ag b.minutes)∧w'.cell? ⟨B,4,none⟩=some (ah ag b.cM)∧w'.cell? ⟨B,5,none⟩=some (ah ag b.km)∧w'.cell? ⟨B,6,none⟩=some (ah ag b.eT)∧w'.cell? ⟨B,7,none⟩=some (ah ag b.j9)∧w'.cell? ⟨B,8,none⟩=some (ah ag b.ll)∧w'.cell? ⟨B,9,none⟩=some (ah ag b.lm)∧w'.cell? ⟨B,10,none⟩=some (ah ag b.pl)∧w'.cell? ⟨B,11,none⟩=some (ah ag b.pm)∧w'.cell? ⟨B,12,none⟩=some (men)∧w'.cell? ⟨B,13,none⟩=some (sent)∧w'.cell? ⟨B,14,none⟩=some (marks)∧w'.cell? ⟨C,0,none⟩=some (ae (some ⟨g,off,none⟩) L cap)∧w'.cell? ⟨g,off+j,none⟩=some (ah ag n)∧w'.cell? ⟨w.heap.size,0,none⟩=some (ah ag ((j:Int)+1))∧w'.cell? ⟨w.heap.size,1,none⟩=some (ah ag lo)∧w'.cell? ⟨w.heap.size,2,none⟩=some (ah ag hi))∧az (w.heap.size+1) (w.alloc (au #[ah ag ((j:Int)+1),ah ag lo,ah ag hi] 81)) w':=by
 have hBl:B<w.heap.size:=(ak.1 h).1;have h':w'.heap[B]?=some (au (b.cells men sent marks) 119 (0,0)):=by rw[hb.block B (by omega),aS _ _ _ hBl];exact h
 have hnew:w'.heap[w.heap.size]?=some (au #[ah ag ((j:Int)+1),ah ag lo,ah ag hi] 81 (0,0)):=by rw[hb.block w.heap.size (by omega)];exact ay w _
 obtain⟨x0,x1,x2,x3,x4,x5,x6,x7,x8,x9,nS,nR,oO,n4,oK⟩:=bM h';refine⟨⟨x0,x1,x2,x3,x4,x5,x6,x7,x8,x9,nS,nR,oO,n4,oK,?_,?_,?_,?_,?_⟩,hb⟩
 ·exact(hb.cell (p:=⟨C,0,none⟩) (by show C<_;omega)).trans ((dY _ _ _ Qt).trans hC)
 ·exact(hb.cell (p:=⟨g,off+j,none⟩) (by show g<_;omega)).trans ((dY _ _ _ hg).trans hn)
 ·simp[dC,hnew]
 ·simp[dC,hnew]
 ·simp[dC,hnew]
theorem DM{w:ar}{B C g off L cap j:Nat}{n lo hi:Int}{b:BB}{men sent marks:aj}(h:w.heap[B]?=some (au (b.cells men sent marks) 119 (0,0)))(hC:w.cell? ⟨C,0,none⟩=some (ae (some ⟨g,off,none⟩) L cap))(Qt:C<w.heap.size)(hg:g<w.heap.size)(hn:w.cell? ⟨g,off+j,none⟩=some (ah ag n)){w1 w':ar}(hb:az (w.heap.size+1) (w.alloc (au #[ah ag ((j:Int)+1),ah ag lo,ah ag hi] 81)) w1)(hb2:az w1.heap.size w1 w'):(w'.cell? ⟨B,0,none⟩=some (ah ag b.room)∧w'.cell? ⟨B,1,none⟩=some (ah ag b.depth)∧w'.cell? ⟨B,2,none⟩=some (ah ag b.least)∧w'.cell? ⟨B,3,none⟩=some (ah ag b.minutes)∧w'.cell? ⟨B,4,none⟩=some (ah ag b.cM)∧w'.cell? ⟨B,5,none⟩=some (ah ag b.km)∧w'.cell? ⟨B,6,none⟩=some (ah ag b.eT)∧w'.cell? ⟨B,7,none⟩=some (ah ag b.j9)∧w'.cell? ⟨B,8,none⟩=some (ah ag b.ll)∧w'.cell? ⟨B,9,none⟩=some (ah ag b.lm)∧w'.cell? ⟨B,10,none⟩=some (ah ag b.pl)∧w'.cell? ⟨B,11,none⟩=some (ah ag b.pm)∧w'.cell? ⟨B,12,none⟩=some (men)∧w'.cell? ⟨B,13,none⟩=some (sent)∧w'.cell? ⟨B,14,none⟩=some (marks)∧w'.cell? ⟨C,0,none⟩=some (ae (some ⟨g,off,none⟩) L cap)∧w'.cell? ⟨g,off+j,none⟩=some (ah ag n)∧w'.cell? ⟨w.heap.size,0,none⟩=some (ah ag ((j:Int)+1))∧w'.cell? ⟨w.heap.size,1,none⟩=some (ah ag lo)∧w'.cell? ⟨w.heap.size,2,none⟩=some (ah ag hi))∧az (w.heap.size+1) (w.alloc (au #[ah ag ((j:Int)+1),ah ag lo,ah ag hi] 81)) w':=
 Sz h hC Qt hg hn (hb.trans (hb2.mono (by have:=hb.size;simpa using this)))
theorem Ig(b:BB)(hb:b.Ok)(men sent marks:aj)(lo hi n:Int)(Xo:0≤n∧n≤999)(B C g off L cap j:Nat)(w:ar)(h:w.heap[B]?=some (au (b.cells men sent marks) 119 (0,0)))(hC:w.cell? ⟨C,0,none⟩=some (ae (some ⟨g,off,none⟩) L cap))(Qt:C<w.heap.size)(hg:g<w.heap.size)(hn:w.cell? ⟨g,off+j,none⟩=some (ah ag n))(hj:j<L)(hL:L≤1000) :
  bm aq 176 #[aO #[ah ag ((j:Int)+1),ah ag lo,ah ag hi],bp (some ⟨B,0,none⟩),bp (some ⟨C,0,none⟩)] w fun e w'=>e=aF (aG (!aQ (b.TK n) lo hi))∧az w.heap.size w w':=by
 have HK:=ai h;have HC:=ai hC;have HN:=ai hn;have hjj:IntKind.i64.wrap ((j:Int)+1-1)=(j:Int):=by rw[show(j:Int)+1-1=(j:Int) by omega];exact eX _ (by omega) (by omega)
 have hj1:(j:Int)<(L:Int):=by omega
 have S9:(j:Int)≤(L:Int):=by omega
 have hj0:(0:Int)≤(j:Int):=by omega
 have hjw:IntKind.i64.wrap (j:Int)=(j:Int):=eX _ (by omega) (by omega);clear h hC hn
 go_enter Tryz.func176,Tryz.ntmps176
 go_wp2
 go_region_held3 (fun w'=>(w'.cell? ⟨B,0,none⟩=some (ah ag b.room)∧w'.cell? ⟨B,1,none⟩=some (ah ag b.depth)∧w'.cell? ⟨B,2,none⟩=some (ah ag b.least)∧w'.cell? ⟨B,3,none⟩=some (ah ag b.minutes)∧w'.cell? ⟨B,4,none⟩=some (ah ag b.cM)∧w'.cell? ⟨B,5,none⟩=some (ah ag b.km)∧w'.cell? ⟨B,6,none⟩=some (ah ag b.eT)∧w'.cell? ⟨B,7,none⟩=some (ah ag b.j9)∧w'.cell? ⟨B,8,none⟩=some (ah ag b.ll)∧w'.cell? ⟨B,9,none⟩=some (ah ag b.lm)∧w'.cell? ⟨B,10,none⟩=some (ah ag b.pl)∧w'.cell? ⟨B,11,none⟩=some (ah ag b.pm)∧w'.cell? ⟨B,12,none⟩=some (men)∧w'.cell? ⟨B,13,none⟩=some (sent)∧w'.cell? ⟨B,14,none⟩=some (marks)∧w'.cell? ⟨C,0,none⟩=some (ae (some ⟨g,off,none⟩) L cap)∧w'.cell? ⟨g,off+j,none⟩=some (ah ag n)∧w'.cell? ⟨w.heap.size,0,none⟩=some (ah ag ((j:Int)+1))∧w'.cell? ⟨w.heap.size,1,none⟩=some (ah ag lo)∧w'.cell? ⟨w.heap.size,2,none⟩=some (ah ag hi))∧az (w.heap.size+1) (w.alloc (au #[ah ag ((j:Int)+1),ah ag lo,ah ag hi] 81)) w')
  (first|exact Sz HK.out HC.out Qt hg HN.out (aw _ _).drew|exact Sz HK.out HC.out Qt hg HN.out (aw _ _)|exact DM HK.out HC.out Qt hg HN.out (And.right (by assumption)) (by assumption)|exact DM HK.out HC.out Qt hg HN.out (And.right (by assumption)) (aw _ _))
  (first|(go_at_call 139;refine(IY b hb men sent marks n Xo _).mono ?_;rintro e w1 ⟨rfl,hb1⟩)|(go_at_call 138;refine(qd _ _ _ _).mono ?_;rintro e w1 ⟨rfl,rfl⟩))
 rename _∧_=>hS;have hBw:=hS.2;clear hS;go_wp2
 go_ret
 exact⟨rfl,((aw _ _).alloc (ax _) _).trans (hBw.mono (by omega))⟩
def Ad(b:BB)(used:Int)(p:Nat)(ms:List Mk):Bool:=ms.all fun m=>aQ (b.TK (b.B5 used p m.minute.toNat)) m.lo m.hi
def jI(b:BB)(used:Int)(p:Nat):List Mk→Nat→Int
 |[],_=>-1
 |m::r,k=>if aQ (b.TK (b.B5 used p m.minute.toNat)) m.lo m.hi then jI b used p r (k+1) else k
theorem Fv(b:BB)(used:Int)(p:Nat)(xs:List Mk)(k:Nat)(hk:k<xs.length):jI b used p (xs.drop k) k=if aQ (b.TK (b.B5 used p xs[k].minute.toNat)) xs[k].lo xs[k].hi then jI b used p (xs.drop (k+1)) (k+1) else(k:Int):=by
 rw[List.drop_eq_getElem_cons hk];rfl
theorem Ih(b:BB)(used:Int)(p:Nat)(xs:List Mk):jI b used p (xs.drop xs.length) xs.length = -1:=by simp[jI]
theorem Ii(b:BB)(used:Int)(p:Nat):∀(xs:List Mk) (k:Nat),decide (0≤jI b used p xs k) = !Ad b used p xs:=by
 intro xs
 induction xs with
 |nil=>intro k;simp[jI,Ad]
 |cons n r ih=>
  intro k;simp only[jI,Ad,List.all_cons];split
  ·rename_i h;rw[h,Bool.true_and];exact ih (k+1)
  ·rename_i h;simp at h;simp[h]
theorem Fw(b:BB)(hb:b.Ok)(men sent marks:aj)(ms:List Mk)(hm:jF b ms)(used:Int)(hu:0≤used)(p:Nat)(v:aj)(B C g off L cap:Nat)(w:ar)(hv:Reads w v ms.length (dm ms))
  (mN:w.heap[B]?=some (au (b.cells men sent marks) 119 (0,0))) (hC:w.cell? ⟨C,0,none⟩=some (ae (some ⟨g,off,none⟩) L cap)) (Qt:C<w.heap.size) (hg:g<w.heap.size) (hL:L=b.minutes.toNat) (hc:∀j u,((b.mR used p b.minutes.toNat).map (aD ag))[j]?=some u→w.cell? ⟨g,off+j,none⟩=some u) :
  bm aq 182 #[v,.func (.func 176) #[] #[bp (some ⟨B,0,none⟩),bp (some ⟨C,0,none⟩)]] w fun e w'=>e=aF (ah ag (jI b used p ms 0))∧az w.heap.size w w':=by
 have HK:=ai mN;have HC:=ai hC;have HP:=ai hc;have HM:=ai hm;have xq:=hb.minutes;have Xq:=hm.len;clear mN hC hc hm;rcases hv with⟨rfl,hn,hx0⟩|⟨gm,om,cm,rfl,hn,VO,hcm⟩
 ·obtain rfl:ms=[]:=aY hn;clear hx0 hn
  go_enter Tryz.func182,Tryz.ntmps182
  go_wp2
  go_loopw [8] (fun i wr=>i=ah ag 0∧az w.heap.size w wr) (fun _ _=>0)
  case atStart=>exact⟨rfl,aw _ _⟩
  case round=>
   obtain⟨rfl,eh⟩:=hrel;go_wp2
   go_ret
   exact⟨rfl,eh⟩
 ·have O7:=ai hcm;clear hcm;generalize hM:ms.length=M at *;have HL:=ai hM;clear hM
  go_enter Tryz.func182,Tryz.ntmps182
  go_wp2
  go_loopw [5,8] (fun _ i wr=>∃k:Nat,k≤M∧i=ah ag k∧jI b used p ms 0=jI b used p (ms.drop k) k∧az w.heap.size w wr) (fun _ i _=>M-(intOf i).toNat)
  case atStart=>exact⟨0,by omega,rfl,rfl,aw _ _⟩
  case round=>
   obtain⟨k,hk,rfl,kJ,eh⟩:=hrel;have hB1:=eh.size
   by_cases hlt:k<M
   ·have kh:k<ms.length:=by rw[HL.out];exact hlt
    obtain⟨y0,y1,y2⟩:=vH (w:=wr) (fun j u hj=>(eh.cell (p:=⟨gm,om+j,none⟩) VO).trans (O7.out j u hj)) k kh;have hx:=HM.out.mem ms[k] (cu kh);have hst:=Fv b used p ms k kh;rw[hst] at kJ;clear hst;generalize ms[k]=x at *;obtain⟨mi,lo,hi⟩:=x;obtain⟨j,rfl⟩:∃j:Nat,mi=(j:Int)+1:=⟨(mi-1).toNat,by have:=hx.1;simp at this;omega⟩
    have hjm:j<b.minutes.toNat:=by have:=hx.2.1;simp at this;omega
    have Tk:=b.Ny hb hu p (j+1);have hcell:=HP.out j (ah ag (b.B5 used p (j+1))) (by simp[BB.mR,hjm]);have hT:=Ig b hb men sent marks lo hi (b.B5 used p (j+1)) (by omega) B C g off L cap j wr ((eh.block B (ak.1 HK.out).1).trans HK.out) ((eh.cell (p:=⟨C,0,none⟩) Qt).trans HC.out) (by omega) (by omega) ((eh.cell (p:=⟨g,off+j,none⟩) hg).trans hcell) (by omega) (by omega);rw[show(Mk.minute ⟨(j:Int)+1,lo,hi⟩).toNat=j+1 by show((j:Int)+1).toNat=j+1;omega] at kJ;simp only[] at y0 y1 y2 kJ;clear hx Tk hcell hjm;cases hd:aQ (b.TK (b.B5 used p (j+1))) lo hi
    ·rw[hd] at hT;simp only[hd,Bool.false_eq_true,if_false] at kJ;have HB:=ai kJ;have HT:=ai hT;clear kJ hT hd
     go_wp2_with (go_at_call 176;refine HT.out.mono ?_;rintro e w2 ⟨rfl,hb2⟩)
     go_ret
     exact⟨gP HB.out.symm,eh.trans (hb2.mono hB1)⟩
    ·rw[hd] at hT;simp only[hd,if_true] at kJ;have HB:=ai kJ;have HT:=ai hT;clear kJ hT hd
     go_wp2_with (go_at_call 176;refine HT.out.mono ?_;rintro e w2 ⟨rfl,hb2⟩)
     go_roundw
     case rel=>exact⟨k+1,by omega,by go_num,HB.out,eh.trans (hb2.mono hB1)⟩
     case measure=>simp[intOf];omega
   ·obtain rfl:k=M:=by omega
    have e1:jI b used p ms 0 = -1:=by rw[kJ,←HL.out];exact Ih b used p ms
    have HE:=ai e1;clear e1 kJ;go_wp2
    go_ret
    exact⟨gP HE.out.symm,eh⟩
theorem Au(b:BB)(hb:b.Ok)(men sent marks:aj)(ms:List Mk)(hm:jF b ms)(used:Int)(hu:0≤used)(p:Nat)(v:aj)(B C g off L cap:Nat)(w:ar)(hv:Reads w v ms.length (dm ms))
  (mN:w.heap[B]?=some (au (b.cells men sent marks) 119 (0,0))) (hC:w.cell? ⟨C,0,none⟩=some (ae (some ⟨g,off,none⟩) L cap)) (Qt:C<w.heap.size) (hg:g<w.heap.size) (hL:L=b.minutes.toNat) (hc:∀j u,((b.mR used p b.minutes.toNat).map (aD ag))[j]?=some u→w.cell? ⟨g,off+j,none⟩=some u) :
  bm aq 175 #[v,.func (.func 176) #[] #[bp (some ⟨B,0,none⟩),bp (some ⟨C,0,none⟩)]] w fun e w'=>e=aF (aG (!Ad b used p ms))∧az w.heap.size w w':=by
 have hI:=Fw b hb men sent marks ms hm used hu p v B C g off L cap w hv mN hC Qt hg hL hc;have hA:=Ii b used p ms 0;generalize jI b used p ms 0=q at *;have HI:=ai hI;have HA:=ai hA;clear hI hv mN hC hc hA
 go_enter Tryz.func175,Tryz.ntmps175
 go_wp2_with (go_at_call 182;refine HI.out.mono ?_;rintro e w2 ⟨rfl,hb2⟩)
 go_ret
 exact⟨pY HA.out,hb2⟩
theorem Du(b:BB)(hb:b.Ok)(men sent marks:aj)(a:eA)(ha:a.Ok)(p:Nat)(hp:p<512)(w:ar) :
  bm aq 114 #[aO (b.cells men sent marks),aO a.cells,ah ag p] w fun e w'=>∃g cap,∃cur:Array aj,e=aF (ae (some ⟨g,0,none⟩) b.minutes.toNat cap)∧w.heap.size≤g∧g<w'.heap.size∧b.minutes.toNat≤cap∧
   w'.heap[g]?=some (au cur 3 (0,0))∧(∀(j:Nat) (u:aj),((b.mR (b.cM+a.used) p b.minutes.toNat).map (aD ag))[j]?=some u→cur[j]?=some u)∧az w.heap.size w w':=by
 refine(Dv b hb men sent marks a ha p hp w).mono ?_;rintro e w1 ⟨v,rfl,hown,hb1⟩;have hm:=hb.minutes;rcases hown.2 with⟨h0,h1⟩|⟨g,cap,cur,rfl,h2,h3,h4,h5,h6,h7⟩
 ·have:=(h1:b.minutes.toNat=0)
  omega
 ·refine⟨g,cap,cur,rfl,h2,(ak.1 h3).1,h4,h3,fun j u hj=>?_,hb1⟩;rw[←h7,List.getElem?_take] at hj;split at hj
  ·simpa using hj
  ·cases hj
theorem aH{W:ar}{B:Nat}{cs:Array aj}{t:aX}(h:W.heap[B]?=some (au cs t (0,0)))(i:Nat)(u:aj)(hi:cs[i]?=some u):W.cell? ⟨B,i,none⟩=some u:=by
 simp[dC,h,hi]
theorem cN{W:ar}{B:Nat}{cs:Array aj}{t:aX}(h:W.heap[B]?=some (au cs t (0,0)))(i:Nat):W.frozen? ⟨B,i,none⟩=false:=by
 simp[World.frozen?,h]
theorem Bb{W:ar}{k:Nat}{z v:aj}{t:aX}(h:W.heap[k]?=some (au #[z] t (0,0))):(W.setCell ⟨k,0,none⟩ v).heap[k]?=some (au #[v] t (0,0)):=by
 obtain⟨hk,h⟩:=ak.1 h;simp[j4,hk,h,A6]
structure Two(w:ar)(A:Array aj)(tA:aX)(B:Array aj)(tB:aX)(w':ar):Prop where
 one:w'.heap[w.heap.size]?=some (au A tA (0,0))
 two:w'.heap[w.heap.size+1]?=some (au B tB (0,0))
 below:az w.heap.size w w'
 size:w.heap.size+2≤w'.heap.size
theorem Two.mk'(w:ar)(A:Array aj)(tA:aX)(B:Array aj)(tB:aX):Two w A tA B tB ((w.alloc (au A tA)).alloc (au B tB)).drew:=
 ⟨(aS _ _ _ (by simp)).trans (ay w _),by have:=ay (w.alloc (au A tA)) (au B tB);rwa [dU] at this,
  (((aw _ w).alloc (ax _) _).alloc (by simp) _).drew,by show _≤((w.alloc _).alloc _).heap.size;simp⟩
theorem Two.next{w:ar}{A:Array aj}{tA:aX}{B:Array aj}{tB:aX}{w1 w2:ar}(h:Two w A tA B tB w1)(hb:az w1.heap.size w1 w2):Two w A tA B tB w2:=by
 have hs:=h.size;exact⟨(hb.block _ (by omega)).trans h.one,(hb.block _ (by omega)).trans h.two,h.below.trans (hb.mono (by omega)),aN hs hb.size⟩
theorem Two.store{w:ar}{A:Array aj}{tA:aX}{B:Array aj}{tB:aX}{w1:ar}(h:Two w A tA B tB w1){k i:Nat}(hk:w.heap.size+2≤k)(u:aj):Two w A tA B tB (w1.setCell ⟨k,i,none⟩ u):=
 ⟨(bj _ _ _ _ (by show _≠k;omega)).trans h.one,(bj _ _ _ _ (by show _≠k;omega)).trans h.two,h.below.setCell (by show _≤k;omega) u,by simpa using h.size⟩
theorem MA(b:BB)(hb:b.Ok)(men sent marks:aj)(ss:List Int)(hs:js b ss)(ms:List Mk)(hm:jF b ms)(a:eA)(ha:a.Ok)(w:ar)(Xd:Reads w sent ss.length (ss.map (aD ag)))(hvm:Reads w marks ms.length (dm ms)) :
  bm aq 143 #[aO (b.cells men sent marks),aO a.cells] w fun e w'=>e=aF (aG (Ad b (b.cM+a.used) (bG ss) ms))∧az w.heap.size w w':=by
 have xq:=hb.minutes;have oW:∀s∈ss,1≤s∧s≤8:=fun s h=>by have:=hs.mem s h;omega
 have Qh:bG ss<512:=mS ss oW
 go_enter Tryz.func143,Tryz.ntmps143
 go_wp2
 refine bQ (by kernel_rfl) [
 pV (aO (b.cells men sent marks)),
  pV (aO a.cells),
  pV (pv w.heap.size 0),
  pV (pv w.heap.size 13),
  pV (sent),
  pV (ah ag (bG ss)),
  fun v ds w9=>∃g cap,∃cur:Array aj,v=ae (some ⟨g,0,none⟩) b.minutes.toNat cap∧w.heap.size+2≤g∧b.minutes.toNat≤cap∧w9.heap[g]?=some (au cur 3 (0,0))∧∀(j:Nat) (u:aj),((b.mR (b.cM+a.used) (bG ss) b.minutes.toNat).map (aD ag))[j]?=some u→cur[j]?=some u,
  fun v ds w9=>∃k z,v=pv k 0∧w.heap.size+2≤k∧w9.heap[k]?=some (au #[z] 25 (0,0)),
  fun v ds w9=>∃k z,ds[0]?=some (pv k 0)∧ds[1]?=some z∧w9.heap[k]?=some (au #[z] 25 (0,0))]
  (Two w (b.cells men sent marks) 119 a.cells 134) [(2,pv w.heap.size 0),(3,pv (w.heap.size+1) 0)] (by kernel_rfl) ?rst (fun w1 w2 h hb=>h.next hb) (Two.mk' _ _ _ _ _) ⟨rfl,rfl,trivial⟩ ?reach ?rfin
 case rst=>
  refine⟨sV,sV,sV,sV,sV,sV,?_,?_,?_,trivial⟩
  ·rintro v ds w1 w2 hS ⟨g,cap,cur,h1,h2,h3,h4,h5⟩ hb;exact⟨g,cap,cur,h1,h2,h3,(hb.block g (ak.1 h4).1).trans h4,h5⟩
  ·rintro v ds w1 w2 hS ⟨k,z,h1,h2,h3⟩ hb;exact⟨k,z,h1,h2,(hb.block k (ak.1 h3).1).trans h3⟩
  ·rintro v ds w1 w2 hS ⟨k,z,h1,h2,h3⟩ hb;exact⟨k,z,h1,h2,(hb.block k (ak.1 h3).1).trans h3⟩
 case reach=>
  refine⟨?_,?_,?_,?_,?_,?_,?_,?_,?_,trivial⟩<;>rintro ev w1 hS hc hg hf ⟨b2,b3,-⟩ hd
  ·clear hd;have x0:=aH hS.one 0 _ rfl;have x1:=aH hS.one 1 _ rfl;have x2:=aH hS.one 2 _ rfl;have x3:=aH hS.one 3 _ rfl;have x4:=aH hS.one 4 _ rfl;have x5:=aH hS.one 5 _ rfl;have x6:=aH hS.one 6 _ rfl;have x7:=aH hS.one 7 _ rfl;have x8:=aH hS.one 8 _ rfl;have x9:=aH hS.one 9 _ rfl;have nS:=aH hS.one 10 _ rfl;have nR:=aH hS.one 11 _ rfl;have oO:=aH hS.one 12 _ rfl;have n4:=aH hS.one 13 _ rfl;have oK:=aH hS.one 14 _ rfl;exact tV
  ·clear hd;have y0:=aH hS.two 0 _ rfl;have y1:=aH hS.two 1 _ rfl;have y2:=aH hS.two 2 _ rfl;have y3:=aH hS.two 3 _ rfl;exact tV
  ·clear hd;exact tV
  ·have d2:ev (aK 8)=_:=hd.1 rfl;clear hd;exact tV
  ·have d3:ev (aK 9)=_:=hd.1 rfl;clear hd;have n4:=aH hS.one 13 _ rfl;exact tV
  ·have d4:ev (aK 10)=_:=hd.1 rfl;clear hd;refine yq (args:=#[sent]) (kV ss oW sent _ (Xd.below hS.below)) ?_ fun _=>rfl;go_simp
  ·have d0:ev (aK 6)=_:=hd.1 rfl;have d1:ev (aK 7)=_:=hd.2.1 rfl;have d5:ev (aK 11)=_:=hd.2.2.1 rfl;clear hd;refine Lag.Yields.call (f:=114) (args:=#[aO (b.cells men sent marks),aO a.cells,ah ag (bG ss)]) ?_ (Du b hb men sent marks a ha (bG ss) Qh _) ?_
   ·go_simp
   ·rintro e w2 ⟨g,cap,cur,rfl,h1,h2,h3,h4,h5,h6⟩;exact⟨_,rfl,⟨g,cap,cur,rfl,aN hS.size h1,h3,h4,h5⟩,cA h6⟩
  ·clear hd;refine Lag.Yields.value (v:=pv w1.heap.size 0) (w':=w1.alloc (au #[ae none 0 0] 25)) ?_ ⟨⟨_,_,rfl,hS.size,ay _ _⟩,cA ((aw _ _).alloc (ax _) _)⟩;go_simp
  ·obtain⟨k,z,e5,hk,hkb⟩:=hd.1 rfl;replace e5:ev (aK 5)=_:=e5;obtain⟨g,cap,cur,XJ,hg,hgc,hgb,qh⟩:=hd.2.1 rfl;clear hd;replace XJ:ev (aK 12)=_:=XJ;have CL:g≠k:=by rintro rfl;rw[hgb] at hkb;cases hkb
   have c1:=aH hkb 0 _ rfl;have c2:=cN hkb 0;refine Lag.Yields.skip (w':=w1.setCell ⟨k,0,none⟩ (ae (some ⟨g,0,none⟩) b.minutes.toNat cap)) ?_ ⟨⟨k,_,congrArg some e5,congrArg some XJ,Bb hkb⟩,.inr ⟨hS.store hk _,?_⟩⟩
   ·go_simp
   ·intro j u ds hj hp
    match j,hp with
    |0,hp=>exact hp
    |1,hp=>exact hp
    |2,hp=>exact hp
    |3,hp=>exact hp
    |4,hp=>exact hp
    |5,hp=>exact hp
    |6,⟨g',cap',cur',h1,h2,h3,h4,h5⟩=>exact⟨g',cap',cur',h1,h2,h3,(bj _ _ _ _ (by rintro rfl;rw[h4] at hkb;cases hkb)).trans h4,h5⟩
    |7,⟨k',z',h1,h2,h3⟩=>
     by_cases sI:k'=k
     ·subst sI;exact⟨k',_,h1,h2,Bb h3⟩
     ·exact⟨k',z',h1,h2,(bj _ _ _ _ sI).trans h3⟩
    |8,_=>exact(hj rfl).elim
    |j+9,_=>trivial
 case rfin=>
  intro a2 w2 hR;have hS:=hR.s;have e6:∃g cap,∃cur:Array aj,(a2.tmps.getD 12 af)=ae (some ⟨g,0,none⟩) b.minutes.toNat cap∧w.heap.size+2≤g∧b.minutes.toNat≤cap∧w2.heap[g]?=some (au cur 3 (0,0))∧∀(j:Nat) (u:aj),((b.mR (b.cM+a.used) (bG ss) b.minutes.toNat).map (aD ag))[j]?=some u→cur[j]?=some u:=hR.val 6 (by decide);have e7:∃k z,(a2.tmps.getD 5 af)=pv k 0∧w.heap.size+2≤k∧w2.heap[k]?=some (au #[z] 25 (0,0)):=hR.val 7 (by decide);have e8:∃k z,([a2.tmps.getD 5 af,a2.tmps.getD 12 af,a2.tmps.getD 12 af,a2.tmps.getD 6 af,a2.tmps.getD 7 af,a2.tmps.getD 8 af,a2.tmps.getD 9 af,a2.tmps.getD 10 af,a2.tmps.getD 11 af,a2.tmps.getD 12 af,a2.tmps.getD 5 af]:List aj)[0]?=some (pv k 0)∧([a2.tmps.getD 5 af,a2.tmps.getD 12 af,a2.tmps.getD 12 af,a2.tmps.getD 6 af,a2.tmps.getD 7 af,a2.tmps.getD 8 af,a2.tmps.getD 9 af,a2.tmps.getD 10 af,a2.tmps.getD 11 af,a2.tmps.getD 12 af,a2.tmps.getD 5 af]:List aj)[1]?=some z∧w2.heap[k]?=some (au #[z] 25 (0,0)):=hR.val 8 (by decide);have k0:a2.tmps.getD 0 af=aO (b.cells men sent marks):=hR.kept (by kernel_rfl);have k1:a2.tmps.getD 1 af=aO a.cells:=hR.kept (by kernel_rfl);have k2:a2.tmps.getD 2 af=pv w.heap.size 0:=hR.kept (by kernel_rfl);have k3:a2.tmps.getD 3 af=pv (w.heap.size+1) 0:=hR.kept (by kernel_rfl);have k4:a2.tmps.getD 4 af=aG false:=hR.kept (by kernel_rfl);have ha_:a2=⟨#[a2.tmps.getD 0 af,a2.tmps.getD 1 af,a2.tmps.getD 2 af,a2.tmps.getD 3 af,a2.tmps.getD 4 af,a2.tmps.getD 5 af,a2.tmps.getD 6 af,a2.tmps.getD 7 af,a2.tmps.getD 8 af,a2.tmps.getD 9 af,a2.tmps.getD 10 af,a2.tmps.getD 11 af,a2.tmps.getD 12 af,a2.tmps.getD 13 af,a2.tmps.getD 14 af,a2.tmps.getD 15 af,a2.tmps.getD 16 af,a2.tmps.getD 17 af,a2.tmps.getD 18 af],[]⟩:=hR.act;clear hR;obtain⟨k,z,h5,hk,hkb⟩:=e7;obtain⟨g,cap,cur,V5,hg,hgc,hgb,qh⟩:=e6;obtain⟨k',z',h5',acN,hkb'⟩:=e8;have q1:k'=k:=by have:=h5.symm.trans (bf h5');simpa using this.symm
  have q2:z'=ae (some ⟨g,0,none⟩) b.minutes.toNat cap:=(bf acN).symm.trans V5;subst q1;subst q2;have ab2:=aH hS.one 14 _ rfl;have ah1:=hS.one;have hk2:=aH hkb' 0 _ rfl
  have hcon:=Au b hb men sent marks ms hm (b.cM+a.used) (by have:=hb.cM;have:=ha.leak;have:=ha.m0;have:=ha.m1;have:=ha.m2;simp only[eA.used];omega) (bG ss) marks w.heap.size k' g 0 b.minutes.toNat cap w2 (hvm.below hS.below) hS.one (aH hkb' 0 _ rfl) (ak.1 hkb').1 (ak.1 hgb).1 rfl
   (fun j u hj=>aH hgb _ _ (by rw[Nat.zero_add];exact qh j u hj))
  have rz:=hS.below;rw[k0,k1,k2,k3,k4,h5] at ha_;clear qh hS Xd hvm h5' acN V5 h5 k0 k1 k2 k3 k4 hgb hkb hkb';generalize a2.tmps.getD 6 af=t6,a2.tmps.getD 7 af=t7,a2.tmps.getD 8 af=t8,a2.tmps.getD 9 af=t9,a2.tmps.getD 10 af=t10,a2.tmps.getD 11 af=t11,a2.tmps.getD 12 af=t12,a2.tmps.getD 13 af=t13,a2.tmps.getD 14 af=t14,a2.tmps.getD 15 af=t15,a2.tmps.getD 16 af=t16,a2.tmps.getD 17 af=t17,a2.tmps.getD 18 af=t18 at ha_;subst ha_;have HC:=ai hcon;clear hcon
  go_wp2_with (first|(go_at_call 175;refine HC.out.mono ?_;clear HC;rintro e w3 ⟨rfl,hb3⟩))
  go_ret
  exact⟨by simp,rz.trans (hb3.mono rz.size)⟩
end Go.Proofs.YtffladgmkiimjaaGreatDoor
namespace Go.Lag
open Go.RowKit
structure Step(X X':Nat→Prop)(W W':ar):Prop where
 os:W'.os=W.os
 tape:W'.tape=W.tape
 output:W'.output=W.output
 size:W.heap.size≤W'.heap.size
 old:∀k,k<W.heap.size→X' k→X k
 same:∀k,k<W.heap.size→¬X k→W'.heap[k]?=W.heap[k]?
theorem Step.refl(X:Nat→Prop)(W:ar):Step X X W W:=⟨rfl,rfl,rfl,ax _,fun _ _ h=>h,fun _ _ _=>rfl⟩
theorem Step.trans{X Y Z:Nat→Prop}{A B C:ar}(h:Step X Y A B)(k:Step Y Z B C):Step X Z A C:=
 ⟨k.os.trans h.os,k.tape.trans h.tape,k.output.trans h.output,aN h.size k.size,
  fun i hi hz=>h.old i hi (k.old i (bz hi h.size) hz),
  fun i hi hx=>(k.same i (bz hi h.size) (fun hy=>hx (h.old i hi hy))).trans (h.same i hi hx)⟩
theorem Step.of_below{X:Nat→Prop}{W W':ar}(h:az W.heap.size W W'):Step X X W W':=
 ⟨h.os,h.tape,h.output,h.size,fun _ _ h=>h,fun k hk _=>h.block k hk⟩
theorem Step.below{X X':Nat→Prop}{W W':ar}(h:Step X X' W W'){n:Nat}(hn:n≤W.heap.size)(hx:∀k,k<n→¬X k):az n W W':=
 ⟨h.os,h.tape,h.output,h.size,fun k hk=>h.same k (bz hk hn) (hx k hk)⟩
def Abides{β:Type}(J:β→(Nat→Prop)→ar→Prop):Prop:=
 ∀s X W W',J s X W→(∀k,X k→W'.heap[k]?=W.heap[k]?)→J s X W'
def B6{β:Type}(J:β→(Nat→Prop)→ar→Prop):Prop:=∀s X W,J s X W→∀k,X k→k<W.heap.size
def Z5{α:Type}(P:aI)(g:Nat)(la:Array aj)(encs:α→Array aj)(all:List α)(w:ar):Prop:=
 ∀(l:Nat) (J Jx:List α→(Nat→Prop)→ar→Prop) (X:Nat→Prop) (W:ar),
  az w.heap.size w W→(∀k,X k→w.heap.size≤k∧k<W.heap.size)→Abides J→Abides Jx→B6 J→B6 Jx→
  (∀m pre x X1 W1,J pre X1 W1→(∀k,X1 k→w.heap.size≤k)→pre++[x] <+: all→YieldAt Fence.wide m P l (encs x) W1 fun e W'=>∃X2,Step X1 X2 W1 W'∧
   ((e=aF (aG true)∧J (pre++[x]) X2 W')∨(e=aF (aG false)∧Jx (pre++[x]) X2 W')))→
  J [] X W→
  bm P g (la++#[.func (.yield l) #[] #[]]) W fun e W'=>(∃v,e=aF v)∧∃X2,Step X X2 W W'∧(J all X2 W'∨∃pre,Jx pre X2 W')
def aa8{α:Type}(I:List α→(Nat→Prop)→ar→Prop)(Ix:Code→List α→(Nat→Prop)→ar→Prop)(X:Nat→Prop)(xs:List α)(W:ar):Exit→Act→ar→Prop
 |.normal,_,W'=>∃X2,Step X X2 W W'∧I xs X2 W'
 |.ret,_,W'=>∃X2,Step X X2 W W'∧Ix .ret xs X2 W'
 |.exit id,_,W'=>∃X2,Step X X2 W W'∧Ix (.exit id) xs X2 W'
 |.goto t,_,W'=>∃X2,Step X X2 W W'∧Ix (.goto t) xs X2 W'
 |.panic _,_,_=>False
 |.outgrown,_,_=>False
theorem Step.putObj{X X':Nat→Prop}{W W':ar}(h:Step X X' W W'){l:Nat}(o:Obj)(hl:W.heap.size≤l):Step X X' W (W'.putObj l o):=
 ⟨h.os,h.tape,h.output,by simpa using h.size,h.old,fun k hk hx=>(di (by omega)).trans (h.same k hk hx)⟩
theorem rM{α:Type}{P:aI}{n:Nat}{g:Operand}{ps:Array Tmp}{assign body:Code}{Q:Exit→Act→ar→Prop}{a:Act}{w:ar}
  {gf:Nat} {la:Array aj} (hg:a.eval g=.func (.func gf) la #[]) (eg:∀args w,(callFunc gf args).run P w=.ok (.enter gf args) w)
  {encs:α→Array aj} {all:List α} {w0:ar} (hseq:Z5 P gf la encs all w0) (hb0:az w0.heap.size w0 w) (VF:∀x,(encs x).size=ps.size)
  (I:List α→(Nat→Prop)→ar→Prop) (Ix:Code→List α→(Nat→Prop)→ar→Prop) (hI:Abides I) (hIx:∀c,Abides (Ix c)) (hIb:B6 I) (af3:∀c,B6 (Ix c))
  (X:Nat→Prop) (hX:∀k,X k→w0.heap.size≤k∧k<w.heap.size) (h0:I [] X w)
  (A:List α→α→Act→(Nat→Prop)→ar→Prop) (hA:∀pre x,Abides (A pre x))
  (VZ:∀(l m:Nat) (pre:List α) (x:α) (X1:Nat→Prop) (W:ar) (K:Act→ar→Prop),I pre X1 W→(∀k,X1 k→w0.heap.size≤k)→pre++[x] <+: all→(∀a' X2 W',Step X1 X2 W W'→A pre x a' X2 W'→K a' W')→
   assign.wpIn (Fence.wide.inRound l) m P (Exit.then K (fun _ _ _=>False)) { tmps:=(ps.zip (encs x)).foldl (fun t (p,v)=>t.setIfInBounds p v) a.tmps,defers:=[] } W)
  (acw:∀(l m:Nat) (pre:List α) (x:α) (a':Act) (X1:Nat→Prop) (W:ar),A pre x a' X1 W→(∀k,X1 k→w0.heap.size≤k)→pre++[x] <+: all→body.wpIn (Fence.wide.inRound l) m P (aa8 I Ix X1 (pre++[x]) W) a' W)
  (hdone:∀(D:Nat) (X2:Nat→Prop) (W:ar),w.heap.size≤D→¬X2 D→Step X X2 w W→I all X2 W→W.heap[D]?=some (.deferred (some []))→Q .normal { a with defers:={ target:=.collected D,args:=#[] }::a.defers } W)
  (BF:∀(D:Nat) (c:Code) (pre:List α) (X2:Nat→Prop) (W:ar),w.heap.size≤D→¬X2 D→Step X X2 w W→Ix c pre X2 W→W.heap[D]?=some (.deferred (some []))→c.wpIn Fence.wide n P Q { a with defers:={ target:=.collected D,args:=#[] }::a.defers } W) :
  (Code.rangeFunc g ps assign body).wpIn Fence.wide n P Q a w:=by
 refine wpIn_rangeFunc ?_;intro fn hfn;rw[show Fence.wide.round=none from rfl];obtain⟨rec,Iz⟩:∃rec:LoopState→Option Code→Loop,rec=fun st pe=>{ state:=st,pending:=pe,fn,tmps:=a.tmps,params:=ps,assign,body,defers:=w.heap.size }:=⟨_,rfl⟩
 obtain⟨W1,hW1⟩:∃W1,(w.alloc (.deferred (some []))).alloc (.loop (rec .ready none))=W1:=⟨_,rfl⟩
 have Zq:W1.heap[w.heap.size+1]?=some (.loop (rec .ready none)):=by
  rw[←hW1];have:=ay (w.alloc (.deferred (some []))) (.loop (rec .ready none));rwa [dU] at this
 have hK1:W1.heap[w.heap.size]?=some (.deferred (some [])):=by
  rw[←hW1];exact(aS _ _ _ (by simp)).trans (ay w _)
 have uo:az w.heap.size w W1:=by rw[←hW1];exact((aw _ w).alloc (ax _) _).alloc (by simp) _
 have hs1:W1.heap.size=w.heap.size+2:=by rw[←hW1];simp
 have hI1:I [] X W1:=hI _ _ _ _ h0 (fun k hk=>uo.block k (hX k hk).2);have hb1:az w0.heap.size w0 W1:=hb0.trans (uo.mono hb0.size)
 refine⟨w.heap.size+1,[{ target:=.collected w.heap.size,args:=#[] }],W1,{ target:=.fn (.func gf) #[],args:=la++#[.func (.yield (w.heap.size+1)) #[] #[]] },W1,gf,
  la++#[.func (.yield (w.heap.size+1)) #[] #[]],W1,?_,?_,?_,?_,(fun h=>by cases h),?_⟩
 ·rw[←hW1,Iz];exact run_enterLoop_outer _ _ _ _ _
 ·simp only[resolve,hg];simp[go_sem]
 ·intro f' hf';trivial
 ·simp[invoke,go_sem,eg]
 ·rw[AY]
  refine(hseq (w.heap.size+1)
   (fun pre Y W=>∃Z:Nat→Prop,Y=(fun k=>Z k∨k=w.heap.size∨k=w.heap.size+1)∧(∀k,Z k→k≠w.heap.size∧k≠w.heap.size+1)∧I pre Z W∧W.heap[w.heap.size+1]?=some (.loop (rec .ready none))∧W.heap[w.heap.size]?=some (.deferred (some [])))
   (fun pre Y W=>∃(Z:Nat→Prop) (c:Code),Y=(fun k=>Z k∨k=w.heap.size∨k=w.heap.size+1)∧(∀k,Z k→k≠w.heap.size∧k≠w.heap.size+1)∧Ix c pre Z W∧W.heap[w.heap.size+1]?=some (.loop (rec .done (some c)))∧W.heap[w.heap.size]?=some (.deferred (some [])))
   (fun k=>X k∨k=w.heap.size∨k=w.heap.size+1) W1 hb1 ?_ ?_ ?_ ?_ ?_ ?_ ?_).mono ?_
  ·rintro k (hk|rfl|rfl)
   ·have:=hX k hk;exact⟨this.1,by omega⟩
   ·have:=hb0.size;exact⟨this,by omega⟩
   ·have:=hb0.size;exact⟨by omega,by omega⟩
  ·rintro pre Y W W' ⟨Z,rfl,hz,hi,hl,hk⟩ hs;exact⟨Z,rfl,hz,hI _ _ _ _ hi (fun k h=>hs k (cA h)),(hs _ (.inr (.inr rfl))).trans hl,(hs _ (.inr (cA rfl))).trans hk⟩
  ·rintro pre Y W W' ⟨Z,c,rfl,hz,hi,hl,hk⟩ hs;exact⟨Z,c,rfl,hz,hIx _ _ _ _ _ hi (fun k h=>hs k (cA h)),(hs _ (.inr (.inr rfl))).trans hl,(hs _ (.inr (cA rfl))).trans hk⟩
  ·rintro pre Y W ⟨Z,rfl,hz,hi,hl,hk⟩ k (qy|rfl|rfl)
   ·exact hIb _ _ _ hi k qy
   ·exact(ak.1 hk).1
   ·exact(ak.1 hl).1
  ·rintro pre Y W ⟨Z,c,rfl,hz,hi,hl,hk⟩ k (qy|rfl|rfl)
   ·exact af3 _ _ _ _ hi k qy
   ·exact(ak.1 hk).1
   ·exact(ak.1 hl).1
  ·rintro m pre x Y W ⟨Z,rfl,hz,hi,hl,hk⟩ hge hpre;have Y4:∀k,Z k→w0.heap.size≤k:=fun k h=>hge k (cA h);have hlt:w.heap.size+1<W.heap.size:=(ak.1 hl).1;have hy:=run_yield (P:=P) (args:=encs x) hl (by rw[Iz];exact VF x);rw[Iz] at hy;refine⟨fn,_,assign,body,hy,roundIn_of_wpIn hfn (VZ _ m pre x Z W _ hi Y4 hpre ?_)⟩;intro a' Z2 W2 hst ha;have hz1:∀k,Z k→k≠w.heap.size∧k≠w.heap.size+1:=hz;have hl1:W2.heap[w.heap.size+1]?=some (.loop (rec .ready none)):=(hst.same _ hlt (fun h=>(hz _ h).2 rfl)).trans hl;have qg:W2.heap[w.heap.size]?=some (.deferred (some [])):=(hst.same _ (by omega) (fun h=>(hz _ h).1 rfl)).trans hk;have hlt2:w.heap.size+1<W2.heap.size:=(ak.1 hl1).1;have hz2:∀k,Z2 k→k≠w.heap.size∧k≠w.heap.size+1:=fun k h=>⟨fun e=>(hz k (hst.old k (by omega) h)).1 e,fun e=>(hz k (hst.old k (by omega) h)).2 e⟩
   refine⟨_,run_beginRound hl1 (by rw[Iz]),?_⟩;obtain⟨W3,hW3⟩:∃W3,W2.putObj (w.heap.size+1) (.loop { rec .ready none with state:=.busy })=W3:=⟨_,rfl⟩
   have hl3:W3.heap[w.heap.size+1]?=some (.loop { rec .ready none with state:=.busy }):=by rw[←hW3];exact World.putObj_heap_same hlt2
   have hk3:W3.heap[w.heap.size]?=some (.deferred (some [])):=by rw[←hW3];exact(di (by omega)).trans qg
   have hp3:∀k,k≠w.heap.size+1→W3.heap[k]?=W2.heap[k]?:=fun k h=>by rw[←hW3];exact di (by omega)
   have h3s:W3.heap.size=W2.heap.size:=by rw[←hW3];simp
   have h3o:W3.os=W2.os∧W3.tape=W2.tape∧W3.output=W2.output:=by rw[←hW3];exact⟨rfl,rfl,rfl⟩
   have afE:∀k,Z2 k→w0.heap.size≤k:=fun k h=>by
    by_cases hc:k<W.heap.size
    ·exact Y4 k (hst.old k hc h)
    ·have:=hb0.size;omega
   have Zm:=hA _ _ _ _ _ W3 ha (fun k h=>hp3 k (hz2 k h).2);simp only[hW3];refine wpIn_mono (acw _ m pre x a' Z2 W3 Zm afE hpre) ?_
   have fin:∀(jump:Option Code) (Z4:Nat→Prop) (W4:ar),Step Z2 Z4 W3 W4→
     (Instr.endRound (w.heap.size+1) jump).run P W4=.ok (aG jump.isNone) (W4.putObj (w.heap.size+1) (.loop (rec (if jump.isNone then .ready else .done) jump)))∧
     (∀k,Z4 k→k≠w.heap.size∧k≠w.heap.size+1)∧
     (∀k,Z4 k→(W4.putObj (w.heap.size+1) (.loop (rec (if jump.isNone then .ready else .done) jump))).heap[k]?=W4.heap[k]?)∧
     (W4.putObj (w.heap.size+1) (.loop (rec (if jump.isNone then .ready else .done) jump))).heap[w.heap.size+1]?=some (.loop (rec (if jump.isNone then .ready else .done) jump))∧
     (W4.putObj (w.heap.size+1) (.loop (rec (if jump.isNone then .ready else .done) jump))).heap[w.heap.size]?=some (.deferred (some []))∧
     Step (fun k=>Z k∨k=w.heap.size∨k=w.heap.size+1) (fun k=>Z4 k∨k=w.heap.size∨k=w.heap.size+1) W (W4.putObj (w.heap.size+1) (.loop (rec (if jump.isNone then .ready else .done) jump))):=fun jump Z4 W4 h4=>by
    have hl4:W4.heap[w.heap.size+1]?=some (.loop { rec .ready none with state:=.busy }):=(h4.same _ (by omega) (fun h=>(hz2 _ h).2 rfl)).trans hl3;have hk4:W4.heap[w.heap.size]?=some (.deferred (some [])):=(h4.same _ (by omega) (fun h=>(hz2 _ h).1 rfl)).trans hk3;have Uy:∀k,Z4 k→k≠w.heap.size∧k≠w.heap.size+1:=fun k h=>⟨fun e=>(hz2 k (h4.old k (by omega) h)).1 e,fun e=>(hz2 k (h4.old k (by omega) h)).2 e⟩
    have:=run_endRound (P:=P) jump hl4;have h4s:=h4.size;have oW:=hst.size
    refine⟨by rw[Iz] at this ⊢;exact this,Uy,fun k h=>di (fun e=>(Uy k h).2 (by omega)),World.putObj_heap_same (ak.1 hl4).1,(di (by omega)).trans hk4,
     ⟨h4.os.trans (h3o.1.trans hst.os),h4.tape.trans (h3o.2.1.trans hst.tape),h4.output.trans (h3o.2.2.trans hst.output),by simp;omega,?_,?_⟩⟩
    ·rintro k hk (h|h)
     ·exact cA (hst.old k hk (h4.old k (by omega) h))
     ·exact .inr h
    ·intro k hk hn;have tW:¬Z k:=fun h=>hn (cA h);have ye:k≠w.heap.size+1:=fun h=>hn (.inr (.inr h));have hn3:¬Z2 k:=fun h=>tW (hst.old k hk h);exact(di (by omega)).trans ((h4.same k (by omega) hn3).trans ((hp3 k ye).trans (hst.same k hk tW)))
   rintro e a4 W4 hp;cases e with
   |normal=>
    obtain⟨Z4,h4,YZ⟩:=hp;obtain⟨hr,Uy,DY,YU,hk5,hstep⟩:=fin none Z4 W4 h4;exact⟨_,_,hr,_,hstep,cA ⟨rfl,Z4,rfl,Uy,hI _ _ _ _ YZ DY,YU,hk5⟩⟩
   |ret=>
    obtain⟨Z4,h4,YZ⟩:=hp;obtain⟨hr,Uy,DY,YU,hk5,hstep⟩:=fin (some .ret) Z4 W4 h4;exact⟨_,_,hr,_,hstep,.inr ⟨rfl,Z4,.ret,rfl,Uy,hIx _ _ _ _ _ YZ DY,YU,hk5⟩⟩
   |exit id=>
    obtain⟨Z4,h4,YZ⟩:=hp;obtain⟨hr,Uy,DY,YU,hk5,hstep⟩:=fin (some (.exit id)) Z4 W4 h4;exact⟨_,_,hr,_,hstep,.inr ⟨rfl,Z4,.exit id,rfl,Uy,hIx _ _ _ _ _ YZ DY,YU,hk5⟩⟩
   |goto t=>
    obtain⟨Z4,h4,YZ⟩:=hp;obtain⟨hr,Uy,DY,YU,hk5,hstep⟩:=fin (some (.goto t)) Z4 W4 h4;exact⟨_,_,hr,_,hstep,.inr ⟨rfl,Z4,.goto t,rfl,Uy,hIx _ _ _ _ _ YZ DY,YU,hk5⟩⟩
   |panic ch=>exact hp.elim
   |outgrown=>exact hp.elim
  ·exact⟨X,rfl,fun k h=>by have:=(hX k h).2;omega,hI1,Zq,hK1⟩
  ·have key:∀(Z:Nat→Prop) (W2:ar) (o:Obj),Step (fun k=>X k∨k=w.heap.size∨k=w.heap.size+1) (fun k=>Z k∨k=w.heap.size∨k=w.heap.size+1) W1 W2→Step X Z w (W2.putObj (w.heap.size+1) o):=fun Z W2 o h=>
    ⟨h.os.trans uo.os,h.tape.trans uo.tape,h.output.trans uo.output,by have:=h.size;simp;omega,fun k hk hz=>by
     rcases h.old k (by omega) (cA hz) with h|h|h
     ·exact h
     ·omega
     ·omega,fun k hk hn=>(di (by omega)).trans ((h.same k (by omega) (fun h=>by
     rcases h with h|h|h
     ·exact hn h
     ·omega
     ·omega)).trans (uo.block k hk))⟩
   rintro e W2 ⟨⟨v,rfl⟩,Y,hstep,(⟨Z,rfl,hz,hi,hl,hk⟩|⟨pre,Z,c,rfl,hz,hi,hl,hk⟩)⟩
   ·exact⟨none,_,by have:=run_endLoop (P:=P) hl (by rw[Iz];simp);rw[Iz] at this;exact this,hdone _ Z _ (ax _) (fun h=>(hz _ h).1 rfl) (key Z W2 _ hstep) (hI _ _ _ _ hi (fun k h=>di (fun e=>(hz k h).2 (by omega)))) ((di (by omega)).trans hk)⟩
   ·exact⟨some c,_,by have:=run_endLoop (P:=P) hl (by rw[Iz];simp);rw[Iz] at this;exact this,BF _ c pre Z _ (ax _) (fun h=>(hz _ h).1 rfl) (key Z W2 _ hstep) (hIx _ _ _ _ _ hi (fun k h=>di (fun e=>(hz k h).2 (by omega)))) ((di (by omega)).trans hk)⟩
end Go.Lag
namespace Go.Proofs.YtffladgmkiimjaaGreatDoor
open Go.RowKit Go.Lag
attribute [local go_sem] Oper.semAt_some
def eA.put(a:eA)(lH:Nat)(n:Int):eA:=
 match lH with
 |0=>{ a with m0:=n }
 |1=>{ a with m1:=n }
 |_=>{ a with m2:=n }
def fM(lo hi:Int):List Int:=(aU (hi+1-lo).toNat).map fun(i:Nat)=>lo+i
def leaves(ok:eA→Bool):List Mn→Nat→eA→List eA
 |[],_,a=>if ok a then[a] else[]
 |m::r,lH,a=>(fM m.lo m.hi).flatMap fun n=>leaves ok r (lH+1) (a.put lH n)
def jH(b:BB)(ss:List Int)(ms:List Mk)(a:eA):Bool:=Ad b (b.cM+a.used) (bG ss) ms
def bn(b:BB)(ml:List Mn)(ss:List Int)(ms:List Mk):List eA:=(fM b.ll b.lm).flatMap fun n=>leaves (jH b ss ms) ml 0 ⟨n,0,0,0⟩
theorem eA.Mj{a:eA}(h:a.Ok)(lH:Nat){n:Int}(h1:0≤n)(h2:n≤99):(a.put lH n).Ok:=by
 obtain⟨p,q,r,s⟩:=h
 match lH with
 |0=>exact⟨p,⟨h1,h2⟩,r,s⟩
 |1=>exact⟨p,q,⟨h1,h2⟩,s⟩
 |k+2=>exact⟨p,q,r,⟨h1,h2⟩⟩
theorem eA.U7(a:eA)(lH:Nat)(n z:Int):(a.put lH z).put lH n=a.put lH n:=by
 match lH with
 |0=>rfl
 |1=>rfl
 |k+2=>rfl
theorem Hd{X X':Nat→Prop}{W W':ar}(h:Step X X' W W'){l i:Nat}(u:aj)(hl:W.heap.size≤l):Step X X' W (W'.setCell ⟨l,i,none⟩ u):=
 ⟨h.os,h.tape,h.output,by simpa using h.size,h.old,fun k hk hx=>(bj _ _ _ _ (by show k≠l;omega)).trans (h.same k hk hx)⟩
structure FY(b:BB)(men sent marks:aj)(w0:ar)(bk yk nk l:Nat)(X:Nat→Prop)(W:ar):Prop where
 below:az w0.heap.size w0 W
 mN:W.heap[bk]?=some (au (b.cells men sent marks) 119 (0,0))
 hyk:W.heap[yk]?=some (au #[.func (.yield l) #[] #[]] 159 (0,0))
 hnk:W.heap[nk]?=some (au #[.func (.func 169) #[] #[pv bk 0,pv yk 0,pv nk 0]] 181 (0,0))
 xb:¬X bk
 xy:¬X yk
 xn:¬X nk
 ge:∀k,X k→w0.heap.size≤k
theorem FY.step{b:BB}{men sent marks:aj}{w0:ar}{bk yk nk l:Nat}{X X2:Nat→Prop}{W W':ar}(h:FY b men sent marks w0 bk yk nk l X W)(hs:Step X X2 W W'):FY b men sent marks w0 bk yk nk l X2 W':=by
 have l1:=(ak.1 h.mN).1;have l2:=(ak.1 h.hyk).1;have l3:=(ak.1 h.hnk).1;refine⟨h.below.trans (hs.below h.below.size fun k hk hx=>?_),(hs.same _ l1 h.xb).trans h.mN,(hs.same _ l2 h.xy).trans h.hyk,(hs.same _ l3 h.xn).trans h.hnk,fun hx=>h.xb (hs.old _ l1 hx),fun hx=>h.xy (hs.old _ l2 hx),fun hx=>h.xn (hs.old _ l3 hx),fun k hx=>?_⟩
 ·have:=h.ge k hx;omega
 ·by_cases hk:k<W.heap.size
  ·exact h.ge k (hs.old k hk hx)
  ·have:=h.below.size;omega
theorem aR{w:ar}{v:aj}{n:Nat}{xs:List aj}(h:Reads w v n xs):∃p cap,v=ae p n cap∧n≤4294967296:=by
 rcases h with⟨rfl,rfl,_⟩|⟨g,off,cap,rfl,h,_⟩
 ·exact⟨_,_,rfl,by omega⟩
 ·exact⟨_,_,rfl,h.1⟩
def T8{α:Type}(P:aI)(l:Nat)(encs:α→Array aj)(n0:Nat)(all:List α)(J Jx:List α→(Nat→Prop)→ar→Prop):Prop:=
 ∀m pre x X1 W1,J pre X1 W1→(∀k,X1 k→n0≤k)→pre++[x] <+: all→YieldAt Fence.wide m P l (encs x) W1 fun e W'=>∃X2,Step X1 X2 W1 W'∧
   ((e=aF (aG true)∧J (pre++[x]) X2 W')∨(e=aF (aG false)∧Jx (pre++[x]) X2 W'))
abbrev QG(a:eA):Array Value:=#[aO a.cells]
def O4(J Jx:List eA→(Nat→Prop)→ar→Prop)(X:Nat→Prop)(W:ar)(pre ys:List eA)(e:Ending)(W':ar):Prop:=
 ∃X2,Step X X2 W W'∧((e=aF (aG true)∧J (pre++ys) X2 W')∨(e=aF (aG false)∧∃q,Jx q X2 W'))
theorem P1(b:BB)(men sent marks:aj)(ml:List Mn)(ss:List Int)(ms:List Mk)(w0:ar)(hB:cH b men sent marks ml ss ms w0)(bk yk nk l:Nat)(all:List eA)(J Jx:List eA→(Nat→Prop)→ar→Prop)(hJ:Lag.Abides J)(UI:Lag.B6 J)
  (hY:T8 aq l QG w0.heap.size all J Jx) (a:eA) (ha:a.Ok) (pre:List eA) (X:Nat→Prop) (W:ar) (hE:FY b men sent marks w0 bk yk nk l X W) (hj:J pre X W) (hp:pre++leaves (jH b ss ms) [] ml.length a <+: all) :
  bm aq 169 #[aO a.cells,ah ag ml.length,pv bk 0,pv yk 0,pv nk 0] W (O4 J Jx X W pre (leaves (jH b ss ms) [] ml.length a)):=by
 have hx:=UI _ _ _ hj;have b1:az W.heap.size W (W.alloc (au a.cells 134)):=(aw _ _).alloc (ax _) _;have UJ:=hE.step (Step.of_below b1);have hB1:=hB.below UJ.below;obtain⟨x0,x1,x2,x3,x4,x5,x6,x7,x8,x9,nS,nR,oO,n4,oK⟩:=bM UJ.mN;have y0:=aH UJ.hyk 0 _ rfl;obtain⟨p,cap,rfl,hlen⟩:=aR hB.rm;have hk:(W.alloc (au a.cells 134)).heap[W.heap.size]?=some (au a.cells 134 (0,0)):=ay W _;have z0:=aH hk 0 _ rfl;have z1:=aH hk 1 _ rfl;have z2:=aH hk 2 _ rfl;have z3:=aH hk 3 _ rfl;have hmk:=MA b hB.ok (ae p ml.length cap) sent marks ss hB.l5 ms hB.kG a ha _ hB1.rs hB1.rk;have HM:=ai hmk;have HE:=ai UJ;have HB:=ai hB1;have HY:=ai hY;have HJ:=ai hJ;clear hmk hE hB UJ hB1 hk hY hJ;generalize hL:ml.length=L at *;clear hL;have hlv:leaves (jH b ss ms) [] L a=if jH b ss ms a then[a] else[]:=rfl
 rw[hlv] at hp ⊢;clear hlv
 have HJ2:Hid (∀W',az (W.alloc (au a.cells 134)).heap.size (W.alloc (au a.cells 134)) W'→J pre X W'∧Step X X W W'):=ai fun W' hb'=>by
  have zM:az W.heap.size W W':=b1.trans (hb'.mono b1.size);exact⟨HJ.out _ _ _ _ hj fun k hk=>zM.block k (hx k hk),Step.of_below zM⟩
 clear hj hx HJ
 by_cases cS:jH b ss ms a=true
 ·have HK:=ai (ay W (au a.cells 134));have hmb:Ad b (b.cM+a.used) (bG ss) ms=true:=cS;rw[hmb] at HM;rw[if_pos cS] at hp ⊢;have HP:=ai hp;clear hp hmb cS b1;refine AY (n:=0).1 (callsIn_of_wp Tryz.func169 rfl trivial ?_ rfl);simp only[Tryz.ntmps169,jv,je,nY,Cu,Ct,jW,jV,jw,gY,j5,ie]
  gi_wp2_with (first
   |(refine⟨trivial,rfl,?_⟩;gi_at_call 143;rw[AY];refine HM.out.mono ?_;clear HM;rintro e W1 ⟨rfl,hb1⟩
     have Rk:=HE.out.step (Step.of_below hb1);have u0:=aH Rk.hyk 0 _ rfl;have qg:=(hb1.block W.heap.size (by simp)).trans HK.out;have v0:=aH qg 0 _ rfl;have v1:=aH qg 1 _ rfl;have v2:=aH qg 2 _ rfl;have v3:=aH qg 3 _ rfl;have hjs:=HJ2.out W1 hb1;have HS:=ai hjs.2;obtain⟨fn,tmps,assign,body,hy,hR⟩:=HY.out 0 pre a X W1 hjs.1 Rk.ge HP.out
     clear Rk qg hjs hb1)
   |(refine⟨rfl,?_⟩;refine hR.mono ?_;clear hR;rintro e W2 ⟨X2,hs2,(⟨rfl,S9⟩|⟨rfl,S9⟩)⟩))
  ·go_ret
   exact⟨X2,HS.out.trans hs2,cA ⟨rfl,S9⟩⟩
  ·go_ret
   exact⟨X2,HS.out.trans hs2,.inr ⟨rfl,_,S9⟩⟩
 ·have HK:=ai (ay W (au a.cells 134));have hmb:Ad b (b.cM+a.used) (bG ss) ms=false:=by simpa [jH] using cS
  rw[hmb] at HM;rw[if_neg cS] at hp ⊢;clear hp hmb cS b1 HY;refine AY (n:=0).1 (callsIn_of_wp Tryz.func169 rfl trivial ?_ rfl);simp only[Tryz.ntmps169,jv,je,nY,Cu,Ct,jW,jV,jw,gY,j5,ie]
  gi_wp2_with (first
   |(refine⟨trivial,rfl,?_⟩;gi_at_call 143;rw[AY];refine HM.out.mono ?_;clear HM;rintro e W1 ⟨rfl,hb1⟩
     have Rk:=HE.out.step (Step.of_below hb1);have u0:=aH Rk.hyk 0 _ rfl;have qg:=(hb1.block W.heap.size (by simp)).trans HK.out;have v0:=aH qg 0 _ rfl;have v1:=aH qg 1 _ rfl;have v2:=aH qg 2 _ rfl;have v3:=aH qg 3 _ rfl;have hjs:=HJ2.out W1 hb1;have HS:=ai hjs
     clear Rk qg hjs hb1))
  refine⟨fun _ _=>trivial,?_⟩
  gi_wp2
  go_ret
  exact⟨X,HS.out.2,cA ⟨rfl,by rw[List.append_nil];exact HS.out.1⟩⟩
theorem OW{w:ar}{B:Nat}{a:eA}(lH:Nat)(hm:lH<3)(n:Int)(h:w.heap[B]?=some (au a.cells 134 (0,0))):(w.setCell ⟨B,1+lH,none⟩ (ah ag n)).heap[B]?=some (au (a.put lH n).cells 134 (0,0)):=by
 obtain⟨hk,h⟩:=ak.1 h
 match lH,hm with
 |0,_=>simp[j4,hk,h,A6,eA.put]
 |1,_=>simp[j4,hk,h,A6,eA.put]
 |2,_=>simp[j4,hk,h,A6,eA.put]
theorem Dr{lo hi:Int}{k:Nat}(h:lo+k≤hi):k<(fM lo hi).length∧∀h',(fM lo hi)[k]'h'=lo+k:=by
 constructor
 ·simp[fM];omega
 ·intro h';simp[fM]
theorem Gy{α β:Type}(l:List α)(f:α→List β){k:Nat}(h:k<l.length):(l.take (k+1)).flatMap f=(l.take k).flatMap f++f l[k]:=by
 rw[bN h,List.flatMap_append];simp
theorem P0(b:BB)(men sent marks:aj)(ml:List Mn)(ss:List Int)(ms:List Mk)(w0:ar)(hB:cH b men sent marks ml ss ms w0)(bk yk nk l:Nat)(all:List eA)(J Jx:List eA→(Nat→Prop)→ar→Prop)(hJ:Lag.Abides J)(UI:Lag.B6 J)
  (fr:List Mn) (m:Mn) (r:List Mn) (S5:ml=fr++m::r)
  (ih:∀(a:eA),a.Ok→∀(pre:List eA) (X:Nat→Prop) (W:ar),FY b men sent marks w0 bk yk nk l X W→J pre X W→pre++leaves (jH b ss ms) r (fr.length+1) a <+: all→
   bm aq 169 #[aO a.cells,ah ag ((fr.length+1:Nat):Int),pv bk 0,pv yk 0,pv nk 0] W (O4 J Jx X W pre (leaves (jH b ss ms) r (fr.length+1) a)))
  (a:eA) (ha:a.Ok) (pre:List eA) (X:Nat→Prop) (W:ar) (hE:FY b men sent marks w0 bk yk nk l X W) (hj:J pre X W) (hp:pre++leaves (jH b ss ms) (m::r) fr.length a <+: all) :
  bm aq 169 #[aO a.cells,ah ag fr.length,pv bk 0,pv yk 0,pv nk 0] W (O4 J Jx X W pre (leaves (jH b ss ms) (m::r) fr.length a)):=by
 have hx:=UI _ _ _ hj;have hlen:fr.length<ml.length:=by rw[S5];simp
 have Xp:fr.length<3:=by have:=hB.gV.len;omega
 have hmk:ml[fr.length]=m:=by simp[S5]
 have YR:=hB.gV.mem m (by rw[S5];simp)
 obtain⟨g,off,cap,rfl,ah6,hg,hcm⟩:∃g off cap,men=ae (some ⟨g,off,none⟩) ml.length cap∧(ml.length≤4294967296∧ml.length≤cap)∧g<w0.heap.size∧∀j u,(fF ml)[j]?=some u→w0.cell? ⟨g,off+j,none⟩=some u:=by
  rcases hB.rm with⟨_,h,_⟩|h
  ·omega
  ·exact h
 have hcell:=CH hcm fr.length hlen;rw[hmk] at hcell
 have HC:Hid (∀W',az w0.heap.size w0 W'→W'.cell? ⟨g,off+fr.length*3+1,none⟩=some (ah ag m.lo)∧W'.cell? ⟨g,off+fr.length*3+2,none⟩=some (ah ag m.hi)):=
  ai fun W' hb=>⟨(hb.cell (p:=⟨g,_,none⟩) hg).trans hcell.2.1,(hb.cell (p:=⟨g,_,none⟩) hg).trans hcell.2.2⟩
 clear hcell hcm;have hl3:=hB.gV.len;have HB:=ai hB;have HI:=ai ih;have HP:=ai hp;have HX:=ai hx;have HJ:=ai hJ;have hlv:leaves (jH b ss ms) (m::r) fr.length a=(fM m.lo m.hi).flatMap fun n=>leaves (jH b ss ms) r (fr.length+1) (a.put fr.length n):=rfl;have b1:az W.heap.size W (W.alloc (au a.cells 134)):=(aw _ _).alloc (ax _) _;have UJ:=hE.step (Step.of_below b1);have hj1:J pre X (W.alloc (au a.cells 134)):=hJ _ _ _ _ hj fun k hk=>b1.block k (hx k hk);obtain⟨x0,x1,x2,x3,x4,x5,x6,x7,x8,x9,nS,nR,oO,n4,oK⟩:=bM UJ.mN;obtain⟨c1,c2⟩:=HC.out _ UJ.below;have hXa:¬X W.heap.size:=fun h=>absurd (hx _ h) (by omega);have HE1:=ai UJ;have HE:=ai hE;have HJ1:=ai hj1;have HXa:=ai hXa;clear hB ih hp hx hJ hE UJ hj1 hXa hj;clear hmk S5;generalize ml.length=L at *;generalize fr.length=lH at *;generalize jH b ss ms=ok at *;refine AY (n:=0).1 (callsIn_of_wp Tryz.func169 rfl trivial ?_ rfl);simp only[Tryz.ntmps169,jv,je,nY,Cu,Ct,jW,jV,jw,gY,j5,ie];have i1:(lH:Int)<(L:Int):=by omega
 have i2:(0:Int)≤(lH:Int):=by omega
 have i3:((lH:Int)==(L:Int))=false:=by simp;omega
 gi_wp2
 have w1:IntKind.i64.wrap (lH+1)=((lH+1:Nat):Int):=by rw[eX _ (by omega) (by omega)];omega
 gi_loopw [8] (fun v wr=>∃(k:Nat) (X1:Nat→Prop),v=ah ag (m.lo+k)∧m.lo+k≤m.hi+1∧Step X X1 W wr∧¬X1 W.heap.size∧J (pre++((fM m.lo m.hi).take k).flatMap fun n=>leaves ok r (lH+1) (a.put lH n)) X1 wr∧
   ∃a':eA,(∀n,a'.put lH n=a.put lH n)∧wr.heap[W.heap.size]?=some (au a'.cells 134 (0,0))) (fun v _=>(m.hi+1-intOf v).toNat)
 case atStart=>exact⟨0,X,by simp,by omega,Step.of_below b1,HXa.out,by simpa using HJ1.out,a,fun _=>rfl,ay W _⟩
 case round=>
  obtain⟨k,X1,rfl,hk,hst,wI,hjk,a',ha',hab⟩:=hrel;have Tm:=HE.out.step hst;have N1:Step X X1 W (wr.setCell ⟨W.heap.size,1+lH,none⟩ (ah ag (m.lo+k))):=Hd hst _ (ax _);have Rk:=HE.out.step N1;have KE:=OW lH Xp (m.lo+k) hab;have hcc:a'.put lH (m.lo+k)=a.put lH (m.lo+k):=ha' _;rw[hcc] at KE
  have S9:J (pre++((fM m.lo m.hi).take k).flatMap fun n=>leaves ok r (lH+1) (a.put lH n)) X1 (wr.setCell ⟨W.heap.size,1+lH,none⟩ (ah ag (m.lo+k))):=
   HJ.out _ _ _ _ hjk fun i hi=>bj _ _ _ _ (by rintro rfl;exact wI hi)
  have hx1:=UI _ _ _ hjk;clear x0 x1 x2 x3 x4 x5 x6 x7 x8 x9 nS nR oO n4 oK c1 c2;obtain⟨x0,x1,x2,x3,x4,x5,x6,x7,x8,x9,nS,nR,oO,n4,oK⟩:=bM Tm.mN;obtain⟨c1,c2⟩:=HC.out _ Tm.below;have v0:=aH hab 0 _ rfl;have v1:=aH hab 1 _ rfl;have v2:=aH hab 2 _ rfl;have v3:=aH hab 3 _ rfl
  have vm:∃u,wr.cell? ⟨W.heap.size,1+lH,none⟩=some u:=by
   match lH,Xp with
   |0,_=>exact⟨_,v1⟩
   |1,_=>exact⟨_,v2⟩
   |2,_=>exact⟨_,v3⟩
  obtain⟨um,vm⟩:=vm;have vf:=cN hab (1+lH);have z0:=aH KE 0 _ rfl;have z1:=aH KE 1 _ rfl;have z2:=aH KE 2 _ rfl;have z3:=aH KE 3 _ rfl;have n0:=aH Rk.hnk 0 _ rfl;have hap:=eA.Mj ha lH (n:=m.lo+k) (by omega);have w2:IntKind.i64.wrap (m.lo+(k:Int)+1)=m.lo+((k+1:Nat):Int):=by rw[eX _ (by omega) (by omega)];omega
  by_cases hlt:m.lo+(k:Int)≤m.hi
  ·obtain⟨xu,Xr⟩:=Dr hlt;have Ql:=Gy (fM m.lo m.hi) (fun n=>leaves ok r (lH+1) (a.put lH n)) xu;rw[Xr xu] at Ql
   have hih:=HI.out (a.put lH (m.lo+k)) (hap (by omega)) _ X1 _ Rk S9 (by
    rw[List.append_assoc,←Ql];have:=HP.out;rw[hlv] at this;refine List.IsPrefix.trans ?_ this;rw[List.prefix_append_right_inj];refine⟨((fM m.lo m.hi).drop (k+1)).flatMap fun n=>leaves ok r (lH+1) (a.put lH n),?_⟩
    rw[←List.flatMap_append,List.take_append_drop])
   have HPP:Hid (∀n,(a.put lH (m.lo+k)).put lH n=a.put lH n):=ai fun n=>eA.U7 _ _ _ _;have HIH:=ai hih;have UK:=ai N1;have HF:=ai Ql;have Jp:=ai hlv;have HA:=ai KE;have HX1:=ai hx1;have HN:=ai Rk;have HXX:=ai wI;clear hih N1 Ql Xr S9 Rk Tm hab KE hst hjk wI ha' hcc hlv hx1 hap;generalize a.put lH (m.lo+k)=a2 at *
   gi_wp2_with (first
    |(refine⟨trivial,rfl,?_⟩;gi_at_call 169;rw[AY];refine HIH.out.mono ?_;clear HIH;rintro e W3 ⟨X3,hs3,(⟨rfl,YW⟩|⟨rfl,q,YW⟩)⟩))
   ·go_roundw
    case rel=>
     have acC:W.heap.size<(wr.setCell ⟨W.heap.size,1+lH,none⟩ (ah ag (m.lo+k))).heap.size:=(ak.1 HA.out).1;refine⟨k+1,X3,by simp,by omega,UK.out.trans hs3,fun h=>HXX.out (hs3.old _ acC h),?_,a2,HPP.out,(hs3.same _ acC HXX.out).trans HA.out⟩;rw[HF.out,←List.append_assoc];exact YW
    case measure=>simp[intOf];omega
   ·go_ret
    exact⟨X3,UK.out.trans hs3,.inr ⟨rfl,q,YW⟩⟩
  ·have hmh:m.hi=m.lo+k-1:=by omega
   have hall:(fM m.lo m.hi).take k=fM m.lo m.hi:=cQ (by simp[fM];omega);rw[hall] at hjk;have HJK:=ai hjk;have HS:=ai hst;have Jp:=ai hlv;clear N1 S9 Rk Tm hab KE hst hjk wI ha' hcc hlv hx1 hap hall
   gi_wp2
   go_ret
   rw[Jp.out];exact⟨X1,HS.out,cA ⟨rfl,HJK.out⟩⟩
theorem Sp(b:BB)(men sent marks:aj)(ml:List Mn)(ss:List Int)(ms:List Mk)(w0:ar)(hB:cH b men sent marks ml ss ms w0)(bk yk nk l:Nat)(all:List eA)(J Jx:List eA→(Nat→Prop)→ar→Prop)(hJ:Lag.Abides J)(UI:Lag.B6 J)
  (hY:T8 aq l QG w0.heap.size all J Jx):∀(r fr:List Mn),ml=fr++r→∀(a:eA),a.Ok→∀(pre:List eA) (X:Nat→Prop) (W:ar),FY b men sent marks w0 bk yk nk l X W→J pre X W→pre++leaves (jH b ss ms) r fr.length a <+: all→
   bm aq 169 #[aO a.cells,ah ag fr.length,pv bk 0,pv yk 0,pv nk 0] W (O4 J Jx X W pre (leaves (jH b ss ms) r fr.length a)):=by
 intro r
 induction r with
 |nil=>
  rintro fr rfl a ha pre X W hE hj hp;have e:fr++([]:List Mn)=fr:=List.append_nil _;have:=P1 b men sent marks (fr++[]) ss ms w0 hB bk yk nk l all J Jx hJ UI hY a ha pre X W hE hj (by rw[e];exact hp);rw[e] at this;exact this
 |cons m r ih=>
  intro fr S5 a ha pre X W hE hj hp;refine P0 b men sent marks ml ss ms w0 hB bk yk nk l all J Jx hJ UI fr m r S5 (fun a ha pre X W hE hj hp=>?_) a ha pre X W hE hj hp;have:=ih (fr++[m]) (by rw[S5];simp) a ha pre X W hE hj (by simpa using hp);simpa using this
def fV(a b:List Int):Bool:=decide (a.length<b.length)||(decide (a.length=b.length)&&decide (gp a b<0))
theorem P6(xs ys:List Int)(v1 v2:aj)(w:ar)(h1:Reads w v1 xs.length (xs.map (aD ag)))(h2:Reads w v2 ys.length (ys.map (aD ag))) :
  bm aq 121 #[v1,v2] w fun e w'=>e=aF (aG (fV xs ys))∧w=w':=by
 obtain⟨p1,c1,rfl,_⟩:=aR h1;obtain⟨p2,c2,rfl,_⟩:=aR h2;have hC:=qW xs ys _ _ w h1 h2;have hL:fV xs ys=(decide (xs.length<ys.length)||(decide (xs.length=ys.length)&&decide (gp xs ys<0))):=rfl;have yZ:=CR xs ys;generalize gp xs ys=c at *;generalize fV xs ys=r at *;generalize xs.length=na at *;generalize ys.length=nb at *;have HL:=ai hL;clear hL h1 h2
 by_cases h1:na<nb
 ·have e1:decide (na<nb)=true:=by simp;omega
  have er:r=true:=by rw[HL.out,decide_eq_true h1];rfl
  subst er;have H1:=ai h1;clear h1 hC
  go_enter Tryz.func121,Tryz.ntmps121
  go_wp2
  go_ret
  exact⟨rfl,rfl⟩
 ·by_cases h2:na=nb
  ·subst h2;have er:r=decide (c<0):=by rw[HL.out];simp
   subst er;clear h1 HL;have e1:decide (na<na)=false:=by simp
   have e9:(na==na)=true:=by simp
   go_enter Tryz.func121,Tryz.ntmps121
   go_wp2_with fail
   refine hC.mono ?_;rintro e w7 ⟨rfl,rfl⟩;go_wp2
   go_ret
   exact⟨rfl,rfl⟩
  ·have e1:decide (na<nb)=false:=by simp;omega
   have e2:decide ((na:Int)=(nb:Int))=false:=by simp;omega
   have e3:((na:Int)==(nb:Int))=false:=by simp;omega
   have e4:(na==nb)=false:=by simp;omega
   have er:r=false:=by rw[HL.out,decide_eq_false h1,decide_eq_false h2];rfl
   subst er;clear h1 h2 HL hC
   go_enter Tryz.func121,Tryz.ntmps121
   go_wp2
   go_ret
   exact⟨rfl,rfl⟩
abbrev VL:=aj × List Int
def rG(w:ar)(r:VL):Prop:=Reads w r.1 r.2.length (r.2.map (aD ag))
theorem rG.below{w w':ar}{r:VL}(h:rG w r)(hb:az w.heap.size w w'):rG w' r:=Reads.below h hb
def nz(first:VL)(more:List VL):VL:=more.foldl (fun b x=>if fV x.2 b.2 then x else b) first
theorem Nu(first:VL)(more:List VL)(k:Nat)(hk:k<more.length):nz first (more.take (k+1))=if fV more[k].2 (nz first (more.take k)).2 then more[k] else nz first (more.take k):=by
 unfold nz;rw[bN hk,List.foldl_append];rfl
theorem sF:∀(more:List VL) (first:VL),nz first more=first∨nz first more∈more
 |[],first=>cA rfl
 |x::more,first=>by
  show nz (if fV x.2 first.2=true then x else first) more=first∨nz (if fV x.2 first.2=true then x else first) more∈x::more
  by_cases hl:fV x.2 first.2=true
  ·rw[if_pos hl];rcases sF more x with h|h
   ·rw[h];exact .inr (by simp)
   ·exact .inr (bI _ h)
  ·rw[if_neg hl];rcases sF more first with h|h
   ·exact cA h
   ·exact .inr (bI _ h)
theorem QR(first:VL)(more:List VL)(v:aj)(w:ar)(hf:rG w first)(hm:∀r∈more,rG w r)(hv:Reads w v more.length (more.map (·.1))) :
  bm aq 120 #[.func (.func 121) #[] #[],first.1,v] w fun e w'=>e=aF (nz first more).1∧az w.heap.size w w':=by
 have HSl:Hid (∀r∈first::more,∃p n c,r.1=ae p n c):=ai fun r hr=>by
  have h1:rG w r:=by
   rcases List.mem_cons.1 hr with rfl|h
   ·exact hf
   ·exact hm r h
  obtain⟨p,c,h2,_⟩:=aR h1;exact⟨p,_,c,h2⟩
 obtain⟨pf,nf,cf,Xv⟩:=HSl.out first (by simp)
 rcases hv with⟨rfl,hn,_⟩|⟨g,off,cap,rfl,hn,hg,hc⟩
 ·obtain rfl:=aY hn;clear hn;show bm aq 120 #[.func (.func 121) #[] #[],first.1,ae none 0 0] w fun e w'=>e=aF first.1∧az w.heap.size w w'
  rw[Xv];clear Xv
  go_enter Tryz.func120,Tryz.ntmps120
  go_wp2
  go_loopw [1,11] (fun b i wr=>i=ah ag 0∧b=ae pf nf cf∧az w.heap.size w wr) (fun _ _ _=>0)
  case atStart=>exact⟨rfl,rfl,aw _ _⟩
  case round=>
   obtain⟨rfl,rfl,eh⟩:=hrel;go_wp2
   go_ret
   exact⟨rfl,eh⟩
 ·have HC:=ai hc;have HM:=ai hm;have HF:=ai hf;clear hc hm hf;generalize hL:more.length=L at *;have HL:=ai hL;clear hL;have HFv:=ai Xv;rw[Xv];clear Xv
  go_enter Tryz.func120,Tryz.ntmps120
  go_wp2
  go_loopw [1,8,11] (fun b _ i wr=>∃k:Nat,k≤L∧i=ah ag k∧b=(nz first (more.take k)).1∧az w.heap.size w wr) (fun _ _ i _=>L-(intOf i).toNat)
  case atStart=>exact⟨0,by omega,rfl,HFv.out.symm,aw _ _⟩
  case round=>
   obtain⟨k,hk,rfl,UE,eh⟩:=hrel
   by_cases hlt:k<L
   ·have kh:k<more.length:=by rw[HL.out];exact hlt
    have hcell:wr.cell? ⟨g,off+k,none⟩=some more[k].1:=(eh.cell (p:=⟨g,off+k,none⟩) hg).trans (HC.out k _ (by simp[kh]));have hx:=HM.out more[k] (cu kh);have hst:=Nu first more k kh
    have Qp:rG w (nz first (more.take k)):=by
     rcases sF (more.take k) first with h|h
     ·rw[h];exact HF.out
     ·exact HM.out _ (fj h)
    generalize more[k]=x at *;generalize nz first (more.take k)=bst at *
    obtain⟨p1,c1,e1,_⟩:=aR hx;obtain⟨p2,c2,e2,_⟩:=aR Qp;rw[e2] at UE;subst UE;have hB:=P6 x.2 bst.2 x.1 bst.1 wr (hx.below eh) (Qp.below eh);rw[e1] at hcell;rw[e1,e2] at hB;have hsz:=eh.size;have E1:=ai e1;have E2:=ai e2;clear hx Qp e1 e2;cases hr:fV x.2 bst.2
    all_goals
     rw[hr] at hst hB;have HR:=ai hr;have HST:=ai hst;clear hr hst
     go_wp2_with (go_at_call 121;refine hB.mono ?_;rintro e w2 ⟨rfl,rfl⟩)
     go_roundw
     case rel=>exact⟨k+1,by omega,by go_num,by rw[HST.out];first|exact E1.out.symm|exact E2.out.symm,eh⟩
     case measure=>simp[intOf];omega
   ·obtain rfl:k=L:=by omega
    have sX:more.take k=more:=cQ (by rw[HL.out];exact ax _);rw[sX] at UE;have HBv:=ai UE
    obtain⟨p1,n1,c1,e1⟩:=HSl.out (nz first more) (by
     rcases sF more first with h|h
     ·rw[h];simp
     ·exact bI _ h)
    rw[e1] at UE;subst UE;have E1:=ai e1;clear e1 sX;go_wp2
    go_ret
    exact⟨congrArg Ending.returned E1.out.symm,eh⟩
theorem od(W:ar)(A B C:Array aj)(tA tB tC:aX) :
  (((W.alloc (au A tA)).alloc (au B tB)).alloc (au C tC)).heap[W.heap.size]?=some (au A tA (0,0))∧
  (((W.alloc (au A tA)).alloc (au B tB)).alloc (au C tC)).heap[W.heap.size+1]?=some (au B tB (0,0))∧
  (((W.alloc (au A tA)).alloc (au B tB)).alloc (au C tC)).heap[W.heap.size+2]?=some (au C tC (0,0)):=by
 refine⟨?_,?_,?_⟩
 ·exact(aS _ _ _ (by simp;omega)).trans ((aS _ _ _ (by simp)).trans (ay W _))
 ·refine(aS _ _ _ (by simp)).trans ?_;have:=ay (W.alloc (au A tA)) (au B tB);rwa [dU] at this
 ·have:=ay ((W.alloc (au A tA)).alloc (au B tB)) (au C tC);rwa [dU,dU] at this
theorem GI(b:BB)(men sent marks:aj)(ml:List Mn)(ss:List Int)(ms:List Mk)(w0:ar)(hB:cH b men sent marks ml ss ms w0):Z5 aq 117 #[aO (b.cells men sent marks)] QG (bn b ml ss ms) w0:=by
 intro l J Jx X W hb hX hJ hJx UI af2 hY h0;show bm aq 117 #[aO (b.cells men sent marks),.func (.yield l) #[] #[]] W _;have cS:=hB.ok;have Ri:=cS.leak;have VX:=od W (b.cells men sent marks) #[.func (.yield l) #[] #[]] #[.func (.func 169) #[] #[pv W.heap.size 0,pv (W.heap.size+1) 0,pv (W.heap.size+1+1) 0]] 119 159 181;have hb3:∀A B C,az W.heap.size W (((W.alloc A).alloc B).alloc C):=fun A B C=>(((aw _ W).alloc (ax _) _).alloc (by simp) _).alloc (by simp;omega) _
 have hE0:FY b men sent marks w0 W.heap.size (W.heap.size+1) (W.heap.size+1+1) l X (((W.alloc (au (b.cells men sent marks) 119)).alloc (au #[.func (.yield l) #[] #[]] 159)).alloc (au #[.func (.func 169) #[] #[pv W.heap.size 0,pv (W.heap.size+1) 0,pv (W.heap.size+1+1) 0]] 181)):=
  ⟨hb.trans ((hb3 _ _ _).mono hb.size),VX.1,VX.2.1,VX.2.2,fun h=>by have:=(hX _ h).2;omega,fun h=>by have:=(hX _ h).2;omega,fun h=>by have:=(hX _ h).2;omega,fun k h=>(hX k h).1⟩
 have hS0:=Step.of_below (X:=X) (hb3 (au (b.cells men sent marks) 119) (au #[.func (.yield l) #[] #[]] 159) (au #[.func (.func 169) #[] #[pv W.heap.size 0,pv (W.heap.size+1) 0,pv (W.heap.size+1+1) 0]] 181));have hJ0:=hJ _ _ _ (((W.alloc (au (b.cells men sent marks) 119)).alloc (au #[.func (.yield l) #[] #[]] 159)).alloc (au #[.func (.func 169) #[] #[pv W.heap.size 0,pv (W.heap.size+1) 0,pv (W.heap.size+1+1) 0]] 181)) h0 fun k hk=>(hb3 _ _ _).block k (hX k hk).2
 have hN:=fun(X1:Nat→Prop) (W1:ar) (n:Int) (h1:0≤n) (h2:n≤99) (pre:List eA) (hE:FY b men sent marks w0 W.heap.size (W.heap.size+1) (W.heap.size+1+1) l X1 W1) (hj:J pre X1 W1) (hp:pre++leaves (jH b ss ms) ml 0 ⟨n,0,0,0⟩ <+: bn b ml ss ms)=>
  Sp b men sent marks ml ss ms w0 hB W.heap.size (W.heap.size+1) (W.heap.size+1+1) l (bn b ml ss ms) J Jx hJ UI hY ml [] rfl ⟨n,0,0,0⟩ ⟨⟨h1,by show n≤400;omega⟩,by simp,by simp,by simp⟩ pre X1 W1 hE hj hp
 have HN:=ai hN;have HE0:=ai hE0;have XS:=ai hS0;have HJ0:=ai hJ0;clear VX hb3 hE0 hS0 hJ0 hN hY hJ hJx UI af2 h0 hX hb hB;generalize uj:jH b ss ms=ok at *;have hall:bn b ml ss ms=(fM b.ll b.lm).flatMap fun n=>leaves ok ml 0 ⟨n,0,0,0⟩:=by rw[←uj];rfl
 rw[hall] at HN ⊢;clear hall uj
 go_enter Tryz.func117,Tryz.ntmps117
 go_wp2
 go_loopw [5] (fun v wr=>∃(k:Nat) (X1:Nat→Prop),v=ah ag (b.ll+k)∧b.ll+k≤b.lm+1∧Step X X1 W wr∧FY b men sent marks w0 W.heap.size (W.heap.size+1) (W.heap.size+1+1) l X1 wr∧J (((fM b.ll b.lm).take k).flatMap fun n=>leaves ok ml 0 ⟨n,0,0,0⟩) X1 wr) (fun v _=>(b.lm+1-intOf v).toNat)
 case atStart=>exact⟨0,X,by simp,by omega,XS.out,HE0.out,by simpa using HJ0.out⟩
 case round=>
  obtain⟨k,X1,rfl,hk,hst,Tm,hjk⟩:=hrel;obtain⟨x0,x1,x2,x3,x4,x5,x6,x7,x8,x9,nS,nR,oO,n4,oK⟩:=bM Tm.mN;have n0:=aH Tm.hnk 0 _ rfl;have w2:IntKind.i64.wrap (b.ll+(k:Int)+1)=b.ll+((k+1:Nat):Int):=by rw[eX _ (by omega) (by omega)];omega
  by_cases hlt:b.ll+(k:Int)≤b.lm
  ·obtain⟨xu,Xr⟩:=Dr hlt;have Ql:=Gy (fM b.ll b.lm) (fun n=>leaves ok ml 0 ⟨n,0,0,0⟩) xu;rw[Xr xu] at Ql
   have hih:=HN.out X1 wr (b.ll+k) (by omega) (by omega) _ Tm hjk (by
    rw[←Ql];refine⟨((fM b.ll b.lm).drop (k+1)).flatMap fun n=>leaves ok ml 0 ⟨n,0,0,0⟩,?_⟩
    rw[←List.flatMap_append,List.take_append_drop])
   have HIH:=ai hih;have UK:=ai hst;have HF:=ai Ql;have HEr:=ai Tm;clear hih Ql Xr Tm hst hjk
   go_wp2_with (first
    |(go_at_call 169;refine HIH.out.mono ?_;clear HIH;rintro e W3 ⟨X3,hs3,(⟨rfl,YW⟩|⟨rfl,q,YW⟩)⟩))
   ·go_roundw
    case rel=>
     refine⟨k+1,X3,by simp,by omega,UK.out.trans hs3,HEr.out.step hs3,?_⟩;rw[HF.out];exact YW
    case measure=>simp[intOf];omega
   ·(try simp only[Exit.inBlock,Exit.then]);refine bg (results_none rfl _ _ _) rfl ?_
    exact⟨⟨_,rfl⟩,X3,UK.out.trans hs3,.inr ⟨q,YW⟩⟩
  ·have hall:(fM b.ll b.lm).take k=fM b.ll b.lm:=cQ (by simp[fM];omega);rw[hall] at hjk;have HJK:=ai hjk;have HS:=ai hst;clear Tm hst hjk hall;go_wp2
   go_end0
   exact⟨⟨_,rfl⟩,X1,HS.out,cA HJK.out⟩
end Go.Proofs.YtffladgmkiimjaaGreatDoor
namespace Go.Lag
open Go Go.RowKit
def Whole(A:aj→Prop)(e:aX)(w:ar)(v:aj):Prop:=∀g,v.ownBlock=some g→∃cur,w.heap[g]?=some (.cells cur e (0,0))∧∀u∈cur,A u
theorem Fs{A:aj→Prop}{zs:Array aj}(h:∀u∈zs,A u)(n:Nat):∀u∈fE zs n,A u:=by
 intro u hu;unfold fE at hu;rw[Array.mem_map] at hu;obtain⟨i,hi,rfl⟩:=hu;have hlt:i<n*zs.size:=by simpa using hi
 have kg:0<zs.size:=by
  rcases Nat.eq_zero_or_pos zs.size with h0|h0
  ·rw[h0] at hlt;simp at hlt
  ·exact h0
 have hk:=Nat.mod_lt i kg;rw[getElem!_pos zs _ hk];exact h _ (Array.getElem_mem hk)
theorem Jc{P:aI}(w:ar)(A:aj→Prop)(base:Nat)(t ty e:aX)(i:TypeInfo)(z:aj)(size rJ:Nat)(ht:P.underlying t=some (.slice e))(hi:P.info? e=some i)(hz:i.zero=some z)
  (hsize:i.size=size) (hby:i.bytes=rJ) (hzs:z.cells.size=size) (hsz:0<size)
  (v:aj) (n:Nat) (xs:List aj) (hown:w.ownsRow base e size v n xs)
  (a:cU) (m c:Nat) (news:List aj) (hl:news.length=m*size) (hnews:∀j u,news[j]?=some u→w.cell? (a.add j)=some u) (h1:∀u∈news,u.oneCell'=true)
  (h63:n+m≤jB) (hbytes:(n+m)*rJ≤140737488355328) (hm:0<m)
  (hAz:∀u∈z.cells,A u) (hAn:∀u∈news,A u) (hAv:Whole A e w v) {v':aj} {w':ar}
  (hr:(Builtin.append_ #[t,t] ty #[v,.slice (some a) m c]).run P w=.ok v' w'):Whole A e w' v':=by
 subst hsize;subst hby;have YG:n+m≤9223372036854775807:=by simp only[jB] at h63;omega
 have hAx:∀u∈xs,A u:=by
  intro u hu;rcases hown.2 with⟨rfl,rfl⟩|⟨g,cap,cur,rfl,_,hg,_,_,_,SX⟩
  ·have hx:xs=[]:=aY (by simpa using hown.1);rw[hx] at hu;cases hu
  ·obtain⟨cur',E8,hA⟩:=hAv g rfl;rw[hg] at E8;obtain rfl:cur=cur':=by simpa using E8
   rw[←SX] at hu;exact hA u (by simpa using fj hu)
 have fin:∀(l:List aj) (k:Nat),(∀u∈l,A u)→∀u∈l.toArray++fE z.cells k,A u:=by
  intro l k hl u hu;rw[Array.mem_append] at hu;rcases hu with h|h
  ·exact hl u (by simpa using h)
  ·exact Fs hAz k u h
 rcases hown.2 with⟨rfl,rfl⟩|⟨g,cap,cur,rfl,hbg,hg,vT,hcm,hcs,SX⟩
 ·have hr2:=run_append_nil (P:=P) w t ty e i z ht hi hz a m c news hl hnews hm (by omega) (by have hb:=hbytes;simp only[Nat.zero_add] at hb;omega);rw[hr2] at hr;cases hr;intro g hg;obtain rfl:w.heap.size=g:=by simpa [iY] using hg
  exact⟨_,heap_alloc_new w.drew _,fin _ _ hAn⟩
 ·by_cases hroom:n+m≤cap
  ·have Ta:n*i.size+news.length≤cur.size:=by rw[hl,hcs,←Nat.add_mul];exact Nat.mul_le_mul_right _ hroom
   have hr2:=run_append_room (P:=P) w t ty e i ht hi g n cap cur hg a m c news hl hnews h1 hroom Ta;rw[hr2] at hr;cases hr;intro g' E8;obtain rfl:g=g':=by simpa [iY] using E8
   refine⟨_,setRow_heap w g cur _ e _ hg,?_⟩;obtain⟨cur',hg2,hA⟩:=hAv g rfl;rw[hg] at hg2;obtain rfl:cur=cur':=by simpa using hg2
   intro u hu;simp only[List.mem_toArray,bH] at hu;rcases hu with(h|h)|h
   ·exact hA u (by simpa using fj h)
   ·exact hAn u h
   ·exact hA u (by simpa using List.mem_of_mem_drop h)
  ·have holds:∀j u,xs[j]?=some u→w.cell? ((⟨g,0,none⟩:cU).add j)=some u:=hown.cells (g:=g) rfl;have hr2:=run_append_grow (P:=P) w t ty e i z ht hi hz ⟨g,0,none⟩ n cap xs hown.1 holds a m c news hl hnews (by omega) (by omega) (growslice_fits (by omega) hbytes);rw[hr2] at hr;cases hr;intro g' E8;obtain rfl:w.heap.size=g':=by simpa [iY] using E8
   refine⟨_,heap_alloc_new w.drew _,?_⟩;rw[show xs.toArray++news.toArray=(xs++news).toArray by simp];refine fin _ _ fun u hu=>?_;rw[bH] at hu;exact hu.elim (hAx u) (hAn u)
section
variable{F:Fence}{nF:Nat}{P:aI}(w:ar)
theorem uh{ops:Array Oper}{rest:List Oper}{o:Oper}{a:Act}{Q:Exit→Act→ar→Prop}(hgd:o.guard=none)(s x:Operand)(t:aX)
  (ho:o.op=.call { callee:=.builtin .append,args:=#[s,x],argTypes:=#[t,t] })
  (A:aj→Prop) (base:Nat) (e:aX) (i:TypeInfo) (z:aj) (size rJ:Nat) (ht:P.underlying t=some (.slice e)) (hi:P.info? e=some i) (hz:i.zero=some z)
  (hsize:i.size=size) (hby:i.bytes=rJ) (hzs:z.cells.size=size) (hsz:0<size)
  (v:aj) (n:Nat) (xs:List aj) (hs:a.eval s=v) (hown:w.ownsRow base e size v n xs)
  (ad:cU) (m c:Nat) (news:List aj) (hx:a.eval x=.slice (some ad) m c) (hl:news.length=m*size) (hnews:∀j u,news[j]?=some u→w.cell? (ad.add j)=some u) (h1:∀u∈news,u.oneCell'=true)
  (h63:n+m≤jB) (hbytes:(n+m)*rJ≤140737488355328) (hbase:base≤w.heap.size) (hm:0<m) (hAz:∀u∈z.cells,A u) (hAn:∀u∈news,A u) (hAv:Whole A e w v)
  (h:∀v' w',w'.ownsRow base e size v' (n+m) (xs++news)→w.grownBy w' v.ownBlock→Whole A e w' v'→(v'.ownBlock=v.ownBlock∨v'.ownBlock=some w.heap.size)→wpListIn F nF P ops Q rest (a.put o.dst v') w') :
  wpListIn F nF P ops Q (o::rest) a w:=by
 refine wpListIn_plain hgd fun K hK=>?_;obtain⟨v',w',hr,h2,h3,h4,h5⟩:=run_append_own_at (P:=P) w base t o.type e i z size rJ ht hi hz hsize hby hzs hsz v n xs hown ad m c news hl hnews h1 h63 hbytes hbase;have h6:=Jc w A base t o.type e i z size rJ ht hi hz hsize hby hzs hsz v n xs hown ad m c news hl hnews h1 h63 hbytes hm hAz hAn hAv hr;unfold Oper.wpIn;refine⟨by simp[Oper.about,ho,resolve,Target.leads,Sem.run_pure],?_⟩;rw[Oper.semAt_plain F _ _ (by rw[ho];intro c hc';cases hc')];simp[execOp,ho,resolve,invoke,builtin,hs,hx,hr,Result.andThen];exact hK _ _ (h v' w' h2 h3 h6 h5)
end
end Go.Lag
namespace Go.Proofs.YtffladgmkiimjaaGreatDoor
open Go.RowKit Go.Lag
attribute [local go_sem] Oper.semAt_some
theorem Ot:(Tryz.prog.info? 134).map (fun i=>(i.zero,i.size,i.bytes))=some (some (.agg #[.int .i64 0,.int .i64 0,.int .i64 0,.int .i64 0]),4,32):=by kernel_rfl
def Ud(u:aj):Prop:=∃n,u=.int .i64 n
def gJ(W:ar)(base:Nat)(v:aj)(l:List eA):Prop:=W.ownsRow base 134 4 v l.length (rowOf l)∧Whole Ud 134 W v
theorem SK(x:eA):∀u∈x.cells.toList,Ud u:=by
 intro u hu;simp at hu;rcases hu with rfl|rfl|rfl|rfl<;>exact⟨_,rfl⟩
def aao(n0 B:Nat)(pre:List eA)(X:Nat→Prop)(W:ar):Prop:=
 ∃v,Boxed W B 120 v∧gJ W n0 v pre∧∀k,X k↔(k=B∨some k=v.ownBlock)
theorem fY{W W':ar}{base:Nat}{e:aX}{size:Nat}{v:aj}{k:Nat}{xs:List aj}(h:W.ownsRow base e size v k xs)(hs:∀g,v.ownBlock=some g→W'.heap[g]?=W.heap[g]?):W'.ownsRow base e size v k xs:=by
 refine⟨h.1,?_⟩;rcases h.2 with hn|⟨g,cap,cur,rfl,hb,D9,rest⟩
 ·exact .inl hn
 ·exact .inr ⟨g,cap,cur,rfl,hb,(hs g rfl).trans D9,rest⟩
theorem gJ.at_{W W':ar}{base:Nat}{v:aj}{l:List eA}(h:gJ W base v l)(hs:∀g,v.ownBlock=some g→W'.heap[g]?=W.heap[g]?):gJ W' base v l:=
 ⟨fY h.1 hs,fun g hg=>by obtain⟨cur,h1,h2⟩:=h.2 g hg;exact⟨cur,(hs g hg).trans h1,h2⟩⟩
theorem gJ.base{W:ar}{base base':Nat}{v:aj}{l:List eA}(h:gJ W base v l)(hb:base'≤base):gJ W base' v l:=by
 refine⟨⟨h.1.1,?_⟩,h.2⟩;rcases h.1.2 with hn|⟨g,cap,cur,rfl,hb',rest⟩
 ·exact .inl hn
 ·exact .inr ⟨g,cap,cur,rfl,aN hb hb',rest⟩
theorem gJ.reads{W:ar}{base:Nat}{v:aj}{l:List eA}(h:gJ W base v l)(hl:l.length≤4294967296):Reads W v l.length (rowOf l):=Reads.iT h.1 hl (by rw[h.1.1])
theorem Lq(n0 B:Nat):Lag.Abides (aao n0 B):=by
 rintro pre X W W' ⟨v,h1,h2,h3⟩ hs;exact⟨v,(hs B ((h3 B).2 (.inl rfl))).trans h1,h2.at_ fun g hg=>hs g ((h3 g).2 (.inr hg.symm)),h3⟩
theorem ET(n0 B:Nat):Lag.B6 (aao n0 B):=by
 rintro pre X W ⟨v,h1,h2,h3⟩ k hk;rcases(h3 k).1 hk with rfl|h
 ·exact h1.lt
 ·exact(h2.1.lt k h.symm).2
def adG(n0 B:Nat)(bk:aj)(pre:List eA)(x:eA)(a:Act)(X:Nat→Prop)(W:ar):Prop:=
 ∃k v,a=⟨#[.slice none 0 0,.func (.func 117) #[bk] #[],pv B 0,af,.slice none 0 0,pv k 0,.func (.func 117) #[bk] #[],.agg x.cells,af,af,af,af,af],[]⟩∧
  Boxed W B 120 v∧gJ W n0 v pre∧W.heap[k]?=some (.cells x.cells 134 (0,0))∧(∀j,X j↔(j=B∨j=k∨some j=v.ownBlock))
theorem Lr(n0 B:Nat)(bk:aj)(pre:List eA)(x:eA):Lag.Abides (adG n0 B bk pre x):=by
 rintro a X W W' ⟨k,v,h0,h1,h2,h3,h4⟩ hs;exact⟨k,v,h0,(hs B ((h4 B).2 (.inl rfl))).trans h1,h2.at_ fun g hg=>hs g ((h4 g).2 (.inr (.inr hg.symm))),(hs k ((h4 k).2 (.inr (.inl rfl)))).trans h3,h4⟩
theorem tI{n D:Nat}(W:ar)(o:Obj)(h:n≤D):az n W (W.putObj D o):=⟨rfl,rfl,rfl,by simp,fun k hk=>di (by omega)⟩
theorem Dl(l:List eA)(x:eA):rowOf (l++[x])=rowOf l++x.cells.toList:=by simp[rowOf]
theorem FT(bk:aj)(all:List eA)(hall:all.length≤1000)(w0:ar)(hseq:Z5 aq 117 #[bk] QG all w0)(w:ar)(hb:az w0.heap.size w0 w) :
  bm aq 168 #[.slice none 0 0,.func (.func 117) #[bk] #[]] w fun e w'=>∃v,e=.returned v∧gJ w' w.heap.size v all∧az w.heap.size w w':=by
 obtain⟨i0,hi,hz0,hz1,hz2⟩:=jT Ot;have HSQ:=ai hseq;clear hseq;refine AY (n:=0).1 (callsIn_of_wp_marks Tryz.func168 rfl trivial ?_ rfl);simp only[Tryz.ntmps168,jv,je,nY,Cu,Ct,jW,jV,jw,gY,j5,ie]
 gi_wp2
 have hb1:az w.heap.size w (w.alloc (.cells #[.slice none 0 0] 120)):=(aw _ _).alloc (ax _) _;have hs0:=hb.size
 refine rM (gf:=117) (la:=#[bk]) rfl (enters_of Tryz.func117 (by kernel_rfl) rfl) (encs:=QG) (all:=all) (w0:=w0) HSQ.out (hb.trans (hb1.mono hs0)) (fun _=>rfl) (aao w.heap.size w.heap.size) (fun _ _ _ _=>False) (Lq _ _) (fun _ _ _ _ _ h _=>h) (ET _ _) (fun _ _ _ _ h=>h.elim)
  (fun k=>k=w.heap.size) (by rintro k rfl;exact⟨hs0,by simp⟩) ⟨_,Boxed.new _ _ _,⟨dM _ _ _ _,fun g hg=>by simp[iY] at hg⟩,fun k=>by simp[iY]⟩ (adG w.heap.size w.heap.size bk) (Lr _ _ _) ?rassign ?rbody ?rdone ?rstop
 case rassign=>
  intro l m pre x X1 W K hI hge hpre hK;obtain⟨v,h1,h2,h3⟩:=hI;have hX1:=ET _ _ _ _ _ ⟨v,h1,h2,h3⟩;have HK:=ai hK;clear hK
  gi_wp2
  refine HK.out _ (fun j=>X1 j∨j=W.heap.size) _ ⟨rfl,rfl,rfl,by simp,?_,?_⟩ ⟨W.heap.size,v,rfl,h1.alloc _,h2.at_ (fun g hg=>aS _ _ _ (h2.1.lt g hg).2),ay _ _,fun j=>?_⟩
  ·rintro j hj (h|rfl)
   ·exact h
   ·omega
  ·intro j hj _;exact aS _ _ _ hj
  ·show(X1 j∨j=W.heap.size)↔_;rw[h3];constructor
   ·rintro((h|h)|h)
    ·exact .inl h
    ·exact .inr (.inr h)
    ·exact .inr (.inl h)
   ·rintro(h|h|h)
    ·exact .inl (.inl h)
    ·exact .inr h
    ·exact .inl (.inr h)
 case rbody=>
  rintro l m pre x a' X1 W ⟨k,v,rfl,h1,h2,h3,h4⟩ hge hpre;have hlen:pre.length+1≤1000:=by have:=hpre.length_le;simp at this;omega
  have c0:=aH h3 0 _ rfl;have c1:=aH h3 1 _ rfl;have c2:=aH h3 2 _ rfl;have c3:=aH h3 3 _ rfl;have b0:=h1.cell;have hw1:w.heap.size≤W.heap.size:=Nat.le_of_lt h1.lt
  have HQ2:Hid (∀u∈(Value.agg #[.int .i64 0,.int .i64 0,.int .i64 0,.int .i64 0]).cells,Ud u):=ai fun u hu=>by
   have h:u∈#[aD .i64 0,.int .i64 0,.int .i64 0,.int .i64 0]:=hu;simp at h;exact⟨0,h⟩
  have HQ3:Hid (Whole Ud 134 (W.alloc (.cells x.cells 134)) v):=ai fun g hg=>by
   obtain⟨cur,q1,q2⟩:=h2.2 g hg;exact⟨cur,(aS _ _ _ (h2.1.lt g hg).2).trans q1,q2⟩
  have WM:Hid (∀(j:Nat) (u:aj),x.cells.toList[j]?=some u→(W.alloc (.cells x.cells 134)).cell? ((⟨W.heap.size,0,none⟩:cU).add j)=some u):=ai fun j u hj=>by
   have:=ay W (.cells x.cells 134);have h5:=aH this j u (by simpa using hj);have e:(⟨W.heap.size,0,none⟩:cU).add j=⟨W.heap.size,j,none⟩:=by cases j<;>simp[lG]
   rw[e];exact h5
  gi_wp2_with (first
   |(gi_at_builtin;refine uh _ rfl _ _ 120 rfl Ud w.heap.size 134 i0 (.agg #[.int .i64 0,.int .i64 0,.int .i64 0,.int .i64 0]) 4 32 Tryz.underlying120 hi hz0 hz1 hz2 rfl (by decide) _ _ _ rfl (h2.1.alloc _) ⟨W.heap.size,0,none⟩ 1 1 x.cells.toList rfl rfl WM.out (by simp[cj]) (by unfold jB;omega) (by omega) (by simp;omega) (by decide) HQ2.out (SK x) HQ3.out ?_
     intro v' w1 hown' hgrow hwh hat;obtain⟨p1,p2,p3,p4,p5⟩:=Boxed.appended h1 (by decide) h2.1 hw1 (ax _) hown' hgrow;obtain⟨g',cap',rfl⟩:=ownsRow_succ hown';have f1:=p1.cell;have f2:=p1.frozen;have HO:=ai (And.intro p2 (And.intro p3 (And.intro hgrow (And.intro hat hwh))));have abZ:=p1.not_row (by decide) hown';have HPN:=ai abZ
     clear p2 p3 p4 p5 hown' hgrow hwh hat abZ))
  obtain⟨p2,p3,hgrow,hat,hwh⟩:=HO.out;refine⟨fun j=>j=w.heap.size∨some j=iY (.slice (some ⟨g',0,none⟩) (pre.length+1) cap'),⟨hgrow.os,hgrow.tape,hgrow.output,by have:=hgrow.size;simp at this ⊢;omega,?_,?_⟩,_,p2,?_,fun j=>Iff.rfl⟩
  ·rintro j hj (rfl|h)
   ·exact(h4 _).2 (.inl rfl)
   ·rcases hat with e|e
    ·rw[e] at h;exact(h4 _).2 (.inr (.inr h))
    ·rw[e] at h;simp at h;omega
  ·intro j hj hx;have hx2:=fun h=>hx ((h4 j).2 h);refine(bj _ _ _ _ (fun e=>hx2 (.inl e))).trans ((hgrow.block j (by simp;omega) (fun e=>hx2 (.inr (.inr e)))).trans (aS _ _ _ hj))
  ·refine⟨by rw[Dl,pz];exact p3,fun g hg=>?_⟩;obtain⟨cur,q1,q2⟩:=hwh g hg;exact⟨cur,(bj _ _ _ _ (fun e=>HPN.out ((congrArg some (show w.heap.size=g from e.symm)).trans hg.symm))).trans q1,q2⟩
 case rdone=>
  rintro D X2 W hD hXD hst ⟨v,h1,h2,h3⟩ hK;have b0:=h1.cell;have uo:az w.heap.size w W:=hb1.trans (hst.below (by simp) (by rintro k hk rfl;omega));have HB:=ai uo;have HO:=ai h2;have HK:=ai hK;clear uo h2 h3 hst
  have Qf:(∃n cap,v=.slice none n cap)∨∃g n cap,v=.slice (some g) n cap:=by
   rcases HO.out.1.2 with⟨rfl,_⟩|⟨g,cap,cur,rfl,_⟩
   ·exact .inl ⟨_,_,rfl⟩
   ·exact .inr ⟨_,_,_,rfl⟩
  rcases Qf with⟨n,cap,rfl⟩|⟨g,n,cap,rfl⟩
  all_goals
   gi_wp2
   refine⟨by simp,.inl ⟨_,_,rfl,run_takeDeferred HK.out,?_⟩⟩;exact⟨_,results_tmp rfl _ _ _,_,rfl,HO.out.at_ (fun g hg=>di (fun e=>by obtain⟨cur,q1,_⟩:=HO.out.2 g hg;have hk:=HK.out;rw[←e,q1] at hk;cases hk)),HB.out.trans (tI _ _ (by simp at hD;omega))⟩
 case rstop=>
  rintro D c pre X2 W _ _ _ h;exact h.elim
theorem Dq(lo hi:Int):(fM lo hi).length=(hi+1-lo).toNat:=by simp[fM]
theorem Ei{α β:Type}(f:α→List β)(n:Nat):∀(l:List α),(∀x∈l,(f x).length≤n)→(l.flatMap f).length≤l.length*n
 |[],_=>by simp
 |x::l,h=>by
  have h1:=h x (by simp);have h2:=Ei f n l fun y hy=>h y (by simp[hy]);simp only[List.flatMap_cons,pz,je,Nat.add_mul];omega
theorem DU(ok:eA→Bool):∀(r:List Mn) (lH:Nat) (a:eA),(∀m∈r,m.hi-m.lo<3)→(leaves ok r lH a).length≤3 ^ r.length
 |[],lH,a,_=>by simp only[leaves];split<;>simp
 |m::r,lH,a,h=>by
  have h1:=Ei (fun n=>leaves ok r (lH+1) (a.put lH n)) (3 ^ r.length) (fM m.lo m.hi) fun n _=>DU ok r (lH+1) _ fun m' hm=>h m' (by simp[hm]);have h2:=Dq m.lo m.hi;have h3:=h m (by simp);have h4:(fM m.lo m.hi).length≤3:=by omega
  show((fM m.lo m.hi).flatMap _).length≤_;refine aN h1 ?_;rw[je,Nat.pow_succ,Nat.mul_comm];exact Nat.mul_le_mul_left _ h4
theorem jq{b:BB}{ml:List Mn}(ss:List Int)(ms:List Mk)(hb:b.Ok)(hm:wQ ml):(bn b ml ss ms).length≤81:=by
 have h1:=Ei (fun n=>leaves (jH b ss ms) ml 0 ⟨n,0,0,0⟩) 27 (fM b.ll b.lm) fun n _=>by
  have h2:=DU (jH b ss ms) ml 0 ⟨n,0,0,0⟩ fun m h=>(hm.mem m h).2.2.2.2;have h3:3 ^ ml.length≤3 ^ 3:=Nat.pow_le_pow_right (by omega) hm.len;omega
 have h2:=Dq b.ll b.lm;have h3:=hb.leak;unfold bn;omega
theorem oC(b:BB)(men sent marks:aj)(ml:List Mn)(ss:List Int)(ms:List Mk)(w:ar)(hB:cH b men sent marks ml ss ms w) :
  bm aq 116 #[.func (.func 117) #[.agg (b.cells men sent marks)] #[]] w fun e w'=>∃v,e=.returned v∧gJ w' w.heap.size v (bn b ml ss ms)∧az w.heap.size w w':=by
 have hl:=jq ss ms hB.ok hB.gV;have H:=ai (FT (.agg (b.cells men sent marks)) (bn b ml ss ms) (by omega) w (GI b men sent marks ml ss ms w hB) w (aw _ _));clear hB;generalize bn b ml ss ms=all at *
 go_enter Tryz.func116,Tryz.ntmps116
 go_wp2_with (go_at_call 168;refine H.out.mono ?_;rintro e w' ⟨v,rfl,ho,hb⟩;have HO:=ai ho;clear ho)
 go_ret
 exact⟨v,rfl,HO.out,hb⟩
theorem yz{fn:Func}{t:Tmp}(h:fn.results = #[.cell t 4]){tmps:Array aj}{w:ar}{B:Nat}{z:Bool}(hp:tmps.getD t af=pv B 0)(hc:w.cell? ⟨B,0,none⟩=some (.bool z)) :
  (results fn tmps).run aq w=.ok (.bool z) w:=by
 rw[Array.getD_eq_getD_getElem?] at hp;unfold results;rw[h];simp only[List.mapM_toArray,go_sem];go_simp
theorem JH(b:BB)(men sent marks:aj)(ml:List Mn)(ss:List Int)(ms:List Mk)(w:ar)(hB:cH b men sent marks ml ss ms w) :
  bm aq 119 #[.agg (b.cells men sent marks)] w fun e w'=>e=.returned (.bool (decide (bn b ml ss ms≠[])))∧az w.heap.size w w':=by
 have HSQ:=ai (GI b men sent marks ml ss ms w hB);clear hB;generalize bn b ml ss ms=all at *;refine AY (n:=0).1 (callsIn_of_wp_marks Tryz.func119 rfl trivial ?_ rfl);simp only[Tryz.ntmps119,jv,je,nY,Cu,Ct,jW,jV,jw,gY,j5,ie]
 gi_wp2
 have hb1:az w.heap.size w ((w.alloc (.cells (b.cells men sent marks) 119)).alloc (.cells #[.bool false] 4)):=((aw _ _).alloc (ax _) _).alloc (by simp) _
 have Tg:Boxed ((w.alloc (.cells (b.cells men sent marks) 119)).alloc (.cells #[.bool false] 4)) (w.heap.size+1) 4 (.bool false):=by
  have:=Boxed.new (w.alloc (.cells (b.cells men sent marks) 119)) 4 (.bool false);rwa [dU] at this
 refine rM (gf:=117) (la:=#[.agg (b.cells men sent marks)]) rfl (enters_of Tryz.func117 (by kernel_rfl) rfl) (encs:=QG) (all:=all) (w0:=w) HSQ.out hb1 (fun _=>rfl)
  (fun pre X W=>pre=[]∧Boxed W (w.heap.size+1) 4 (.bool false)∧∀k,X k↔k=w.heap.size+1) (fun c _ X W=>c=.ret∧all≠[]∧Boxed W (w.heap.size+1) 4 (.bool true)∧∀k,X k↔k=w.heap.size+1)
  (fun _ _ _ _ h hs=>⟨h.1,(hs _ ((h.2.2 _).2 rfl)).trans h.2.1,h.2.2⟩) (fun _ _ _ _ _ h hs=>⟨h.1,h.2.1,(hs _ ((h.2.2.2 _).2 rfl)).trans h.2.2.1,h.2.2.2⟩)
  (fun _ _ _ h k hk=>by rw[(h.2.2 k).1 hk];exact h.2.1.lt) (fun _ _ _ _ h k hk=>by rw[(h.2.2.2 k).1 hk];exact h.2.2.1.lt)
  (fun k=>k=w.heap.size+1) (by rintro k rfl;exact⟨by omega,by simp⟩) ⟨rfl,Tg,fun _=>Iff.rfl⟩
  (fun pre x a' X W=>a'=⟨#[.agg (b.cells men sent marks),pv w.heap.size 0,pv (w.heap.size+1) 0,.agg (b.cells men sent marks),.func (.func 117) #[.agg (b.cells men sent marks)] #[],.agg x.cells],[]⟩∧Boxed W (w.heap.size+1) 4 (.bool false)∧∀k,X k↔k=w.heap.size+1)
  (fun _ _ _ _ _ _ h hs=>⟨h.1,(hs _ ((h.2.2 _).2 rfl)).trans h.2.1,h.2.2⟩) ?rassign ?rbody ?rdone ?rstop
 case rassign=>
  rintro l m pre x X1 W K ⟨rfl,h1,h2⟩ hge hpre hK;have HK:=ai hK;clear hK
  gi_wp2
  exact HK.out _ X1 _ (Step.refl _ _) ⟨by simp,h1,h2⟩
 case rbody=>
  rintro l m pre x a' X1 W ⟨rfl,h1,h2⟩ hge hpre;have c0:=h1.cell;have c1:=h1.frozen
  have hne:all≠[]:=by
   rintro rfl;have:=hpre.length_le;simp at this
  have HN:=ai hne;clear hne
  gi_wp2
  refine⟨X1,⟨rfl,rfl,rfl,by simp,fun _ _ h=>h,fun k hk hx=>bj _ _ _ _ (by rintro rfl;exact hx ((h2 _).2 rfl))⟩,rfl,HN.out,h1.set _,h2⟩
 case rdone=>
  rintro D X2 W hD hXD hst ⟨rfl,h1,h2⟩ hK;have b0:=h1.cell;have b1:=h1.frozen;have uo:az w.heap.size w W:=hb1.trans (hst.below (by simp;omega) (by rintro k hk rfl;omega));have HB:=ai uo;have HK:=ai hK;have HH:=ai h1;clear uo h2 hst hK
  gi_wp2
  simp only[dU] at hD;have hlt:=HH.out.lt;refine⟨by simp,.inl ⟨_,_,rfl,run_takeDeferred ((bj _ _ _ _ (by show D≠w.heap.size+1;omega)).trans HK.out),?_⟩⟩;refine⟨_,yz (B:=w.heap.size+1) (z:=false) rfl rfl ((World.cell?_of_block (di (by show w.heap.size+1≠D;omega))).trans (HH.out.set _).cell),by simp,?_⟩;exact(HB.out.setCell (p:=⟨w.heap.size+1,0,none⟩) (by show _≤w.heap.size+1;omega) _).trans (tI _ _ (by omega))
 case rstop=>
  rintro D c pre X2 W hD hXD hst ⟨rfl,hne,h1,h2⟩ hK;have uo:az w.heap.size w W:=hb1.trans (hst.below (by simp;omega) (by rintro k hk rfl;omega));have HB:=ai uo;have HK:=ai hK;have HH:=ai h1;have HN:=ai hne;clear uo h2 hst hK hne h1
  gi_wp2
  simp only[dU] at hD;refine⟨by simp,.inl ⟨_,_,rfl,run_takeDeferred HK.out,?_⟩⟩;refine⟨_,yz (B:=w.heap.size+1) (z:=true) rfl rfl ((World.cell?_of_block (di (by show w.heap.size+1≠D;omega))).trans HH.out.cell),by simp[HN.out],?_⟩;exact HB.out.trans (tI _ _ (by omega))
abbrev gU:Array Value:=#[.int .i64 0,.int .i64 0,.int .i64 0,.int .i64 0,.int .i64 0,.int .i64 0,.int .i64 0,.int .i64 0,.int .i64 0,.int .i64 0,.int .i64 0,.int .i64 0,.slice none 0 0,.slice none 0 0,.slice none 0 0,.slice none 0 0]
theorem cP{w:ar}{B i:Nat}{cs:Array aj}{t:aX}(u:aj)(h:w.heap[B]?=some (.cells cs t (0,0))):(w.setCell ⟨B,i,none⟩ u).heap[B]?=some (.cells (cs.setIfInBounds i u) t (0,0)):=by
 obtain⟨hk,h⟩:=ak.1 h;simp[j4,hk,h,A6]
theorem cV{w:ar}{B:Nat}{cs new:Array aj}{t:aX}(h:w.heap[B]?=some (.cells cs t (0,0))):(w.setRow B new).heap[B]?=some (.cells new t (0,0)):=by
 obtain⟨hk,h⟩:=ak.1 h;simp[World.setRow,hk,h,A6]
theorem setRow_other{w:ar}{B k:Nat}{new:Array aj}(h:k≠B):(w.setRow B new).heap[k]?=w.heap[k]?:=by
 simp[World.setRow,Array.getElem?_modify,Ne.symm h]
theorem setRow_size{w:ar}{B:Nat}{new:Array aj}:(w.setRow B new).heap.size=w.heap.size:=by simp[World.setRow]
theorem dv{n B:Nat}{a w:ar}{new:Array aj}(h:az n a w)(hB:n≤B):az n a (w.setRow B new):=
 ⟨h.os,h.tape,h.output,by rw[setRow_size];exact h.size,fun k hk=>(setRow_other (by omega)).trans (h.block k hk)⟩
theorem results_cell_tmp{fn:Func}{p q:Tmp}{ty:aX}(h:fn.results = #[.cell p ty,.tmp q]){tmps:Array aj}{w:ar}{g:Nat}{cs:Array aj}
  (hp:tmps.getD p af=.pointer (some ⟨g,0,none⟩))
  (hl:(loadVar ty ⟨g,0,none⟩).run aq w=.ok (.agg cs) w) :
  (results fn tmps).run aq w=.ok (.tuple #[.agg cs,tmps.getD q af]) w:=by
 have hp':tmps[p]?.getD af=.pointer (some ⟨g,0,none⟩):=by simpa using hp
 simp[results,h,hp',asAddr,hl]
theorem yI(b:BB)(men sent marks:aj)(ml:List Mn)(ss:List Int)(ms:List Mk)(w:ar)(hL:Laid w)(hB:cH b men sent marks ml ss ms w)(hne:bn b ml ss ms≠[])
  (hown:∀W,az w.heap.size w W→bm aq 122 #[.agg (b.cells men sent marks)] W fun e W'=>e=.returned (.int .i64 0)∧az W.heap.size W W') :
  bm aq 103 #[.agg (b.cells men sent marks),.func (.func 122) #[] #[]] w fun e w'=>∃v,e=.returned (.tuple #[.agg (b.open men sent marks v),.int .i64 0])∧gJ w' w.heap.size v (bn b ml ss ms)∧az w.heap.size w w':=by
 have ug:Hid (∀W,az w.heap.size w W→bm aq 71 #[.agg (b.cells men sent marks)] W fun e w'=>e=.returned (.int .i64 0)∧az W.heap.size W w'):=ai fun W hb=>eY b men sent marks ml ss ms W (hL.below hb) (hB.below hb);have Ul:Hid (∀W,az w.heap.size w W→bm aq 116 #[.func (.func 117) #[.agg (b.cells men sent marks)] #[]] W fun e w'=>∃v,e=.returned v∧gJ w' W.heap.size v (bn b ml ss ms)∧az W.heap.size W w'):=ai fun W hb=>oC b men sent marks ml ss ms W (hB.below hb);have EY:=ai hown;obtain⟨pm,cm,rfl,_⟩:=aR hB.rm;obtain⟨pn,cn,rfl,_⟩:=aR hB.rs;obtain⟨pk,ck,rfl,_⟩:=aR hB.rk;have kg:0<(bn b ml ss ms).length:=List.length_pos_iff.2 hne;clear hL hB hne hown;generalize bn b ml ss ms=all at *;generalize ml.length=lm at *;generalize ss.length=ln at *;generalize ms.length=lk at *;have b0:az w.heap.size w ((w.alloc (.cells (b.cells (.slice pm lm cm) (.slice pn ln cn) (.slice pk lk ck)) 28)).alloc (.cells gU 122)):=((aw _ _).alloc (ax _) _).alloc (by simp) _;have HT:Hid (Two w (b.cells (.slice pm lm cm) (.slice pn ln cn) (.slice pk lk ck)) 28 gU 122 ((w.alloc (.cells (b.cells (.slice pm lm cm) (.slice pn ln cn) (.slice pk lk ck)) 28)).alloc (.cells gU 122))):=ai ⟨(Two.mk' w _ _ _ _).one,(Two.mk' w _ _ _ _).two,b0,by simp⟩;have Jq:=ai b0;clear b0
 go_enter Tryz.func103,Tryz.ntmps103
 go_wp2_with (first
  |(refine wpList_load_row rfl 122 _ rfl _ rfl 122 _ (0,0) _ HL7.out iH rfl (by kernel_rfl) ?_)
  |(refine wpList_store_row rfl 122 _ _ rfl _ _ rfl rfl 122 _ NK.out (by kernel_rfl) rfl (by simp[cj]) ?_)
  |(go_at_call 71;refine(ug.out _ Jq.out).mono ?_;clear ug;rintro e w1 ⟨rfl,hb1⟩
    have rI:=HT.out.next hb1;have oL:=ai rI
    obtain⟨x0,x1,x2,x3,x4,x5,x6,x7,x8,x9,nS,nR,oO,n4,oK⟩:=bM rI.one
    clear rI hb1)
  |(go_at_call 122;refine(EY.out _ (oL.out.below.alloc (by have:=oL.out.size;omega) _)).mono ?_;clear EY;rintro e w2 ⟨rfl,hb2⟩
    have Ce:=(oL.out.next ((aw _ _).alloc (ax _) (.cells (b.open (.slice pm lm cm) (.slice pn ln cn) (.slice pk lk ck) (.slice none 0 0)) 122))).next hb2;have FV:=ai Ce
    have hk2:=(hb2.block w1.heap.size (by simp)).trans (ay w1 _);have FX:=ai hk2;have hs1:=oL.out.size;have hs2:=hb2.size;obtain⟨y0,y1,y2,y3,y4,y5,y6,y7,y8,y9,LR,NS,NQ,NP,Js,G9⟩:=jo hk2
    clear Ce hk2 hb2)
  |(go_at_call 116;refine(Ul.out _ FV.out.below).mono ?_;clear Ul;rintro e w3 ⟨v,rfl,iU,hb3⟩
    have E6:=FV.out.next hb3;have O6:=ai E6;have LB:=ai iU
    simp only[dU] at hs2;have hk3:=(hb3.block w1.heap.size (by omega)).trans FX.out;have HK3:=ai hk3;have hs3:=hb3.size;clear y0 y1 y2 y3 y4 y5 y6 y7 y8 y9 LR NS NQ NP Js G9;have G9:=aH hk3 15 _ rfl;have f7:=cN hk3 15;have o9:=ai hb3
    obtain⟨gv,oF,rfl,D7⟩:∃gv oF,v=.slice (some ⟨gv,0,none⟩) all.length oF∧w2.heap.size≤gv:=by
     rcases iU.1.2 with⟨_,h0⟩|⟨g,cap,cur,rfl,hg,_⟩
     ·omega
     ·exact⟨g,cap,rfl,hg⟩
    have HL7:Hid ((w3.setCell ⟨w1.heap.size,15,none⟩ (.slice (some ⟨gv,0,none⟩) all.length oF)).heap[w1.heap.size]?=some (.cells (b.open (.slice pm lm cm) (.slice pn ln cn) (.slice pk lk ck) (.slice (some ⟨gv,0,none⟩) all.length oF)) 122 (0,0))):=ai (cP _ hk3);have NK:Hid ((w3.setCell ⟨w1.heap.size,15,none⟩ (.slice (some ⟨gv,0,none⟩) all.length oF)).heap[w.heap.size+1]?=some (.cells gU 122 (0,0))):=ai ((bj _ _ _ _ (by show w.heap.size+1≠w1.heap.size;omega)).trans E6.two)
    clear E6 hk3 hb3 iU))
 refine bg (results_cell_tmp (g:=w.heap.size+1) rfl rfl (run_loadVar_row _ _ 122 122 _ (0,0) _ (cV NK.out) iH rfl (by kernel_rfl))) rfl ⟨_,rfl,?_,?_⟩
 ·have hs1:=oL.out.size;refine(LB.out.at_ fun g hg=>?_).base (by omega);have D9:g=gv:=by simpa [iY] using hg.symm
  subst D9;exact(setRow_other (by omega)).trans (bj _ _ _ _ (by show g≠w1.heap.size;omega))
 ·have hs1:=oL.out.size;exact dv (O6.out.below.setCell (p:=⟨w1.heap.size,15,none⟩) (by show _≤w1.heap.size;omega) _) (by omega)
theorem DW:(Tryz.prog.info? 81).map (fun i=>(i.zero,i.size,i.bytes))=some (some (aO #[ah ag 0,ah ag 0,ah ag 0]),3,24):=by kernel_rfl
theorem Yw:(Tryz.prog.info? 79).map (fun i=>(i.zero,i.size,i.bytes))=some (some (aO #[.string ⟨#[]⟩,ah ag 0,ah ag 0]),3,32):=by kernel_rfl
theorem Ni(v:aj)(n:Nat)(xs:List aj)(hl:xs.length=n*3)(h1:∀u∈xs,u.oneCell'=true)(hn:n≤1000)(w:ar)(hv:Reads w v n xs) :
  bm aq 149 #[v] w fun e w'=>∃v',e=aF v'∧w'.ownsRow w.heap.size 81 3 v' n xs∧az w.heap.size w w':=by
 obtain⟨i0,hi,hz0,hz1,hz2⟩:=jT DW;rcases hv with⟨rfl,rfl,rfl⟩|⟨g,off,cap,rfl,Kz,hg,hc⟩
 ·have hq:∀w,(binOp BinOp.eql 26 (mr none 0 0) (mr none 0 0)).run aq w=.ok (aG true) w:=fun w=>by kernel_rfl
  go_enter Tryz.func149,Tryz.ntmps149
  go_wp2
  go_ret
  exact⟨_,rfl,dM _ _ _ _,aw _ _⟩
 ·have O8:Hid (∀j u,xs[j]?=some u→(w.alloc (au #[] 81)).cell? ((⟨g,off,none⟩:cU).add j)=some u):=ai fun j u hj=>by
   have e:(⟨g,off,none⟩:cU).add j=⟨g,off+j,none⟩:=by cases j<;>simp[lG]
   rw[e];exact(dY _ _ _ hg).trans (hc j u hj)
  have HO:=ai h1;have HL:=ai hl;clear hc h1 hl;have hq:∀w,(binOp BinOp.eql 26 (mr (some ⟨g,off,none⟩) n cap) (mr none 0 0)).run aq w=.ok (aG false) w:=fun w=>by kernel_rfl
  go_enter Tryz.func149,Tryz.ntmps149
  go_wp2_with (at_builtin;refine ju _ rfl _ _ 26 rfl w.heap.size 81 i0 (aO #[ah ag 0,ah ag 0,ah ag 0]) 3 24 Tryz.underlying26 hi hz0 hz1 hz2 rfl (by decide) _ _ _ rfl (World.ownsRow_made w #[] 0 (ax _) (by unfold jB;omega) rfl) ⟨g,off,none⟩ n cap xs rfl HL.out O8.out HO.out (by unfold jB;omega) (by omega) (by simp) ?_;intro v' w1 hown hgrow hnil)
  go_ret
  refine⟨_,rfl,by simpa using hown,?_⟩;exact((aw _ _).alloc (ax _) (au #[] 81)).grown hgrow (by simp) fun j hj=>by have h2:w.heap.size=j:=bf hj;omega
theorem TT(v:aj)(n:Nat)(xs:List aj)(hl:xs.length=n*3)(h1:∀u∈xs,u.oneCell'=true)(hn:n≤1000)(w:ar)(hv:Reads w v n xs) :
  bm aq 154 #[v] w fun e w'=>∃v',e=aF v'∧w'.ownsRow w.heap.size 79 3 v' n xs∧az w.heap.size w w':=by
 obtain⟨i0,hi,hz0,hz1,hz2⟩:=jT Yw;rcases hv with⟨rfl,rfl,rfl⟩|⟨g,off,cap,rfl,Kz,hg,hc⟩
 ·have hq:∀w,(binOp BinOp.eql 24 (mr none 0 0) (mr none 0 0)).run aq w=.ok (aG true) w:=fun w=>by kernel_rfl
  go_enter Tryz.func154,Tryz.ntmps154
  go_wp2
  go_ret
  exact⟨_,rfl,dM _ _ _ _,aw _ _⟩
 ·have O8:Hid (∀j u,xs[j]?=some u→(w.alloc (au #[] 79)).cell? ((⟨g,off,none⟩:cU).add j)=some u):=ai fun j u hj=>by
   have e:(⟨g,off,none⟩:cU).add j=⟨g,off+j,none⟩:=by cases j<;>simp[lG]
   rw[e];exact(dY _ _ _ hg).trans (hc j u hj)
  have HO:=ai h1;have HL:=ai hl;clear hc h1 hl;have hq:∀w,(binOp BinOp.eql 24 (mr (some ⟨g,off,none⟩) n cap) (mr none 0 0)).run aq w=.ok (aG false) w:=fun w=>by kernel_rfl
  go_enter Tryz.func154,Tryz.ntmps154
  go_wp2_with (at_builtin;refine ju _ rfl _ _ 24 rfl w.heap.size 79 i0 (aO #[.string ⟨#[]⟩,ah ag 0,ah ag 0]) 3 32 Tryz.underlying24 hi hz0 hz1 hz2 rfl (by decide) _ _ _ rfl (World.ownsRow_made w #[] 0 (ax _) (by unfold jB;omega) rfl) ⟨g,off,none⟩ n cap xs rfl HL.out O8.out HO.out (by unfold jB;omega) (by omega) (by simp) ?_;intro v' w1 hown hgrow hnil)
  go_ret
  refine⟨_,rfl,by simpa using hown,?_⟩;exact((aw _ _).alloc (ax _) (au #[] 79)).grown hgrow (by simp) fun j hj=>by have h2:w.heap.size=j:=bf hj;omega
theorem QL(v:aj)(n:Nat)(xs:List aj)(hl:xs.length=n*1)(h1:∀u∈xs,u.oneCell'=true)(hn:n≤1000)(w:ar)(hv:Reads w v n xs) :
  bm aq 156 #[v] w fun e w'=>∃v',e=aF v'∧w'.ownsRow w.heap.size 3 1 v' n xs∧az w.heap.size w w':=by
 obtain⟨i0,hi,hz0,hz1,hz2⟩:=jT info3;rcases hv with⟨rfl,rfl,rfl⟩|⟨g,off,cap,rfl,Kz,hg,hc⟩
 ·have hq:∀w,(binOp BinOp.eql 25 (mr none 0 0) (mr none 0 0)).run aq w=.ok (aG true) w:=fun w=>by kernel_rfl
  go_enter Tryz.func156,Tryz.ntmps156
  go_wp2
  go_ret
  exact⟨_,rfl,dM _ _ _ _,aw _ _⟩
 ·have O8:Hid (∀j u,xs[j]?=some u→(w.alloc (au #[] 3)).cell? ((⟨g,off,none⟩:cU).add j)=some u):=ai fun j u hj=>by
   have e:(⟨g,off,none⟩:cU).add j=⟨g,off+j,none⟩:=by cases j<;>simp[lG]
   rw[e];exact(dY _ _ _ hg).trans (hc j u hj)
  have HO:=ai h1;have HL:=ai hl;clear hc h1 hl;have hq:∀w,(binOp BinOp.eql 25 (mr (some ⟨g,off,none⟩) n cap) (mr none 0 0)).run aq w=.ok (aG false) w:=fun w=>by kernel_rfl
  go_enter Tryz.func156,Tryz.ntmps156
  go_wp2_with (at_builtin;refine ju _ rfl _ _ 25 rfl w.heap.size 3 i0 (ah ag 0) 1 8 Tryz.underlying25 hi hz0 hz1 hz2 rfl (by decide) _ _ _ rfl (World.ownsRow_made w #[] 0 (ax _) (by unfold jB;omega) rfl) ⟨g,off,none⟩ n cap xs rfl HL.out O8.out HO.out (by unfold jB;omega) (by omega) (by simp) ?_;intro v' w1 hown hgrow hnil)
  go_ret
  refine⟨_,rfl,by simpa using hown,?_⟩;exact((aw _ _).alloc (ax _) (au #[] 3)).grown hgrow (by simp) fun j hj=>by have h2:w.heap.size=j:=bf hj;omega
theorem PX(l:List Mn):∀u∈fF l,u.oneCell'=true:=by
 intro u hu;simp only[fF,List.mem_flatMap] at hu;obtain⟨m,_,hu⟩:=hu;simp at hu;rcases hu with rfl|rfl|rfl<;>rfl
theorem Gk(l:List Mk):∀u∈dm l,u.oneCell'=true:=by
 intro u hu;simp only[dm,List.mem_flatMap] at hu;obtain⟨m,_,hu⟩:=hu;simp at hu;rcases hu with rfl|rfl|rfl<;>rfl
theorem Sb(l:List Int):∀u∈l.map (aD ag),u.oneCell'=true:=by
 intro u hu;simp at hu;obtain⟨x,_,rfl⟩:=hu;rfl
theorem dG{W:ar}{base:Nat}{e:aX}{size:Nat}{v:aj}{n:Nat}{xs:List aj}(h:W.ownsRow base e size v n xs):∃p c,v=ae p n c:=by
 rcases h.2 with⟨rfl,rfl⟩|⟨g,cap,cur,rfl,_⟩
 ·exact⟨_,_,rfl⟩
 ·exact⟨_,_,rfl⟩
structure rH(n:Nat)(a b c:aj):Prop where
 one:∀g,a.ownBlock=some g→n≤g
 two:∀g,b.ownBlock=some g→n≤g
 three:∀g,c.ownBlock=some g→n≤g
theorem rH.base{n m:Nat}{a b c:aj}(h:rH n a b c)(hm:m≤n):rH m a b c:=⟨fun g hg=>aN hm (h.one g hg),fun g hg=>aN hm (h.two g hg),fun g hg=>aN hm (h.three g hg)⟩
theorem Reads.at_{w w':ar}{v:aj}{n:Nat}{xs:List aj}(h:Reads w v n xs)(hs:w.heap.size≤w'.heap.size)(hk:∀g,v.ownBlock=some g→w'.heap[g]?=w.heap[g]?):Reads w' v n xs:=by
 rcases h with h|⟨g,off,cap,h1,h2,h3,h4⟩
 ·exact cA h
 ·exact .inr ⟨g,off,cap,h1,h2,bz h3 hs,fun j u hj=>(World.cell?_of_block (a:=⟨g,off+j,none⟩) (hk g (by rw[h1];rfl))).trans (h4 j u hj)⟩
theorem cH.setRow{b:BB}{m s k:aj}{ml:List Mn}{ss:List Int}{ms:List Mk}{w:ar}{n B:Nat}{cs:Array aj}(h:cH b m s k ml ss ms w)(hf:rH n m s k)(hB:B<n):cH b m s k ml ss ms (w.setRow B cs):=
 ⟨h.ok,h.gV,h.l5,h.kG,h.rm.at_ (by rw[setRow_size];exact ax _) fun g hg=>setRow_other (by have:=hf.one g hg;omega),h.rs.at_ (by rw[setRow_size];exact ax _) fun g hg=>setRow_other (by have:=hf.two g hg;omega),h.rk.at_ (by rw[setRow_size];exact ax _) fun g hg=>setRow_other (by have:=hf.three g hg;omega)⟩
def Typed(w:ar)(v:aj)(t:aX):Prop:=∀g,v.ownBlock=some g→∃cs,w.heap[g]?=some (au cs t (0,0))
structure fq(b:BB)(m s k:aj)(ml:List Mn)(ss:List Int)(ms:List Mk)(w:ar):Prop extends cH b m s k ml ss ms w where
 t1:Typed w m 79
 t2:Typed w s 3
 t3:Typed w k 81
theorem Typed.setRow{w:ar}{v:aj}{t:aX}(h:Typed w v t){B:Nat}{cs:Array aj}(hB:∀g,v.ownBlock=some g→g≠B):Typed (w.setRow B cs) v t:=fun g hg=>by
 obtain⟨c,hc⟩:=h g hg;exact⟨c,(setRow_other (hB g hg)).trans hc⟩
theorem fq.setRow{b:BB}{m s k:aj}{ml:List Mn}{ss:List Int}{ms:List Mk}{w:ar}{n B:Nat}{cs:Array aj}(h:fq b m s k ml ss ms w)(hf:rH n m s k)(hB:B<n):fq b m s k ml ss ms (w.setRow B cs):=
 ⟨h.tocH.setRow hf hB,h.t1.setRow fun g hg=>by have:=hf.one g hg;omega,h.t2.setRow fun g hg=>by have:=hf.two g hg;omega,h.t3.setRow fun g hg=>by have:=hf.three g hg;omega⟩
theorem rh{w:ar}{base:Nat}{e:aX}{size:Nat}{v:aj}{n:Nat}{xs:List aj}(h:w.ownsRow base e size v n xs):Typed w v e:=fun g hg=>by
 rcases h.2 with⟨rfl,_⟩|⟨g',c,cur,rfl,_,h1,_⟩
 ·cases hg
 ·obtain rfl:g'=g:=bf hg;exact⟨cur,h1⟩
theorem cy{w1 w2:ar}{base:Nat}{e:aX}{size:Nat}{v:aj}{n:Nat}{xs:List aj}(h:w1.ownsRow base e size v n xs)(hb:az w1.heap.size w1 w2):w2.ownsRow base e size v n xs:=fY h fun g hg=>hb.block g (h.lt g hg).2
theorem cY{w1:ar}{base:Nat}{e t:aX}{size B i:Nat}{v u:aj}{n:Nat}{xs:List aj}{cs:Array aj}(h:w1.ownsRow base e size v n xs)(hB:w1.heap[B]?=some (au cs t (0,0)))(ht:t≠e):(w1.setCell ⟨B,i,none⟩ u).ownsRow base e size v n xs:=by
 refine fY h fun g hg=>bj _ _ _ _ ?_;show g≠B;rintro rfl;rcases h.2 with⟨rfl,_⟩|⟨g',cap,cur,rfl,_,h1,_⟩
 ·cases hg
 ·have h3:g'=g:=bf hg;subst h3;rw[hB] at h1;cases h1;exact ht rfl
def FU(w:ar)(b:BB)(men sent marks:aj)(Z:Array aj)(A B C:Bool)(w9:ar):Prop:=
 ∃m s k,w9.heap[w.heap.size]?=some (au (b.cells m s k) 28 (0,0))∧(A=false→m=men)∧(B=false→s=sent)∧(C=false→k=marks)∧w9.heap[w.heap.size+1]?=some (au Z 28 (0,0))∧az w.heap.size w w9∧w.heap.size+2≤w9.heap.size
theorem FU.below{w:ar}{b:BB}{men sent marks:aj}{Z:Array aj}{A B C:Bool}{w9:ar}(h:FU w b men sent marks Z A B C w9):az w.heap.size w w9:=by obtain⟨_,_,_,_,_,_,_,_,h,_⟩:=h;exact h
theorem FU.zero{w:ar}{b:BB}{men sent marks:aj}{Z:Array aj}{A B C:Bool}{w9:ar}(h:FU w b men sent marks Z A B C w9):w9.heap[w.heap.size+1]?=some (au Z 28 (0,0)):=by obtain⟨_,_,_,_,_,_,_,h,_,_⟩:=h;exact h
theorem FU.size{w:ar}{b:BB}{men sent marks:aj}{Z:Array aj}{A B C:Bool}{w9:ar}(h:FU w b men sent marks Z A B C w9):w.heap.size+2≤w9.heap.size:=by obtain⟨_,_,_,_,_,_,_,_,_,h⟩:=h;exact h
theorem FU.next{w:ar}{b:BB}{men sent marks:aj}{Z:Array aj}{A B C A' B' C':Bool}{w1 w2:ar}(hA:A'=false→A=false)(hB:B'=false→B=false)(hC:C'=false→C=false)(h:FU w b men sent marks Z A B C w1)(hb:az w1.heap.size w1 w2):FU w b men sent marks Z A' B' C' w2:=by
 obtain⟨m,s,k,h1,h2,h3,h4,h5,h6,h7⟩:=h;exact⟨m,s,k,(hb.block _ (by omega)).trans h1,fun h=>h2 (hA h),fun h=>h3 (hB h),fun h=>h4 (hC h),(hb.block _ (by omega)).trans h5,h6.trans (hb.mono (by omega)),aN h7 hb.size⟩
theorem Vb(b:BB)(men sent marks:aj)(ml:List Mn)(ss:List Int)(ms:List Mk)(w:ar)(hB:cH b men sent marks ml ss ms w) :
  bm aq 157 #[aO (b.cells men sent marks)] w fun e w'=>∃m' s' k',e=aF (aO (b.cells m' s' k'))∧fq b m' s' k' ml ss ms w'∧rH w.heap.size m' s' k'∧az w.heap.size w w':=by
 have Xp:=hB.gV.len;have hk3:=hB.kG.len;have hs3:ss.length≤3:=by have:=hB.l5.len;have:=hB.ok.eT;omega
 obtain⟨pm,cm,rfl,_⟩:=aR hB.rm;obtain⟨pn,cn,rfl,_⟩:=aR hB.rs;obtain⟨pk,ck,rfl,_⟩:=aR hB.rk;have ht:=Two.mk' w (b.cells (ae pm ml.length cm) (ae pn ss.length cn) (ae pk ms.length ck)) 28 #[ah ag 0,ah ag 0,ah ag 0,ah ag 0,ah ag 0,ah ag 0,ah ag 0,ah ag 0,ah ag 0,ah ag 0,ah ag 0,ah ag 0,ae none 0 0,ae none 0 0,ae none 0 0] 28
 go_enter Tryz.func157,Tryz.ntmps157
 go_wp2
 refine Ph.bQ (by kernel_rfl) [
 pV (pv w.heap.size 12),
  pV (ae pm ml.length cm),
  fun v ds w9=>w9.ownsRow (w.heap.size+2) 79 3 v ml.length (fF ml),
  pV (pv w.heap.size 13),
  pV (ae pn ss.length cn),
  fun v ds w9=>w9.ownsRow (w.heap.size+2) 3 1 v ss.length (ss.map (aD ag)),
  pV (pv w.heap.size 14),
  pV (ae pk ms.length ck),
  fun v ds w9=>w9.ownsRow (w.heap.size+2) 81 3 v ms.length (dm ms),
  pV (pv w.heap.size 12),
  fun v ds w9=>∃x s m,ds[1]?=some x∧w9.heap[w.heap.size]?=some (au (b.cells x s m) 28 (0,0)),
  pV (pv w.heap.size 13),
  fun v ds w9=>∃x y m,ds[5]?=some x∧ds[1]?=some y∧w9.heap[w.heap.size]?=some (au (b.cells x y m) 28 (0,0)),
  pV (pv w.heap.size 14),
  fun v ds w9=>∃x y z,ds[5]?=some x∧ds[8]?=some y∧ds[1]?=some z∧w9.heap[w.heap.size]?=some (au (b.cells x y z) 28 (0,0))]
  (fun L w9=>FU w b (ae pm ml.length cm) (ae pn ss.length cn) (ae pk ms.length ck) #[ah ag 0,ah ag 0,ah ag 0,ah ag 0,ah ag 0,ah ag 0,ah ag 0,ah ag 0,ah ag 0,ah ag 0,ah ag 0,ah ag 0,ae none 0 0,ae none 0 0,ae none 0 0] (L 10) (L 12) (L 14) w9) [(1,pv w.heap.size 0)] (by kernel_rfl) ?rst (fun L L2 w1 w2 Ri h hb=>h.next (Ri 10) (Ri 12) (Ri 14) hb) (⟨_,_,_,ht.one,fun _=>rfl,fun _=>rfl,fun _=>rfl,ht.two,ht.below,ht.size⟩) ⟨rfl,trivial⟩ ?reach ?rfin
 case rst=>
  refine⟨Ph.sV,Ph.sV,?_,Ph.sV,Ph.sV,?_,Ph.sV,Ph.sV,?_,Ph.sV,?_,Ph.sV,?_,Ph.sV,?_,trivial⟩
  ·rintro v ds L w1 w2 hS h hb;exact cy h hb
  ·rintro v ds L w1 w2 hS h hb;exact cy h hb
  ·rintro v ds L w1 w2 hS h hb;exact cy h hb
  ·rintro v ds L w1 w2 hS ⟨x,s,m,h1,h2⟩ hb;exact⟨x,s,m,h1,(hb.block _ (ak.1 h2).1).trans h2⟩
  ·rintro v ds L w1 w2 hS ⟨x,s,m,h1,h2,h3⟩ hb;exact⟨x,s,m,h1,h2,(hb.block _ (ak.1 h3).1).trans h3⟩
  ·rintro v ds L w1 w2 hS ⟨x,s,m,h1,h2,h3,h4⟩ hb;exact⟨x,s,m,h1,h2,h3,(hb.block _ (ak.1 h4).1).trans h4⟩
 case reach=>
  refine⟨?_,?_,?_,?_,?_,?_,?_,?_,?_,?_,?_,?_,?_,?_,?_,trivial⟩<;>rintro Lf ev w1 hn uW hS hc hg hf ⟨b1,-⟩ hd
  ·clear hd;refine Ph.yv ?_ rfl;go_simp
  ·have d0:ev (aK 3)=_:=hd.1 rfl;clear hd;obtain⟨m0,s0,k0,hb0,q1,q2,q3,_⟩:=hS;obtain rfl:=q1 (hn 10 (by kernel_rfl));have x:=aH hb0 12 _ rfl;refine Ph.yv ?_ rfl;go_simp
  ·have d1:ev (aK 4)=_:=hd.1 rfl;clear hd;refine Lag.Yields.call (f:=154) (args:=#[ae pm ml.length cm]) ?_ (TT _ ml.length (fF ml) (by rw[vD];omega) (PX ml) (by omega) w1 (hB.rm.below hS.below)) ?_
   ·go_simp
   ·rintro e w2 ⟨v',rfl,ho,hb⟩;exact⟨_,rfl,ownsRow_base ho hS.size,cA hb⟩
  ·clear hd;refine Ph.yv ?_ rfl;go_simp
  ·have d3:ev (aK 6)=_:=hd.1 rfl;clear hd;obtain⟨m0,s0,k0,hb0,q1,q2,q3,_⟩:=hS;obtain rfl:=q2 (hn 12 (by kernel_rfl));have x:=aH hb0 13 _ rfl;refine Ph.yv ?_ rfl;go_simp
  ·have d4:ev (aK 7)=_:=hd.1 rfl;clear hd;refine Lag.Yields.call (f:=156) (args:=#[ae pn ss.length cn]) ?_ (QL _ ss.length (ss.map (aD ag)) (by simp) (Sb ss) (by omega) w1 (hB.rs.below hS.below)) ?_
   ·go_simp
   ·rintro e w2 ⟨v',rfl,ho,hb⟩;exact⟨_,rfl,ownsRow_base ho hS.size,cA hb⟩
  ·clear hd;refine Ph.yv ?_ rfl;go_simp
  ·have d6:ev (aK 9)=_:=hd.1 rfl;clear hd;obtain⟨m0,s0,k0,hb0,q1,q2,q3,_⟩:=hS;obtain rfl:=q3 (hn 14 (by kernel_rfl));have x:=aH hb0 14 _ rfl;refine Ph.yv ?_ rfl;go_simp
  ·have d7:ev (aK 10)=_:=hd.1 rfl;clear hd;refine Lag.Yields.call (f:=149) (args:=#[ae pk ms.length ck]) ?_ (Ni _ ms.length (dm ms) (by rw[nH];omega) (Gk ms) (by omega) w1 (hB.rk.below hS.below)) ?_
   ·go_simp
   ·rintro e w2 ⟨v',rfl,ho,hb⟩;exact⟨_,rfl,ownsRow_base ho hS.size,cA hb⟩
  ·clear hd;refine Ph.yv ?_ rfl;go_simp
  ·have d9:ev (aK 12)=_:=hd.1 rfl;have d2:w1.ownsRow (w.heap.size+2) 79 3 (ev (aK 5)) ml.length (fF ml):=hd.2.1 rfl;clear hd;obtain⟨p5,c5,e5⟩:=dG d2;have hb:=hS.below;have hz:=hS.zero;have hsz:=hS.size;obtain⟨m0,s0,k0,hb0,q1,q2,q3,_⟩:=hS;have c1:=aH hb0 12 _ rfl;have f1:=cN hb0 12;refine Lag.Yields.skip (w':=w1.setCell ⟨w.heap.size,12,none⟩ (ev (aK 5))) ?_ ⟨⟨_,s0,k0,rfl,cP _ hb0⟩,.inr ⟨⟨_,s0,k0,cP _ hb0,(by intro h;simp[Ph.upd] at h),q2,q3,(bj _ _ _ _ (by show _≠w.heap.size;omega)).trans hz,hb.setCell (p:=⟨w.heap.size,12,none⟩) (ax _) _,by simpa using hsz⟩,?_⟩⟩
   ·rw[e5];go_simp
   ·intro j u ds hj hL hp
    match j,hp with
    |0,hp=>exact hp
    |1,hp=>exact hp
    |2,hp=>exact cY hp hb0 (by decide)
    |3,hp=>exact hp
    |4,hp=>exact hp
    |5,hp=>exact cY hp hb0 (by decide)
    |6,hp=>exact hp
    |7,hp=>exact hp
    |8,hp=>exact cY hp hb0 (by decide)
    |9,hp=>exact hp
    |10,_=>exact(hj rfl).elim
    |11,hp=>exact hp
    |12,_=>rw[hn 12 (by kernel_rfl)] at hL;cases hL
    |13,hp=>exact hp
    |14,_=>rw[hn 14 (by kernel_rfl)] at hL;cases hL
    |j+15,_=>trivial
  ·clear hd;refine Ph.yv ?_ rfl;go_simp
  ·have d11:ev (aK 13)=_:=hd.1 rfl;have d5:w1.ownsRow (w.heap.size+2) 3 1 (ev (aK 8)) ss.length (ss.map (aD ag)):=hd.2.1 rfl;have d10:∃x s m,(_:List aj)[1]?=some x∧w1.heap[w.heap.size]?=some (au (b.cells x s m) 28 (0,0)):=hd.2.2.1 rfl;have d1:ev (aK 4)=_:=hd.2.2.2.2.1 rfl;clear hd;obtain⟨p5,c5,e8⟩:=dG d5;have hb:=hS.below;have hz:=hS.zero;have hsz:=hS.size;obtain⟨x,s,m,h1,h2⟩:=d10;obtain⟨m0,s0,k0,hb0,q1,q2,q3,_⟩:=hS;rw[hb0] at h2;cases h2;have c1:=aH hb0 13 _ rfl;have f1:=cN hb0 13;refine Lag.Yields.skip (w':=w1.setCell ⟨w.heap.size,13,none⟩ (ev (aK 8))) ?_ ⟨⟨_,_,_,h1,rfl,cP _ hb0⟩,.inr ⟨⟨_,_,_,cP _ hb0,(fun h=>q1 (by simpa [Ph.upd] using h)),(by intro h;simp[Ph.upd] at h),q3,(bj _ _ _ _ (by show _≠w.heap.size;omega)).trans hz,hb.setCell (p:=⟨w.heap.size,13,none⟩) (ax _) _,by simpa using hsz⟩,?_⟩⟩
   ·rw[e8];go_simp
   ·intro j u ds hj hL hp
    match j,hp with
    |0,hp=>exact hp
    |1,hp=>exact hp
    |2,hp=>exact cY hp hb0 (by decide)
    |3,hp=>exact hp
    |4,hp=>exact hp
    |5,hp=>exact cY hp hb0 (by decide)
    |6,hp=>exact hp
    |7,hp=>exact hp
    |8,hp=>exact cY hp hb0 (by decide)
    |9,hp=>exact hp
    |10,⟨x,s,m,h1,h2⟩=>rw[hb0] at h2;cases h2;exact⟨_,_,_,h1,cP _ hb0⟩
    |11,hp=>exact hp
    |12,_=>exact(hj rfl).elim
    |13,hp=>exact hp
    |14,_=>rw[hn 14 (by kernel_rfl)] at hL;cases hL
    |j+15,_=>trivial
  ·clear hd;refine Ph.yv ?_ rfl;go_simp
  ·have d13:ev (aK 14)=_:=hd.1 rfl;have d8:w1.ownsRow (w.heap.size+2) 81 3 (ev (aK 11)) ms.length (dm ms):=hd.2.1 rfl;have d12:∃x y m,(_:List aj)[5]?=some x∧(_:List aj)[1]?=some y∧w1.heap[w.heap.size]?=some (au (b.cells x y m) 28 (0,0)):=hd.2.2.1 rfl;have d1:ev (aK 4)=_:=hd.2.2.2.2.1 rfl;clear hd;obtain⟨p5,c5,e11⟩:=dG d8;have hb:=hS.below;have hz:=hS.zero;have hsz:=hS.size;obtain⟨x,y,m,h1,h2,h3⟩:=d12;obtain⟨m0,s0,k0,hb0,q1,q2,q3,_⟩:=hS;rw[hb0] at h3;cases h3;have c1:=aH hb0 14 _ rfl;have f1:=cN hb0 14;refine Lag.Yields.skip (w':=w1.setCell ⟨w.heap.size,14,none⟩ (ev (aK 11))) ?_ ⟨⟨_,_,_,h1,h2,rfl,cP _ hb0⟩,.inr ⟨⟨_,_,_,cP _ hb0,(fun h=>q1 (by simpa [Ph.upd] using h)),(fun h=>q2 (by simpa [Ph.upd] using h)),(by intro h;simp[Ph.upd] at h),(bj _ _ _ _ (by show _≠w.heap.size;omega)).trans hz,hb.setCell (p:=⟨w.heap.size,14,none⟩) (ax _) _,by simpa using hsz⟩,?_⟩⟩
   ·rw[e11];go_simp
   ·intro j u ds hj hL hp
    match j,hp with
    |0,hp=>exact hp
    |1,hp=>exact hp
    |2,hp=>exact cY hp hb0 (by decide)
    |3,hp=>exact hp
    |4,hp=>exact hp
    |5,hp=>exact cY hp hb0 (by decide)
    |6,hp=>exact hp
    |7,hp=>exact hp
    |8,hp=>exact cY hp hb0 (by decide)
    |9,hp=>exact hp
    |10,⟨x,s,m,h1,h2⟩=>rw[hb0] at h2;cases h2;exact⟨_,_,_,h1,cP _ hb0⟩
    |11,hp=>exact hp
    |12,⟨x,y,m,h1,h2,h3⟩=>rw[hb0] at h3;cases h3;exact⟨_,_,_,h1,h2,cP _ hb0⟩
    |13,hp=>exact hp
    |14,_=>exact(hj rfl).elim
    |j+15,_=>trivial
 case rfin=>
  intro a2 w2 hR;have hS:=hR.s;have e2:w2.ownsRow (w.heap.size+2) 79 3 (a2.tmps.getD 5 af) ml.length (fF ml):=hR.val 2 (by decide);have e5:w2.ownsRow (w.heap.size+2) 3 1 (a2.tmps.getD 8 af) ss.length (ss.map (aD ag)):=hR.val 5 (by decide);have e8:w2.ownsRow (w.heap.size+2) 81 3 (a2.tmps.getD 11 af) ms.length (dm ms):=hR.val 8 (by decide);obtain⟨x,y,z,h5,h8,h11,mN⟩:=hR.val 14 (by decide);have k1:a2.tmps.getD 1 af=pv w.heap.size 0:=hR.kept (by kernel_rfl);have k2:a2.tmps.getD 2 af=pv (w.heap.size+1) 0:=hR.kept (by kernel_rfl);have k0:a2.tmps.getD 0 af=aO (b.cells (ae pm ml.length cm) (ae pn ss.length cn) (ae pk ms.length ck)):=hR.kept (by kernel_rfl);have ha:=hR.lits 16 rfl;simp only[aU,List.range.loop,List.map] at ha;clear hR;have e5':a2.tmps.getD 5 af=x:=bf h5;have e8':a2.tmps.getD 8 af=y:=bf h8;have ac4:a2.tmps.getD 11 af=z:=bf h11;rw[e5'] at e2;rw[e8'] at e5;rw[ac4] at e8;rw[k0,k1,k2] at ha;generalize a2.tmps.getD=zz at ha;clear k0 k1 k2 h5 h8 h11 e5' e8' ac4;obtain⟨p5,c5,rfl⟩:=dG e2;obtain⟨p8,c8,rfl⟩:=dG e5;obtain⟨Uv,c11,rfl⟩:=dG e8;have HX:=ai mN;have HZ:=ai hS.zero;have EZ:=ai hS.below;have H2:=ai e2;have H5:=ai e5;have H8:=ai e8;have HB:=ai hB;clear mN hS e2 e5 e8 hB ht;subst ha
  go_wp2_with (first
   |(refine wpList_load_row rfl 28 _ rfl _ rfl 28 _ (0,0) _ HX.out cB rfl (by kernel_rfl) ?_)
   |(refine wpList_store_row rfl 28 _ _ rfl _ _ rfl rfl 28 _ HZ.out (by kernel_rfl) rfl (by simp[cj]) ?_))
  refine bg (results_cell_row rfl _ _ (w.heap.size+1) 28 _ (0,0) _ rfl (cV HZ.out) cB rfl (by kernel_rfl)) rfl ⟨_,_,_,rfl,?_,⟨fun g hg=>by have:=(H2.out.lt g hg).1;omega,fun g hg=>by have:=(H5.out.lt g hg).1;omega,fun g hg=>by have:=(H8.out.lt g hg).1;omega⟩,dv EZ.out (by omega)⟩;have hz:=HZ.out;have ns:∀ {e size v n xs},w2.ownsRow (w.heap.size+2) e size v n xs→(w2.setRow (w.heap.size+1) (b.cells (ae p5 ml.length c5) (ae p8 ss.length c8) (ae Uv ms.length c11))).ownsRow (w.heap.size+2) e size v n xs:=fun h=>fY h fun g hg=>setRow_other (by have:=(h.lt g hg).1;omega);exact⟨⟨HB.out.ok,HB.out.gV,HB.out.l5,HB.out.kG,Reads.iT (ns H2.out) (by omega) (by rw[vD];omega),Reads.iT (ns H5.out) (by omega) (by simp),Reads.iT (ns H8.out) (by omega) (by rw[nH];omega)⟩,rh (ns H2.out),rh (ns H5.out),rh (ns H8.out)⟩
def cJ(n mask:Nat):List Nat:=(aU n).filter fun i=>mask.testBit i
def dt(n mask:Nat):List Int:=(cJ n mask).map fun(i:Nat)=>(i:Int)
theorem yG{W:ar}{b1 b2:Nat}{e1 e2:aX}{s1 s2:Nat}{v1 v2:aj}{n1 n2:Nat}{x1 x2:List aj}(h1:W.ownsRow b1 e1 s1 v1 n1 x1)(h2:W.ownsRow b2 e2 s2 v2 n2 x2)(he:e1≠e2){g:Nat}(hg:v1.ownBlock=some g):some g≠v2.ownBlock:=by
 intro h;rcases h1.2 with⟨rfl,_⟩|⟨g1,c1,q1,rfl,_,a1,_⟩
 ·cases hg
 ·rcases h2.2 with⟨rfl,_⟩|⟨g2,c2,q2,rfl,_,a2,_⟩
  ·cases h
  ·obtain rfl:g1=g:=bf hg;obtain rfl:g1=g2:=bf h;rw[a1] at a2;cases a2;exact he rfl
theorem mE{W:ar}{b1:Nat}{e1 t:aX}{s1:Nat}{v1:aj}{n1:Nat}{x1:List aj}{B:Nat}{cs:Array aj}(h1:W.ownsRow b1 e1 s1 v1 n1 x1)(hB:W.heap[B]?=some (au cs t (0,0)))(he:t≠e1):some B≠v1.ownBlock:=by
 intro h;rcases h1.2 with⟨rfl,_⟩|⟨g1,c1,q1,rfl,_,a1,_⟩
 ·cases h
 ·obtain rfl:B=g1:=bf h;rw[hB] at a1;cases a1;exact he rfl
theorem mJ(n mask:Nat):cJ (n+1) mask=cJ n mask++if mask.testBit n then[n] else[]:=by
 unfold cJ;rw[List.range_succ,List.filter_append];cases h:mask.testBit n<;>simp[h]
theorem iO(n mask:Nat):(cJ n mask).length≤n:=by
 have:=List.length_filter_le (fun i=>mask.testBit i) (aU n);simpa [cJ] using this
end Go.Proofs.YtffladgmkiimjaaGreatDoor
