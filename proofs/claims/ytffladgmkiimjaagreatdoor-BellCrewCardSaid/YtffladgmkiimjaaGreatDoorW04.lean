/- LONE WALKS: the best one of several lists of numbers (120, 121). LONE  .. -/
import Derived.Test.YtffladgmkiimjaaGreatDoorW03
import Derived.Test.YtffladgmkiimjaaGreatDoorW02
import Derived.Test.YtffladgmkiimjaaGreatDoorW01
import Derived.Laws.AppendOwn
import Derived.Laws.OwnMore
import Derived.Test.YtffladgmkiimjaaGreatDoorW00
set_option linter.all false
set_option maxHeartbeats 100000000
set_option maxRecDepth 1000000
open Array renaming getElem?_eq_some_iff → ak
open Go renaming TypeId → aZ,undef → af,Value → aj,World → ar,Operand → bH,Calls → bm,bodyPost_ret → bn,Addr → cU,wpList_store_row → fE,wpList_append_own → iA,run_loadVar_row → j0,maxLen → jC,info_parts → jR,wpList_load_row → lT,bytes → rO
open Go.Addr renaming add → kC
open Go.Builtin renaming append_ → j6
open Go.Ending renaming returned → aC
open Go.IntKind renaming i64 → ag
open Go.Lib renaming hid → ai
open Go.Obj renaming cells → au
open Go.Operand renaming tmp → aJ
open Go.Proofs.Tryz renaming prog → aq,underlying28 → cG,underlying25 → gu,underlying122 → iM
open Go.Result renaming andThen_ok → Bb
open Go.RowKit renaming Below → az,Hid → lh
open Go.RowKit.Below renaming heap_alloc → aS,refl → aw,heap_setCell → bj
open Go.Value renaming bool → aF,int → aG,agg → aO,slice → ae,int → ah,pointer → bp,tuple → cA,oneCell' → cu,ownBlock → jc,slice → mE
open Go.World renaming alloc_heap_new → ay,ownsRow_nil → dL,size_alloc → dW,cell?_alloc_lt → eb
open List renaming range → aT,eq_nil_of_length_eq_zero → aY,take_succ_eq_append_getElem → bZ,mem_range → bt,mem_cons_of_mem → bz,length_pos_iff → cQ,map_cons → cg,length_map → dz,map_append → fG,map_nil → fP,size_toArray → jw,mem_flatMap → mG,map → nA,length_append → pJ,range_succ → sQ
open List.range renaming loop → bT
open Nat renaming le_trans → aN,le_refl → ax,lt_of_lt_of_le → bB,zero_add → cJ,zero_le → jS
open Option.some renaming inj → bg
open Or renaming inl → cF
namespace Go.Proofs.YtffladgmkiimjaaGreatDoor
open Go.RowKit Go.Lag
def sg(a b:List Int):Bool:=decide (a.length<b.length)||(decide (a.length=b.length)&&decide (gG a b<0))
theorem Ql(xs ys:List Int)(v1 v2:aj)(w:ar)(h1:Reads w v1 xs.length (xs.map (aG ag)))(h2:Reads w v2 ys.length (ys.map (aG ag))) :
  bm aq 121 #[v1,v2] w fun e w'=>e=aC (aF (sg xs ys))∧w=w':=by
 obtain⟨p1,c1,rfl,_⟩:=aR h1;obtain⟨p2,c2,rfl,_⟩:=aR h2;have hC:=rb xs ys _ _ w h1 h2;have hL:sg xs ys=(decide (xs.length<ys.length)||(decide (xs.length=ys.length)&&decide (gG xs ys<0))):=rfl;have zm:=C7 xs ys;generalize gG xs ys=c at *;generalize sg xs ys=r at *;generalize xs.length=na at *;generalize ys.length=nb at *;have HL:=ai hL;clear hL h1 h2
 by_cases h1:na<nb
 ·have e1:decide (na<nb)=true:=by simp;omega
  have er:r=true:=by rw[HL.out,decide_eq_true h1];rfl
  subst er;have H1:=ai h1;clear h1 hC
  go_enter Tryz.func121,Tryz.ntmps121
  go_wp2
  go_ret
  exact⟨rfl,rfl⟩
 ·by_cases h2:na=nb
  ·subst h2;have er:r=decide (c<0):=by rw[HL.out];simp
   subst er;clear h1 HL;have e1:decide (na<na)=false:=by simp
   have e9:(na==na)=true:=by simp
   go_enter Tryz.func121,Tryz.ntmps121
   go_wp2_with fail
   refine hC.mono ?_;rintro e w7 ⟨rfl,rfl⟩;go_wp2
   go_ret
   exact⟨rfl,rfl⟩
  ·have e1:decide (na<nb)=false:=by simp;omega
   have e2:decide ((na:Int)=(nb:Int))=false:=by simp;omega
   have e3:((na:Int)==(nb:Int))=false:=by simp;omega
   have e4:(na==nb)=false:=by simp;omega
   have er:r=false:=by rw[HL.out,decide_eq_false h1,decide_eq_false h2];rfl
   subst er;clear h1 h2 HL hC
   go_enter Tryz.func121,Tryz.ntmps121
   go_wp2
   go_ret
   exact⟨rfl,rfl⟩
abbrev VL:=aj × List Int
def rL(w:ar)(r:VL):Prop:=Reads w r.1 r.2.length (r.2.map (aG ag))
theorem rL.below{w w':ar}{r:VL}(h:rL w r)(hb:az w.heap.size w w'):rL w' r:=Reads.below h hb
def nD(first:VL)(more:List VL):VL:=more.foldl (fun b x=>if sg x.2 b.2 then x else b) first
theorem NQ(first:VL)(more:List VL)(k:Nat)(hk:k<more.length):nD first (more.take (k+1))=if sg more[k].2 (nD first (more.take k)).2 then more[k] else nD first (more.take k):=by
 unfold nD;rw[bZ hk,List.foldl_append];rfl
theorem sN:∀(more:List VL) (first:VL),nD first more=first∨nD first more∈more
 |[],first=>cF rfl
 |x::more,first=>by
  show nD (if sg x.2 first.2=true then x else first) more=first∨nD (if sg x.2 first.2=true then x else first) more∈x::more
  by_cases hl:sg x.2 first.2=true
  ·rw[if_pos hl];rcases sN more x with h|h
   ·rw[h];exact .inr (by simp)
   ·exact .inr (bz _ h)
  ·rw[if_neg hl];rcases sN more first with h|h
   ·exact cF h
   ·exact .inr (bz _ h)
theorem Rg(first:VL)(more:List VL)(v:aj)(w:ar)(hf:rL w first)(hm:∀r∈more,rL w r)(hv:Reads w v more.length (more.map (·.1))) :
  bm aq 120 #[.func (.func 121) #[] #[],first.1,v] w fun e w'=>e=aC (nD first more).1∧az w.heap.size w w':=by
 have HSl:lh (∀r∈first::more,∃p n c,r.1=ae p n c):=ai fun r hr=>by
  have h1:rL w r:=by
   rcases List.mem_cons.1 hr with rfl|h
   ·exact hf
   ·exact hm r h
  obtain⟨p,c,h2,_⟩:=aR h1;exact⟨p,_,c,h2⟩
 obtain⟨pf,nf,cf,XW⟩:=HSl.out first (by simp)
 rcases hv with⟨rfl,hn,_⟩|⟨g,off,cap,rfl,hn,hg,hc⟩
 ·obtain rfl:=aY hn;clear hn;show bm aq 120 #[.func (.func 121) #[] #[],first.1,ae none 0 0] w fun e w'=>e=aC first.1∧az w.heap.size w w'
  rw[XW];clear XW
  go_enter Tryz.func120,Tryz.ntmps120
  go_wp2
  go_loopw [1,11] (fun b i wr=>i=ah ag 0∧b=ae pf nf cf∧az w.heap.size w wr) (fun _ _ _=>0)
  case atStart=>exact⟨rfl,rfl,aw _ _⟩
  case round=>
   obtain⟨rfl,rfl,dX⟩:=hrel;go_wp2
   go_ret
   exact⟨rfl,dX⟩
 ·have HC:=ai hc;have HM:=ai hm;have HF:=ai hf;clear hc hm hf;generalize hL:more.length=L at *;have HL:=ai hL;clear hL;have HFv:=ai XW;rw[XW];clear XW
  go_enter Tryz.func120,Tryz.ntmps120
  go_wp2
  go_loopw [1,8,11] (fun b _ i wr=>∃k:Nat,k≤L∧i=ah ag k∧b=(nD first (more.take k)).1∧az w.heap.size w wr) (fun _ _ i _=>L-(intOf i).toNat)
  case atStart=>exact⟨0,by omega,rfl,HFv.out.symm,aw _ _⟩
  case round=>
   obtain⟨k,hk,rfl,U3,dX⟩:=hrel
   by_cases hlt:k<L
   ·have ki:k<more.length:=by rw[HL.out];exact hlt
    have hcell:wr.cell? ⟨g,off+k,none⟩=some more[k].1:=(dX.cell (p:=⟨g,off+k,none⟩) hg).trans (HC.out k _ (by simp[ki]));have hx:=HM.out more[k] (List.getElem_mem ki);have hst:=NQ first more k ki
    have QH:rL w (nD first (more.take k)):=by
     rcases sN (more.take k) first with h|h
     ·rw[h];exact HF.out
     ·exact HM.out _ (List.mem_of_mem_take h)
    generalize more[k]=x at *;generalize nD first (more.take k)=bst at *
    obtain⟨p1,c1,e1,_⟩:=aR hx;obtain⟨p2,c2,e2,_⟩:=aR QH;rw[e2] at U3;subst U3;have hB:=Ql x.2 bst.2 x.1 bst.1 wr (hx.below dX) (QH.below dX);rw[e1] at hcell;rw[e1,e2] at hB;have hsz:=dX.size;have E1:=ai e1;have E2:=ai e2;clear hx QH e1 e2;cases hr:sg x.2 bst.2
    all_goals
     rw[hr] at hst hB;have HR:=ai hr;have HST:=ai hst;clear hr hst
     go_wp2_with (go_at_call 121;refine hB.mono ?_;rintro e w2 ⟨rfl,rfl⟩)
     go_roundw
     case rel=>exact⟨k+1,by omega,by go_num,by rw[HST.out];first|exact E1.out.symm|exact E2.out.symm,dX⟩
     case measure=>simp[intOf];omega
   ·obtain rfl:k=L:=by omega
    have tq:more.take k=more:=List.take_of_length_le (by rw[HL.out];exact ax _);rw[tq] at U3;have HBv:=ai U3
    obtain⟨p1,n1,c1,e1⟩:=HSl.out (nD first more) (by
     rcases sN more first with h|h
     ·rw[h];simp
     ·exact bz _ h)
    rw[e1] at U3;subst U3;have E1:=ai e1;clear e1 tq;go_wp2
    go_ret
    exact⟨congrArg Ending.returned E1.out.symm,dX⟩
theorem IV:(Tryz.prog.info? 81).map (fun i=>(i.zero,i.size,i.bytes))=some (some (aO #[ah ag 0,ah ag 0,ah ag 0]),3,24):=by kernel_rfl
theorem Ta:(Tryz.prog.info? 79).map (fun i=>(i.zero,i.size,i.bytes))=some (some (aO #[.string ⟨#[]⟩,ah ag 0,ah ag 0]),3,32):=by kernel_rfl
theorem NG(v:aj)(n:Nat)(xs:List aj)(hl:xs.length=n*3)(h1:∀u∈xs,u.oneCell'=true)(hn:n≤1000)(w:ar)(hv:Reads w v n xs) :
  bm aq 149 #[v] w fun e w'=>∃v',e=aC v'∧w'.ownsRow w.heap.size 81 3 v' n xs∧az w.heap.size w w':=by
 obtain⟨i0,hi,hz0,hz1,hz2⟩:=jR IV;rcases hv with⟨rfl,rfl,rfl⟩|⟨g,off,cap,rfl,KS,hg,hc⟩
 ·have hq:∀w,(binOp BinOp.eql 26 (mE none 0 0) (mE none 0 0)).run aq w=.ok (aF true) w:=fun w=>by kernel_rfl
  go_enter Tryz.func149,Tryz.ntmps149
  go_wp2
  go_ret
  exact⟨_,rfl,dL _ _ _ _,aw _ _⟩
 ·have Pu:lh (∀j u,xs[j]?=some u→(w.alloc (au #[] 81)).cell? ((⟨g,off,none⟩:cU).add j)=some u):=ai fun j u hj=>by
   have e:(⟨g,off,none⟩:cU).add j=⟨g,off+j,none⟩:=by cases j<;>simp[kC]
   rw[e];exact(eb _ _ _ hg).trans (hc j u hj)
  have HO:=ai h1;have HL:=ai hl;clear hc h1 hl;have hq:∀w,(binOp BinOp.eql 26 (mE (some ⟨g,off,none⟩) n cap) (mE none 0 0)).run aq w=.ok (aF false) w:=fun w=>by kernel_rfl
  go_enter Tryz.func149,Tryz.ntmps149
  go_wp2_with (at_builtin;refine iA _ rfl _ _ 26 rfl w.heap.size 81 i0 (aO #[ah ag 0,ah ag 0,ah ag 0]) 3 24 Tryz.underlying26 hi hz0 hz1 hz2 rfl (by decide) _ _ _ rfl (World.ownsRow_made w #[] 0 (ax _) (by unfold jC;omega) rfl) ⟨g,off,none⟩ n cap xs rfl HL.out Pu.out HO.out (by unfold jC;omega) (by omega) (by simp) ?_;intro v' w1 hown hgrow hnil)
  go_ret
  refine⟨_,rfl,by simpa using hown,?_⟩;exact((aw _ _).alloc (ax _) (au #[] 81)).grown hgrow (by simp) fun j hj=>by have h2:w.heap.size=j:=bg hj;omega
theorem Ue(v:aj)(n:Nat)(xs:List aj)(hl:xs.length=n*3)(h1:∀u∈xs,u.oneCell'=true)(hn:n≤1000)(w:ar)(hv:Reads w v n xs) :
  bm aq 154 #[v] w fun e w'=>∃v',e=aC v'∧w'.ownsRow w.heap.size 79 3 v' n xs∧az w.heap.size w w':=by
 obtain⟨i0,hi,hz0,hz1,hz2⟩:=jR Ta;rcases hv with⟨rfl,rfl,rfl⟩|⟨g,off,cap,rfl,KS,hg,hc⟩
 ·have hq:∀w,(binOp BinOp.eql 24 (mE none 0 0) (mE none 0 0)).run aq w=.ok (aF true) w:=fun w=>by kernel_rfl
  go_enter Tryz.func154,Tryz.ntmps154
  go_wp2
  go_ret
  exact⟨_,rfl,dL _ _ _ _,aw _ _⟩
 ·have Pu:lh (∀j u,xs[j]?=some u→(w.alloc (au #[] 79)).cell? ((⟨g,off,none⟩:cU).add j)=some u):=ai fun j u hj=>by
   have e:(⟨g,off,none⟩:cU).add j=⟨g,off+j,none⟩:=by cases j<;>simp[kC]
   rw[e];exact(eb _ _ _ hg).trans (hc j u hj)
  have HO:=ai h1;have HL:=ai hl;clear hc h1 hl;have hq:∀w,(binOp BinOp.eql 24 (mE (some ⟨g,off,none⟩) n cap) (mE none 0 0)).run aq w=.ok (aF false) w:=fun w=>by kernel_rfl
  go_enter Tryz.func154,Tryz.ntmps154
  go_wp2_with (at_builtin;refine iA _ rfl _ _ 24 rfl w.heap.size 79 i0 (aO #[.string ⟨#[]⟩,ah ag 0,ah ag 0]) 3 32 Tryz.underlying24 hi hz0 hz1 hz2 rfl (by decide) _ _ _ rfl (World.ownsRow_made w #[] 0 (ax _) (by unfold jC;omega) rfl) ⟨g,off,none⟩ n cap xs rfl HL.out Pu.out HO.out (by unfold jC;omega) (by omega) (by simp) ?_;intro v' w1 hown hgrow hnil)
  go_ret
  refine⟨_,rfl,by simpa using hown,?_⟩;exact((aw _ _).alloc (ax _) (au #[] 79)).grown hgrow (by simp) fun j hj=>by have h2:w.heap.size=j:=bg hj;omega
theorem Ra(v:aj)(n:Nat)(xs:List aj)(hl:xs.length=n*1)(h1:∀u∈xs,u.oneCell'=true)(hn:n≤1000)(w:ar)(hv:Reads w v n xs) :
  bm aq 156 #[v] w fun e w'=>∃v',e=aC v'∧w'.ownsRow w.heap.size 3 1 v' n xs∧az w.heap.size w w':=by
 obtain⟨i0,hi,hz0,hz1,hz2⟩:=jR info3;rcases hv with⟨rfl,rfl,rfl⟩|⟨g,off,cap,rfl,KS,hg,hc⟩
 ·have hq:∀w,(binOp BinOp.eql 25 (mE none 0 0) (mE none 0 0)).run aq w=.ok (aF true) w:=fun w=>by kernel_rfl
  go_enter Tryz.func156,Tryz.ntmps156
  go_wp2
  go_ret
  exact⟨_,rfl,dL _ _ _ _,aw _ _⟩
 ·have Pu:lh (∀j u,xs[j]?=some u→(w.alloc (au #[] 3)).cell? ((⟨g,off,none⟩:cU).add j)=some u):=ai fun j u hj=>by
   have e:(⟨g,off,none⟩:cU).add j=⟨g,off+j,none⟩:=by cases j<;>simp[kC]
   rw[e];exact(eb _ _ _ hg).trans (hc j u hj)
  have HO:=ai h1;have HL:=ai hl;clear hc h1 hl;have hq:∀w,(binOp BinOp.eql 25 (mE (some ⟨g,off,none⟩) n cap) (mE none 0 0)).run aq w=.ok (aF false) w:=fun w=>by kernel_rfl
  go_enter Tryz.func156,Tryz.ntmps156
  go_wp2_with (at_builtin;refine iA _ rfl _ _ 25 rfl w.heap.size 3 i0 (ah ag 0) 1 8 gu hi hz0 hz1 hz2 rfl (by decide) _ _ _ rfl (World.ownsRow_made w #[] 0 (ax _) (by unfold jC;omega) rfl) ⟨g,off,none⟩ n cap xs rfl HL.out Pu.out HO.out (by unfold jC;omega) (by omega) (by simp) ?_;intro v' w1 hown hgrow hnil)
  go_ret
  refine⟨_,rfl,by simpa using hown,?_⟩;exact((aw _ _).alloc (ax _) (au #[] 3)).grown hgrow (by simp) fun j hj=>by have h2:w.heap.size=j:=bg hj;omega
theorem Qe(l:List Mn):∀u∈dS l,u.oneCell'=true:=by
 intro u hu;simp only[dS,mG] at hu;obtain⟨m,_,hu⟩:=hu;simp at hu;rcases hu with rfl|rfl|rfl<;>rfl
theorem GD(l:List Mk):∀u∈eu l,u.oneCell'=true:=by
 intro u hu;simp only[eu,mG] at hu;obtain⟨m,_,hu⟩:=hu;simp at hu;rcases hu with rfl|rfl|rfl<;>rfl
theorem SB(l:List Int):∀u∈l.map (aG ag),u.oneCell'=true:=by
 intro u hu;simp at hu;obtain⟨x,_,rfl⟩:=hu;rfl
theorem dF{W:ar}{base:Nat}{e:aZ}{size:Nat}{v:aj}{n:Nat}{xs:List aj}(h:W.ownsRow base e size v n xs):∃p c,v=ae p n c:=by
 rcases h.2 with⟨rfl,rfl⟩|⟨g,cap,cur,rfl,_⟩
 ·exact⟨_,_,rfl⟩
 ·exact⟨_,_,rfl⟩
structure rM(n:Nat)(a b c:aj):Prop where
 one:∀g,a.ownBlock=some g→n≤g
 two:∀g,b.ownBlock=some g→n≤g
 three:∀g,c.ownBlock=some g→n≤g
theorem rM.base{n m:Nat}{a b c:aj}(h:rM n a b c)(hm:m≤n):rM m a b c:=⟨fun g hg=>aN hm (h.one g hg),fun g hg=>aN hm (h.two g hg),fun g hg=>aN hm (h.three g hg)⟩
theorem Reads.at_{w w':ar}{v:aj}{n:Nat}{xs:List aj}(h:Reads w v n xs)(hs:w.heap.size≤w'.heap.size)(hk:∀g,v.ownBlock=some g→w'.heap[g]?=w.heap[g]?):Reads w' v n xs:=by
 rcases h with h|⟨g,off,cap,h1,h2,h3,h4⟩
 ·exact cF h
 ·exact .inr ⟨g,off,cap,h1,h2,bB h3 hs,fun j u hj=>(World.cell?_of_block (a:=⟨g,off+j,none⟩) (hk g (by rw[h1];rfl))).trans (h4 j u hj)⟩
theorem cI.setRow{b:BB}{m s k:aj}{ml:List Mn}{ss:List Int}{ms:List Mk}{w:ar}{n B:Nat}{cs:Array aj}(h:cI b m s k ml ss ms w)(hf:rM n m s k)(hB:B<n):cI b m s k ml ss ms (w.setRow B cs):=
 ⟨h.ok,h.gX,h.l9,h.kE,h.rm.at_ (by rw[setRow_size];exact ax _) fun g hg=>setRow_other (by have:=hf.one g hg;omega),h.rs.at_ (by rw[setRow_size];exact ax _) fun g hg=>setRow_other (by have:=hf.two g hg;omega),h.rk.at_ (by rw[setRow_size];exact ax _) fun g hg=>setRow_other (by have:=hf.three g hg;omega)⟩
def Typed(w:ar)(v:aj)(t:aZ):Prop:=∀g,v.ownBlock=some g→∃cs,w.heap[g]?=some (au cs t (0,0))
structure fB(b:BB)(m s k:aj)(ml:List Mn)(ss:List Int)(ms:List Mk)(w:ar):Prop extends cI b m s k ml ss ms w where
 t1:Typed w m 79
 t2:Typed w s 3
 t3:Typed w k 81
theorem Typed.setRow{w:ar}{v:aj}{t:aZ}(h:Typed w v t){B:Nat}{cs:Array aj}(hB:∀g,v.ownBlock=some g→g≠B):Typed (w.setRow B cs) v t:=fun g hg=>by
 obtain⟨c,hc⟩:=h g hg;exact⟨c,(setRow_other (hB g hg)).trans hc⟩
theorem fB.setRow{b:BB}{m s k:aj}{ml:List Mn}{ss:List Int}{ms:List Mk}{w:ar}{n B:Nat}{cs:Array aj}(h:fB b m s k ml ss ms w)(hf:rM n m s k)(hB:B<n):fB b m s k ml ss ms (w.setRow B cs):=
 ⟨h.tocI.setRow hf hB,h.t1.setRow fun g hg=>by have:=hf.one g hg;omega,h.t2.setRow fun g hg=>by have:=hf.two g hg;omega,h.t3.setRow fun g hg=>by have:=hf.three g hg;omega⟩
theorem ru{w:ar}{base:Nat}{e:aZ}{size:Nat}{v:aj}{n:Nat}{xs:List aj}(h:w.ownsRow base e size v n xs):Typed w v e:=fun g hg=>by
 rcases h.2 with⟨rfl,_⟩|⟨g',c,cur,rfl,_,h1,_⟩
 ·cases hg
 ·obtain rfl:g'=g:=bg hg;exact⟨cur,h1⟩
theorem cX{w1 w2:ar}{base:Nat}{e:aZ}{size:Nat}{v:aj}{n:Nat}{xs:List aj}(h:w1.ownsRow base e size v n xs)(hb:az w1.heap.size w1 w2):w2.ownsRow base e size v n xs:=fY h fun g hg=>hb.block g (h.lt g hg).2
theorem di{w1:ar}{base:Nat}{e t:aZ}{size B i:Nat}{v u:aj}{n:Nat}{xs:List aj}{cs:Array aj}(h:w1.ownsRow base e size v n xs)(hB:w1.heap[B]?=some (au cs t (0,0)))(ht:t≠e):(w1.setCell ⟨B,i,none⟩ u).ownsRow base e size v n xs:=by
 refine fY h fun g hg=>bj _ _ _ _ ?_;show g≠B;rintro rfl;rcases h.2 with⟨rfl,_⟩|⟨g',cap,cur,rfl,_,h1,_⟩
 ·cases hg
 ·have h3:g'=g:=bg hg;subst h3;rw[hB] at h1;cases h1;exact ht rfl
def F7(w:ar)(b:BB)(men sent marks:aj)(Z:Array aj)(A B C:Bool)(w9:ar):Prop:=
 ∃m s k,w9.heap[w.heap.size]?=some (au (b.cells m s k) 28 (0,0))∧(A=false→m=men)∧(B=false→s=sent)∧(C=false→k=marks)∧w9.heap[w.heap.size+1]?=some (au Z 28 (0,0))∧az w.heap.size w w9∧w.heap.size+2≤w9.heap.size
theorem F7.below{w:ar}{b:BB}{men sent marks:aj}{Z:Array aj}{A B C:Bool}{w9:ar}(h:F7 w b men sent marks Z A B C w9):az w.heap.size w w9:=by obtain⟨_,_,_,_,_,_,_,_,h,_⟩:=h;exact h
theorem F7.zero{w:ar}{b:BB}{men sent marks:aj}{Z:Array aj}{A B C:Bool}{w9:ar}(h:F7 w b men sent marks Z A B C w9):w9.heap[w.heap.size+1]?=some (au Z 28 (0,0)):=by obtain⟨_,_,_,_,_,_,_,h,_,_⟩:=h;exact h
theorem F7.size{w:ar}{b:BB}{men sent marks:aj}{Z:Array aj}{A B C:Bool}{w9:ar}(h:F7 w b men sent marks Z A B C w9):w.heap.size+2≤w9.heap.size:=by obtain⟨_,_,_,_,_,_,_,_,_,h⟩:=h;exact h
theorem F7.next{w:ar}{b:BB}{men sent marks:aj}{Z:Array aj}{A B C A' B' C':Bool}{w1 w2:ar}(hA:A'=false→A=false)(hB:B'=false→B=false)(hC:C'=false→C=false)(h:F7 w b men sent marks Z A B C w1)(hb:az w1.heap.size w1 w2):F7 w b men sent marks Z A' B' C' w2:=by
 obtain⟨m,s,k,h1,h2,h3,h4,h5,h6,h7⟩:=h;exact⟨m,s,k,(hb.block _ (by omega)).trans h1,fun h=>h2 (hA h),fun h=>h3 (hB h),fun h=>h4 (hC h),(hb.block _ (by omega)).trans h5,h6.trans (hb.mono (by omega)),aN h7 hb.size⟩
theorem VA(b:BB)(men sent marks:aj)(ml:List Mn)(ss:List Int)(ms:List Mk)(w:ar)(hB:cI b men sent marks ml ss ms w) :
  bm aq 157 #[aO (b.cells men sent marks)] w fun e w'=>∃m' s' k',e=aC (aO (b.cells m' s' k'))∧fB b m' s' k' ml ss ms w'∧rM w.heap.size m' s' k'∧az w.heap.size w w':=by
 have XR:=hB.gX.len;have hk3:=hB.kE.len;have hs3:ss.length≤3:=by have:=hB.l9.len;have:=hB.ok.dc;omega
 obtain⟨pm,cm,rfl,_⟩:=aR hB.rm;obtain⟨pn,cn,rfl,_⟩:=aR hB.rs;obtain⟨pk,ck,rfl,_⟩:=aR hB.rk;have ht:=Two.mk' w (b.cells (ae pm ml.length cm) (ae pn ss.length cn) (ae pk ms.length ck)) 28 #[ah ag 0,ah ag 0,ah ag 0,ah ag 0,ah ag 0,ah ag 0,ah ag 0,ah ag 0,ah ag 0,ah ag 0,ah ag 0,ah ag 0,ae none 0 0,ae none 0 0,ae none 0 0] 28
 go_enter Tryz.func157,Tryz.ntmps157
 go_wp2
 refine Ph.bQ (by kernel_rfl) [
 pV (pv w.heap.size 12),
  pV (ae pm ml.length cm),
  fun v ds w9=>w9.ownsRow (w.heap.size+2) 79 3 v ml.length (dS ml),
  pV (pv w.heap.size 13),
  pV (ae pn ss.length cn),
  fun v ds w9=>w9.ownsRow (w.heap.size+2) 3 1 v ss.length (ss.map (aG ag)),
  pV (pv w.heap.size 14),
  pV (ae pk ms.length ck),
  fun v ds w9=>w9.ownsRow (w.heap.size+2) 81 3 v ms.length (eu ms),
  pV (pv w.heap.size 12),
  fun v ds w9=>∃x s m,ds[1]?=some x∧w9.heap[w.heap.size]?=some (au (b.cells x s m) 28 (0,0)),
  pV (pv w.heap.size 13),
  fun v ds w9=>∃x y m,ds[5]?=some x∧ds[1]?=some y∧w9.heap[w.heap.size]?=some (au (b.cells x y m) 28 (0,0)),
  pV (pv w.heap.size 14),
  fun v ds w9=>∃x y z,ds[5]?=some x∧ds[8]?=some y∧ds[1]?=some z∧w9.heap[w.heap.size]?=some (au (b.cells x y z) 28 (0,0))]
  (fun L w9=>F7 w b (ae pm ml.length cm) (ae pn ss.length cn) (ae pk ms.length ck) #[ah ag 0,ah ag 0,ah ag 0,ah ag 0,ah ag 0,ah ag 0,ah ag 0,ah ag 0,ah ag 0,ah ag 0,ah ag 0,ah ag 0,ae none 0 0,ae none 0 0,ae none 0 0] (L 10) (L 12) (L 14) w9) [(1,pv w.heap.size 0)] (by kernel_rfl) ?rst (fun L L2 w1 w2 RB h hb=>h.next (RB 10) (RB 12) (RB 14) hb) (⟨_,_,_,ht.one,fun _=>rfl,fun _=>rfl,fun _=>rfl,ht.two,ht.below,ht.size⟩) ⟨rfl,trivial⟩ ?reach ?rfin
 case rst=>
  refine⟨Ph.sV,Ph.sV,?_,Ph.sV,Ph.sV,?_,Ph.sV,Ph.sV,?_,Ph.sV,?_,Ph.sV,?_,Ph.sV,?_,trivial⟩
  ·rintro v ds L w1 w2 hS h hb;exact cX h hb
  ·rintro v ds L w1 w2 hS h hb;exact cX h hb
  ·rintro v ds L w1 w2 hS h hb;exact cX h hb
  ·rintro v ds L w1 w2 hS ⟨x,s,m,h1,h2⟩ hb;exact⟨x,s,m,h1,(hb.block _ (ak.1 h2).1).trans h2⟩
  ·rintro v ds L w1 w2 hS ⟨x,s,m,h1,h2,h3⟩ hb;exact⟨x,s,m,h1,h2,(hb.block _ (ak.1 h3).1).trans h3⟩
  ·rintro v ds L w1 w2 hS ⟨x,s,m,h1,h2,h3,h4⟩ hb;exact⟨x,s,m,h1,h2,h3,(hb.block _ (ak.1 h4).1).trans h4⟩
 case reach=>
  refine⟨?_,?_,?_,?_,?_,?_,?_,?_,?_,?_,?_,?_,?_,?_,?_,trivial⟩<;>rintro Lf ev w1 hn vg hS hc hg hf ⟨b1,-⟩ hd
  ·clear hd;refine Ph.yv ?_ rfl;go_simp
  ·have d0:ev (aJ 3)=_:=hd.1 rfl;clear hd;obtain⟨m0,s0,k0,hb0,q1,q2,q3,_⟩:=hS;obtain rfl:=q1 (hn 10 (by kernel_rfl));have x:=aH hb0 12 _ rfl;refine Ph.yv ?_ rfl;go_simp
  ·have d1:ev (aJ 4)=_:=hd.1 rfl;clear hd;refine Lag.Yields.call (f:=154) (args:=#[ae pm ml.length cm]) ?_ (Ue _ ml.length (dS ml) (by rw[rW];omega) (Qe ml) (by omega) w1 (hB.rm.below hS.below)) ?_
   ·go_simp
   ·rintro e w2 ⟨v',rfl,ho,hb⟩;exact⟨_,rfl,ownsRow_base ho hS.size,cF hb⟩
  ·clear hd;refine Ph.yv ?_ rfl;go_simp
  ·have d3:ev (aJ 6)=_:=hd.1 rfl;clear hd;obtain⟨m0,s0,k0,hb0,q1,q2,q3,_⟩:=hS;obtain rfl:=q2 (hn 12 (by kernel_rfl));have x:=aH hb0 13 _ rfl;refine Ph.yv ?_ rfl;go_simp
  ·have d4:ev (aJ 7)=_:=hd.1 rfl;clear hd;refine Lag.Yields.call (f:=156) (args:=#[ae pn ss.length cn]) ?_ (Ra _ ss.length (ss.map (aG ag)) (by simp) (SB ss) (by omega) w1 (hB.rs.below hS.below)) ?_
   ·go_simp
   ·rintro e w2 ⟨v',rfl,ho,hb⟩;exact⟨_,rfl,ownsRow_base ho hS.size,cF hb⟩
  ·clear hd;refine Ph.yv ?_ rfl;go_simp
  ·have d6:ev (aJ 9)=_:=hd.1 rfl;clear hd;obtain⟨m0,s0,k0,hb0,q1,q2,q3,_⟩:=hS;obtain rfl:=q3 (hn 14 (by kernel_rfl));have x:=aH hb0 14 _ rfl;refine Ph.yv ?_ rfl;go_simp
  ·have d7:ev (aJ 10)=_:=hd.1 rfl;clear hd;refine Lag.Yields.call (f:=149) (args:=#[ae pk ms.length ck]) ?_ (NG _ ms.length (eu ms) (by rw[rX];omega) (GD ms) (by omega) w1 (hB.rk.below hS.below)) ?_
   ·go_simp
   ·rintro e w2 ⟨v',rfl,ho,hb⟩;exact⟨_,rfl,ownsRow_base ho hS.size,cF hb⟩
  ·clear hd;refine Ph.yv ?_ rfl;go_simp
  ·have d9:ev (aJ 12)=_:=hd.1 rfl;have d2:w1.ownsRow (w.heap.size+2) 79 3 (ev (aJ 5)) ml.length (dS ml):=hd.2.1 rfl;clear hd;obtain⟨p5,c5,e5⟩:=dF d2;have hb:=hS.below;have hz:=hS.zero;have hsz:=hS.size;obtain⟨m0,s0,k0,hb0,q1,q2,q3,_⟩:=hS;have c1:=aH hb0 12 _ rfl;have f1:=cM hb0 12;refine Lag.Yields.skip (w':=w1.setCell ⟨w.heap.size,12,none⟩ (ev (aJ 5))) ?_ ⟨⟨_,s0,k0,rfl,cP _ hb0⟩,.inr ⟨⟨_,s0,k0,cP _ hb0,(by intro h;simp[Ph.upd] at h),q2,q3,(bj _ _ _ _ (by show _≠w.heap.size;omega)).trans hz,hb.setCell (p:=⟨w.heap.size,12,none⟩) (ax _) _,by simpa using hsz⟩,?_⟩⟩
   ·rw[e5];go_simp
   ·intro j u ds hj hL hp
    match j,hp with
    |0,hp=>exact hp
    |1,hp=>exact hp
    |2,hp=>exact di hp hb0 (by decide)
    |3,hp=>exact hp
    |4,hp=>exact hp
    |5,hp=>exact di hp hb0 (by decide)
    |6,hp=>exact hp
    |7,hp=>exact hp
    |8,hp=>exact di hp hb0 (by decide)
    |9,hp=>exact hp
    |10,_=>exact(hj rfl).elim
    |11,hp=>exact hp
    |12,_=>rw[hn 12 (by kernel_rfl)] at hL;cases hL
    |13,hp=>exact hp
    |14,_=>rw[hn 14 (by kernel_rfl)] at hL;cases hL
    |j+15,_=>trivial
  ·clear hd;refine Ph.yv ?_ rfl;go_simp
  ·have d11:ev (aJ 13)=_:=hd.1 rfl;have d5:w1.ownsRow (w.heap.size+2) 3 1 (ev (aJ 8)) ss.length (ss.map (aG ag)):=hd.2.1 rfl;have d10:∃x s m,(_:List aj)[1]?=some x∧w1.heap[w.heap.size]?=some (au (b.cells x s m) 28 (0,0)):=hd.2.2.1 rfl;have d1:ev (aJ 4)=_:=hd.2.2.2.2.1 rfl;clear hd;obtain⟨p5,c5,e8⟩:=dF d5;have hb:=hS.below;have hz:=hS.zero;have hsz:=hS.size;obtain⟨x,s,m,h1,h2⟩:=d10;obtain⟨m0,s0,k0,hb0,q1,q2,q3,_⟩:=hS;rw[hb0] at h2;cases h2;have c1:=aH hb0 13 _ rfl;have f1:=cM hb0 13;refine Lag.Yields.skip (w':=w1.setCell ⟨w.heap.size,13,none⟩ (ev (aJ 8))) ?_ ⟨⟨_,_,_,h1,rfl,cP _ hb0⟩,.inr ⟨⟨_,_,_,cP _ hb0,(fun h=>q1 (by simpa [Ph.upd] using h)),(by intro h;simp[Ph.upd] at h),q3,(bj _ _ _ _ (by show _≠w.heap.size;omega)).trans hz,hb.setCell (p:=⟨w.heap.size,13,none⟩) (ax _) _,by simpa using hsz⟩,?_⟩⟩
   ·rw[e8];go_simp
   ·intro j u ds hj hL hp
    match j,hp with
    |0,hp=>exact hp
    |1,hp=>exact hp
    |2,hp=>exact di hp hb0 (by decide)
    |3,hp=>exact hp
    |4,hp=>exact hp
    |5,hp=>exact di hp hb0 (by decide)
    |6,hp=>exact hp
    |7,hp=>exact hp
    |8,hp=>exact di hp hb0 (by decide)
    |9,hp=>exact hp
    |10,⟨x,s,m,h1,h2⟩=>rw[hb0] at h2;cases h2;exact⟨_,_,_,h1,cP _ hb0⟩
    |11,hp=>exact hp
    |12,_=>exact(hj rfl).elim
    |13,hp=>exact hp
    |14,_=>rw[hn 14 (by kernel_rfl)] at hL;cases hL
    |j+15,_=>trivial
  ·clear hd;refine Ph.yv ?_ rfl;go_simp
  ·have d13:ev (aJ 14)=_:=hd.1 rfl;have d8:w1.ownsRow (w.heap.size+2) 81 3 (ev (aJ 11)) ms.length (eu ms):=hd.2.1 rfl;have d12:∃x y m,(_:List aj)[5]?=some x∧(_:List aj)[1]?=some y∧w1.heap[w.heap.size]?=some (au (b.cells x y m) 28 (0,0)):=hd.2.2.1 rfl;have d1:ev (aJ 4)=_:=hd.2.2.2.2.1 rfl;clear hd;obtain⟨p5,c5,e11⟩:=dF d8;have hb:=hS.below;have hz:=hS.zero;have hsz:=hS.size;obtain⟨x,y,m,h1,h2,h3⟩:=d12;obtain⟨m0,s0,k0,hb0,q1,q2,q3,_⟩:=hS;rw[hb0] at h3;cases h3;have c1:=aH hb0 14 _ rfl;have f1:=cM hb0 14;refine Lag.Yields.skip (w':=w1.setCell ⟨w.heap.size,14,none⟩ (ev (aJ 11))) ?_ ⟨⟨_,_,_,h1,h2,rfl,cP _ hb0⟩,.inr ⟨⟨_,_,_,cP _ hb0,(fun h=>q1 (by simpa [Ph.upd] using h)),(fun h=>q2 (by simpa [Ph.upd] using h)),(by intro h;simp[Ph.upd] at h),(bj _ _ _ _ (by show _≠w.heap.size;omega)).trans hz,hb.setCell (p:=⟨w.heap.size,14,none⟩) (ax _) _,by simpa using hsz⟩,?_⟩⟩
   ·rw[e11];go_simp
   ·intro j u ds hj hL hp
    match j,hp with
    |0,hp=>exact hp
    |1,hp=>exact hp
    |2,hp=>exact di hp hb0 (by decide)
    |3,hp=>exact hp
    |4,hp=>exact hp
    |5,hp=>exact di hp hb0 (by decide)
    |6,hp=>exact hp
    |7,hp=>exact hp
    |8,hp=>exact di hp hb0 (by decide)
    |9,hp=>exact hp
    |10,⟨x,s,m,h1,h2⟩=>rw[hb0] at h2;cases h2;exact⟨_,_,_,h1,cP _ hb0⟩
    |11,hp=>exact hp
    |12,⟨x,y,m,h1,h2,h3⟩=>rw[hb0] at h3;cases h3;exact⟨_,_,_,h1,h2,cP _ hb0⟩
    |13,hp=>exact hp
    |14,_=>exact(hj rfl).elim
    |j+15,_=>trivial
 case rfin=>
  intro a2 w2 hR;have hS:=hR.s;have e2:w2.ownsRow (w.heap.size+2) 79 3 (a2.tmps.getD 5 af) ml.length (dS ml):=hR.val 2 (by decide);have e5:w2.ownsRow (w.heap.size+2) 3 1 (a2.tmps.getD 8 af) ss.length (ss.map (aG ag)):=hR.val 5 (by decide);have e8:w2.ownsRow (w.heap.size+2) 81 3 (a2.tmps.getD 11 af) ms.length (eu ms):=hR.val 8 (by decide);obtain⟨x,y,z,h5,h8,h11,m8⟩:=hR.val 14 (by decide);have k1:a2.tmps.getD 1 af=pv w.heap.size 0:=hR.kept (by kernel_rfl);have k2:a2.tmps.getD 2 af=pv (w.heap.size+1) 0:=hR.kept (by kernel_rfl);have k0:a2.tmps.getD 0 af=aO (b.cells (ae pm ml.length cm) (ae pn ss.length cn) (ae pk ms.length ck)):=hR.kept (by kernel_rfl);have ha:=hR.lits 16 rfl;simp only[aT,bT,nA] at ha;clear hR;have e5':a2.tmps.getD 5 af=x:=bg h5;have e8':a2.tmps.getD 8 af=y:=bg h8;have adH:a2.tmps.getD 11 af=z:=bg h11;rw[e5'] at e2;rw[e8'] at e5;rw[adH] at e8;rw[k0,k1,k2] at ha;generalize a2.tmps.getD=zz at ha;clear k0 k1 k2 h5 h8 h11 e5' e8' adH;obtain⟨p5,c5,rfl⟩:=dF e2;obtain⟨p8,c8,rfl⟩:=dF e5;obtain⟨UT,c11,rfl⟩:=dF e8;have HX:=ai m8;have HZ:=ai hS.zero;have Ff:=ai hS.below;have H2:=ai e2;have H5:=ai e5;have H8:=ai e8;have HB:=ai hB;clear m8 hS e2 e5 e8 hB ht;subst ha
  go_wp2_with (first
   |(refine lT rfl 28 _ rfl _ rfl 28 _ (0,0) _ HX.out cG rfl (by kernel_rfl) ?_)
   |(refine fE rfl 28 _ _ rfl _ _ rfl rfl 28 _ HZ.out (by kernel_rfl) rfl (by simp[cu]) ?_))
  refine bn (results_cell_row rfl _ _ (w.heap.size+1) 28 _ (0,0) _ rfl (cV HZ.out) cG rfl (by kernel_rfl)) rfl ⟨_,_,_,rfl,?_,⟨fun g hg=>by have:=(H2.out.lt g hg).1;omega,fun g hg=>by have:=(H5.out.lt g hg).1;omega,fun g hg=>by have:=(H8.out.lt g hg).1;omega⟩,dA Ff.out (by omega)⟩;have hz:=HZ.out;have ns:∀ {e size v n xs},w2.ownsRow (w.heap.size+2) e size v n xs→(w2.setRow (w.heap.size+1) (b.cells (ae p5 ml.length c5) (ae p8 ss.length c8) (ae UT ms.length c11))).ownsRow (w.heap.size+2) e size v n xs:=fun h=>fY h fun g hg=>setRow_other (by have:=(h.lt g hg).1;omega);exact⟨⟨HB.out.ok,HB.out.gX,HB.out.l9,HB.out.kE,Reads.iW (ns H2.out) (by omega) (by rw[rW];omega),Reads.iW (ns H5.out) (by omega) (by simp),Reads.iW (ns H8.out) (by omega) (by rw[rX];omega)⟩,ru (ns H2.out),ru (ns H5.out),ru (ns H8.out)⟩
def bS(n mask:Nat):List Nat:=(aT n).filter fun i=>mask.testBit i
def cZ(n mask:Nat):List Int:=(bS n mask).map fun(i:Nat)=>(i:Int)
theorem yM{W:ar}{b1 b2:Nat}{e1 e2:aZ}{s1 s2:Nat}{v1 v2:aj}{n1 n2:Nat}{x1 x2:List aj}(h1:W.ownsRow b1 e1 s1 v1 n1 x1)(h2:W.ownsRow b2 e2 s2 v2 n2 x2)(he:e1≠e2){g:Nat}(hg:v1.ownBlock=some g):some g≠v2.ownBlock:=by
 intro h;rcases h1.2 with⟨rfl,_⟩|⟨g1,c1,q1,rfl,_,a1,_⟩
 ·cases hg
 ·rcases h2.2 with⟨rfl,_⟩|⟨g2,c2,q2,rfl,_,a2,_⟩
  ·cases h
  ·obtain rfl:g1=g:=bg hg;obtain rfl:g1=g2:=bg h;rw[a1] at a2;cases a2;exact he rfl
theorem mJ{W:ar}{b1:Nat}{e1 t:aZ}{s1:Nat}{v1:aj}{n1:Nat}{x1:List aj}{B:Nat}{cs:Array aj}(h1:W.ownsRow b1 e1 s1 v1 n1 x1)(hB:W.heap[B]?=some (au cs t (0,0)))(he:t≠e1):some B≠v1.ownBlock:=by
 intro h;rcases h1.2 with⟨rfl,_⟩|⟨g1,c1,q1,rfl,_,a1,_⟩
 ·cases h
 ·obtain rfl:B=g1:=bg h;rw[hB] at a1;cases a1;exact he rfl
theorem mN(n mask:Nat):bS (n+1) mask=bS n mask++if mask.testBit n then[n] else[]:=by
 unfold bS;rw[sQ,List.filter_append];cases h:mask.testBit n<;>simp[h]
theorem iw(n mask:Nat):(bS n mask).length≤n:=by
 have:=List.length_filter_le (fun i=>mask.testBit i) (aT n);simpa [bS] using this
end Go.Proofs.YtffladgmkiimjaaGreatDoor
namespace Go.Lag
open Go Go.RowKit
theorem Yields.tP{P:Program}{o:Oper}{ev:bH→aj}{w:ar}{R:aj→ar→Prop}(s x:bH)(t:aZ)(ho:o.op=.call { callee:=.builtin .append,args:=#[s,x],argTypes:=#[t,t] })
  (base:Nat) (e:aZ) (i:TypeInfo) (z:aj) (size rO:Nat) (ht:P.underlying t=some (.slice e)) (hi:P.info? e=some i) (hz:i.zero=some z) (hsize:i.size=size) (hby:i.bytes=rO) (hzs:z.cells.size=size) (hsz:0<size)
  (v:aj) (n:Nat) (xs:List aj) (hs:ev s=v) (hown:w.ownsRow base e size v n xs) (ad:cU) (m c:Nat) (news:List aj) (hx:ev x=.slice (some ad) m c) (hl:news.length=m*size) (hnews:∀j u,news[j]?=some u→w.cell? (ad.add j)=some u) (h1:∀u∈news,u.oneCell'=true)
  (h63:n+m≤jC) (hbytes:(n+m)*rO≤140737488355328) (hbase:base≤w.heap.size)
  (h:∀v' w',w'.ownsRow base e size v' (n+m) (xs++news)→w.grownBy w' v.ownBlock→(v'=.slice none 0 0↔v=.slice none 0 0∧m=0)→R v' w'):Lag.Yields P o ev w R:=by
 obtain⟨v',w',hr,h2,h3,h4⟩:=run_append_own (P:=P) w base t o.type e i z size rO ht hi hz hsize hby hzs hsz v n xs hown ad m c news hl hnews h1 h63 hbytes hbase;refine Lag.Yields.value (v:=v') (w':=w') ?_ (h v' w' h2 h3 h4);unfold execOp;simp only[ho,resolve,invoke,builtin,Sem.run_bind,Sem.run_pure,Bb,List.map_toArray,cg,fP,hs,hx,hr]
def Src(w:ar)(sv:aj)(m:Nat)(news:List aj):Prop:=
 (sv=.slice none 0 0∧m=0∧news=[])∨∃ad c,sv=.slice (some ad) m c∧∀j u,news[j]?=some u→w.cell? (ad.add j)=some u
section
variable{P:Program}{o:Oper}{ev:bH→aj}{w:ar}{R:aj→ar→Prop}
theorem Dy(base:Nat)(t ty e:aZ)(i:TypeInfo)(z:aj)(size rO:Nat)(ht:P.underlying t=some (.slice e))(hi:P.info? e=some i)(hz:i.zero=some z)
  (hsize:i.size=size) (hby:i.bytes=rO) (hzs:z.cells.size=size) (hsz:0<size)
  (v:aj) (n:Nat) (xs:List aj) (hown:w.ownsRow base e size v n xs) (sv:aj) (m:Nat) (news:List aj) (hl:news.length=m*size) (Eh:Src w sv m news) (h1:∀u∈news,u.oneCell'=true)
  (h63:n+m≤jC) (hbytes:(n+m)*rO≤140737488355328) (hbase:base≤w.heap.size) :
  ∃v' w',(j6 #[t,t] ty #[v,sv]).run P w=.ok v' w'∧w'.ownsRow base e size v' (n+m) (xs++news)∧w.grownBy w' v.ownBlock:=by
 rcases Eh with⟨rfl,rfl,rfl⟩|⟨ad,c,rfl,hnews⟩
 ·refine⟨v,w,run_append_owned_none w base t ty e i size ht hi v n xs hown,by simpa using hown,rfl,rfl,rfl,ax _,fun _ _ _=>rfl⟩
 ·obtain⟨v',w',h2,h3,h4,_⟩:=run_append_own (P:=P) w base t ty e i z size rO ht hi hz hsize hby hzs hsz v n xs hown ad m c news hl hnews h1 h63 hbytes hbase;exact⟨v',w',h2,h3,h4⟩
theorem Js{w':ar}{v':aj}(base:Nat)(t ty e:aZ)(i:TypeInfo)(z:aj)(size rO:Nat)(ht:P.underlying t=some (.slice e))(hi:P.info? e=some i)(hz:i.zero=some z)(hsize:i.size=size)(hby:i.bytes=rO)
  (v:aj) (n:Nat) (xs:List aj) (hown:w.ownsRow base e size v n xs) (sv:aj) (m:Nat) (news:List aj) (hl:news.length=m*size) (Eh:Src w sv m news) (h1:∀u∈news,u.oneCell'=true)
  (h63:n+m≤jC) (hbytes:(n+m)*rO≤140737488355328) (hr:(j6 #[t,t] ty #[v,sv]).run P w=.ok v' w') :
  ∀ {b2:Nat} {u:aj} {n2:Nat} {ys:List aj},n2≤n→w.ownsRow b2 e size u n2 ys→w'.ownsRow b2 e size u n2 ys:=by
 intro b2 u n2 ys wa hu;subst hsize;subst hby;have Y7:n+m≤9223372036854775807:=by simp only[jC] at h63;omega
 rcases Eh with⟨rfl,rfl,rfl⟩|⟨ad,c,rfl,hnews⟩
 ·have h2:=run_append_owned_none w base t ty e i i.size ht hi v n xs hown;rw[h2] at hr;cases hr;exact hu
 have grow:∀(o:Obj),(w.drew.alloc o).ownsRow b2 e i.size u n2 ys:=fun o=>by
  refine⟨hu.1,?_⟩;rcases hu.2 with h|⟨g,cap,cur,h2,h3,h4,h5⟩
  ·exact .inl h
  ·exact .inr ⟨g,cap,cur,h2,h3,(aS w.drew o g (ak.1 h4).1).trans h4,h5⟩
 rcases hown.2 with⟨rfl,rfl⟩|⟨g,cap,cur,rfl,hbg,hg,FM,hcm,hcs,Ti⟩
 ·by_cases hm:m=0
  ·subst hm;have hn:news=[]:=aY (by simpa using hl);subst hn
   have h2:(j6 #[t,t] ty #[.slice none 0 0,.slice (some ad) 0 c]).run P w=.ok (.slice none 0 0) w:=by
    simp[j6,run_underlying ht,sizeOf,typeInfo,hi,Builtin.lenOf,Builtin.firstCells,loadCells,loadCellsFrom]
   rw[h2] at hr;cases hr;exact hu
  ·have h2:=run_append_nil (P:=P) w t ty e i z ht hi hz ad m c news hl hnews (by omega) (by omega) (by have hb:=hbytes;simp only[cJ] at hb;omega);rw[h2] at hr;cases hr;exact grow _
 ·by_cases hroom:n+m≤cap
  ·have Tv:n*i.size+news.length≤cur.size:=by rw[hl,hcs,←Nat.add_mul];exact Nat.mul_le_mul_right _ hroom
   have h2:=run_append_room (P:=P) w t ty e i ht hi g n cap cur hg ad m c news hl hnews h1 hroom Tv;rw[h2] at hr;cases hr;refine⟨hu.1,?_⟩;rcases hu.2 with h|⟨g2,aat,ag6,k2,h3,h4,h5,h6,h7,h8⟩
   ·exact .inl h
   ·refine .inr ?_
    by_cases Er:g2=g
    ·subst Er;rw[hg] at h4;cases h4;refine⟨g2,aat,_,k2,h3,setRow_heap w g2 cur _ e _ hg,h5,h6,?_,?_⟩
     ·rw[←h7];simp only[jw,pJ,List.length_take,List.length_drop,Array.length_toList];omega
     ·rw[←h8];have hle:n2*i.size≤n*i.size:=Nat.mul_le_mul_right _ wa;simp only[List.append_assoc];rw[List.take_append_of_le_length (by rw[List.length_take,Array.length_toList];omega),List.take_take,Nat.min_eq_left hle]
    ·exact⟨g2,aat,ag6,k2,h3,(setRow_other w g g2 _ Er).trans h4,h5,h6,h7,h8⟩
  ·have holds:∀j u,xs[j]?=some u→w.cell? ((⟨g,0,none⟩:cU).add j)=some u:=hown.cells (g:=g) rfl;have h2:=run_append_grow (P:=P) w t ty e i z ht hi hz ⟨g,0,none⟩ n cap xs hown.1 holds ad m c news hl hnews (by omega) (by omega) (growslice_fits (by omega) hbytes);rw[h2] at hr;cases hr;exact grow _
theorem Yields.NT(s x:bH)(t:aZ)(ho:o.op=.call { callee:=.builtin .append,args:=#[s,x],argTypes:=#[t,t] })
  (base:Nat) (e:aZ) (i:TypeInfo) (z:aj) (size rO:Nat) (ht:P.underlying t=some (.slice e)) (hi:P.info? e=some i) (hz:i.zero=some z) (hsize:i.size=size) (hby:i.bytes=rO) (hzs:z.cells.size=size) (hsz:0<size)
  (v:aj) (n:Nat) (xs:List aj) (hs:ev s=v) (hown:w.ownsRow base e size v n xs) (sv:aj) (m:Nat) (news:List aj) (hx:ev x=sv) (hl:news.length=m*size) (Eh:Src w sv m news) (h1:∀u∈news,u.oneCell'=true)
  (h63:n+m≤jC) (hbytes:(n+m)*rO≤140737488355328) (hbase:base≤w.heap.size)
  (h:∀v' w',w'.ownsRow base e size v' (n+m) (xs++news)→w.grownBy w' v.ownBlock→(∀ {b2:Nat} {u:aj} {n2:Nat} {ys:List aj},n2≤n→w.ownsRow b2 e size u n2 ys→w'.ownsRow b2 e size u n2 ys)→R v' w'):Lag.Yields P o ev w R:=by
 obtain⟨v',w',hr,h2,h3⟩:=Dy (P:=P) (w:=w) base t o.type e i z size rO ht hi hz hsize hby hzs hsz v n xs hown sv m news hl Eh h1 h63 hbytes hbase;refine Lag.Yields.value (v:=v') (w':=w') ?_ (h v' w' h2 h3 (Js base t o.type e i z size rO ht hi hz hsize hby v n xs hown sv m news hl Eh h1 h63 hbytes hr));unfold execOp;simp only[ho,resolve,invoke,builtin,Sem.run_bind,Sem.run_pure,Bb,List.map_toArray,cg,fP,hs,hx,hr]
theorem Ag(base:Nat)(t ty e:aZ)(i:TypeInfo)(z:aj)(size rO:Nat)(ht:P.underlying t=some (.slice e))(hi:P.info? e=some i)(hz:i.zero=some z)
  (hsize:i.size=size) (hby:i.bytes=rO) (hzs:z.cells.size=size) (hsz:0<size) (q:Nat) (hq:w.heap[q]?=some (.cells #[] e (0,0))) (hbq:base≤q)
  (sv:aj) (m:Nat) (news:List aj) (hl:news.length=m*size) (Eh:Src w sv m news) (h1:∀u∈news,u.oneCell'=true) (h63:m≤jC) (hbytes:m*rO≤140737488355328) :
  ∃v' w',(j6 #[t,t] ty #[.slice (some ⟨q,0,none⟩) 0 0,sv]).run P w=.ok v' w'∧w'.ownsRow base e size v' m news∧az w.heap.size w w'∧(m=0→v'=.slice (some ⟨q,0,none⟩) 0 0):=by
 have hql:=(ak.1 hq).1;have hown:w.ownsRow base e size (.slice (some ⟨q,0,none⟩) 0 0) 0 []:=⟨by simp,.inr ⟨q,0,#[],rfl,hbq,hq,ax _,jS _,by simp,by simp⟩⟩
 by_cases hm:m=0
 ·subst hm;have hn:news=[]:=aY (by simpa using hl);subst hn;rcases Eh with⟨rfl,_,_⟩|⟨ad,c,rfl,hnews⟩
  ·exact⟨_,w,run_append_owned_none w base t ty e i size ht hi _ 0 [] hown,hown,aw _ _,fun _=>rfl⟩
  ·have hr:=run_append_room (P:=P) w t ty e i ht hi q 0 0 #[] hq ad 0 c [] (by simp) hnews h1 (by omega) (by simp)
   have hk:∀k,(w.setRow q (((#[]:Array aj).toList.take (0*i.size)++[]++(#[]:Array aj).toList.drop (0*i.size+([]:List aj).length)).toArray)).heap[k]?=w.heap[k]?:=fun k=>by
    by_cases hkq:k=q
    ·subst hkq;rw[setRow_heap w k #[] _ e (0,0) hq,hq];simp
    ·exact setRow_other w q k _ hkq
   refine⟨_,_,hr,⟨by simp,.inr ⟨q,0,#[],rfl,hbq,(hk q).trans hq,ax _,jS _,by simp,by simp⟩⟩,⟨rfl,rfl,rfl,by simp,fun k _=>hk k⟩,fun _=>rfl⟩
 ·rcases Eh with⟨_,h0,_⟩|⟨ad,c,rfl,hnews⟩
  ·exact absurd h0 hm
  ·subst hsize;subst hby;have hr:=run_append_grow (P:=P) w t ty e i z ht hi hz ⟨q,0,none⟩ 0 0 [] (by simp) (fun j u hj=>by simp at hj) ad m c news hl hnews (by omega) (by simp only[jC] at h63;omega) (growslice_fits (by omega) (by simpa using hbytes));have hge:=grownCap_ge w (0+m) 0 e;have hcm:grownCap w (0+m) 0 e≤maxLen:=grownCap_le_maxLen w (0+m) 0 e (by omega);simp only[cJ] at hr hge hcm;refine⟨_,_,hr,⟨by simpa using hl,.inr ⟨w.heap.size,grownCap w m 0 e,_,rfl,by omega,heap_alloc_new w.drew _,by omega,hcm,?_,?_⟩⟩,?_,fun h=>absurd h hm⟩
   ·simp only[Array.size_append,jw,size_zeroCells,hzs,hl,List.length_nil,cJ];rw[←Nat.add_mul]
    congr 1
    omega
   ·simp only[Array.toList_append,List.nil_append];rw[show m*i.size=news.length from hl.symm];exact List.take_left
   ·exact(aw _ _).drew.alloc (ax _) _
theorem Yields.append_empty(s x:bH)(t:aZ)(ho:o.op=.call { callee:=.builtin .append,args:=#[s,x],argTypes:=#[t,t] })
  (base:Nat) (e:aZ) (i:TypeInfo) (z:aj) (size rO:Nat) (ht:P.underlying t=some (.slice e)) (hi:P.info? e=some i) (hz:i.zero=some z) (hsize:i.size=size) (hby:i.bytes=rO) (hzs:z.cells.size=size) (hsz:0<size)
  (q:Nat) (hs:ev s=.slice (some ⟨q,0,none⟩) 0 0) (hq:w.heap[q]?=some (.cells #[] e (0,0))) (hbq:base≤q) (sv:aj) (m:Nat) (news:List aj) (hx:ev x=sv) (hl:news.length=m*size) (Eh:Src w sv m news) (h1:∀u∈news,u.oneCell'=true)
  (h63:m≤jC) (hbytes:m*rO≤140737488355328) (h:∀v' w',w'.ownsRow base e size v' m news→az w.heap.size w w'→(m=0→v'=.slice (some ⟨q,0,none⟩) 0 0)→R v' w'):Lag.Yields P o ev w R:=by
 obtain⟨v',w',hr,h2,h3,h4⟩:=Ag (P:=P) (w:=w) base t o.type e i z size rO ht hi hz hsize hby hzs hsz q hq hbq sv m news hl Eh h1 h63 hbytes;refine Lag.Yields.value (v:=v') (w':=w') ?_ (h v' w' h2 h3 h4);unfold execOp;simp only[ho,resolve,invoke,builtin,Sem.run_bind,Sem.run_pure,Bb,List.map_toArray,cg,fP,hs,hx,hr]
end
end Go.Lag
namespace Go.Proofs.YtffladgmkiimjaaGreatDoor
open Go.RowKit Go.Lag
def mV(ms:List Mk)(l:List Nat):List Mk:=l.filterMap fun i=>ms[i]?
theorem Qb(ms:List Mk)(l:List Nat):(mV ms l).length≤l.length:=List.length_filterMap_le _ _
theorem Qa{ms:List Mk}{l:List Nat}{m:Mk}(h:m∈mV ms l):m∈ms:=by
 obtain⟨i,_,hi⟩:=List.mem_filterMap.1 h;exact List.mem_of_getElem? hi
theorem MQ(ms:List Mk)(l:List Nat)(j:Nat)(hj:j<ms.length):mV ms (l++[j])=mV ms l++[ms[j]]:=by
 unfold mV;rw[List.filterMap_append];simp[hj]
theorem Ki(ms:List Mk)(l:List Nat)(h:∀i∈l,i<ms.length):(mV ms l).length=l.length:=by
 induction l with
 |nil=>rfl
 |cons a l ih=>
  have ha:=h a (by simp);have:=ih fun i hi=>h i (by simp[hi])
  have e:mV ms (a::l)=ms[a]::mV ms l:=by
   unfold mV;rw[List.filterMap_cons];simp[ha]
  rw[e];simp[this]
theorem Sv{b:BB}{ms:List Mk}(h:lH b ms){n mask:Nat}(hn:n≤ms.length):lH b (mV ms (bS n mask)):=
 ⟨fun m hm=>h.mem m (Qa hm),by have:=Qb ms (bS n mask);have:=iw n mask;have:=h.len;omega⟩
def pI(b:BB)(ml:List Mn)(ss:List Int)(ms:List Mk)(mask:Nat):Bool:=decide (aX b ml ss (mV ms (bS ms.length mask))=[])
def DZ(b:BB)(ml:List Mn)(ss:List Int)(ms:List Mk)(M:Nat):List (List Int):=((aT M).filter (pI b ml ss ms)).map (cZ ms.length)
theorem Qg(b:BB)(ml:List Mn)(ss:List Int)(ms:List Mk)(M:Nat):DZ b ml ss ms (M+1)=DZ b ml ss ms M++if pI b ml ss ms M then[cZ ms.length M] else[]:=by
 unfold DZ;rw[sQ,List.filter_append,fG];cases h:pI b ml ss ms M<;>simp[h]
def Um(first:List Int)(more:List (List Int)):List Int:=more.foldl (fun b x=>if sg x b then x else b) first
theorem Hf:∀(more:List VL) (first:VL),(nD first more).2=Um first.2 (more.map (·.2))
 |[],_=>rfl
 |x::more,first=>by
  show(nD (if sg x.2 first.2=true then x else first) more).2=Um (if sg x.2 first.2=true then x.2 else first.2) (more.map (·.2));rw[Hf more]
  by_cases h:sg x.2 first.2=true
  ·rw[if_pos h,if_pos h]
  ·rw[if_neg h,if_neg h]
def qy(b:BB)(ml:List Mn)(ss:List Int)(ms:List Mk):List Int:=
 if aX b ml ss ms≠[] then[] else match DZ b ml ss ms (2 ^ ms.length) with|[]=>[]|f::r=>Um f r
theorem Q0(n:Nat):bS n (2 ^ n-1)=aT n:=by
 unfold bS;rw[List.filter_eq_self];intro i hi;rw[bt] at hi;rw[Nat.testBit_two_pow_sub_one];simp[hi]
theorem P9(ms:List Mk):mV ms (aT ms.length)=ms:=by
 unfold mV;apply List.ext_getElem?;intro i
 have key:∀k,k≤ms.length→(aT k).filterMap (fun i=>ms[i]?)=ms.take k:=by
  intro k
  induction k with
  |zero=>simp
  |succ k ih=>
   intro hk;rw[sQ,List.filterMap_append,ih (by omega),bZ (by omega)];simp[show k<ms.length by omega]
 rw[key _ (ax _),List.take_length]
theorem YK{b:BB}{ml:List Mn}{ss:List Int}{ms:List Mk}(h:aX b ml ss ms=[]):DZ b ml ss ms (2 ^ ms.length)≠[]:=by
 unfold DZ;intro h2;have h3:=List.map_eq_nil_iff.1 h2
 have h4:2 ^ ms.length-1∈(aT (2 ^ ms.length)).filter (pI b ml ss ms):=by
  rw[List.mem_filter];have:0<2 ^ ms.length:=Nat.two_pow_pos _;refine⟨bt.2 (by omega),?_⟩;unfold pI;rw[Q0,P9];simp[h]
 rw[h3] at h4;cases h4
theorem YY:(Tryz.prog.info? 25).map (fun i=>(i.zero,i.size,i.bytes))=some (some (ae none 0 0),1,24):=by kernel_rfl
theorem MG(l:List Mk)(m:Mk):eu (l++[m])=eu l++m.cells.toList:=by simp[eu]
structure Mb(ob mb:Nat)(bc:aj→Array aj)(V8 NY:aj)(k:Nat)(xs ys:List aj)(mc:Array aj)(wo:ar)(A B C:Bool)(w:ar):Prop where
 Iq:A=false→w.ownsRow (ob+1) 3 1 V8 k xs
 yN:B=false→w.ownsRow (ob+1) 81 3 NY k ys
 YL:C=false→w.heap[ob]?=some (au (bc NY) 119 (0,0))
 UU:w.heap[mb]?=some (au mc 81 (0,0))
 below:az ob wo w
 size:ob+1≤w.heap.size
section
variable{ob mb:Nat}{bc:aj→Array aj}{V8 NY:aj}{k:Nat}{xs ys:List aj}{mc:Array aj}{wo w1 w2:ar}{A B C A' B' C':Bool}
theorem Mb.next(hA:A'=false→A=false)(hB:B'=false→B=false)(hC:C'=false→C=false)(h:Mb ob mb bc V8 NY k xs ys mc wo A B C w1)(hb:az w1.heap.size w1 w2):Mb ob mb bc V8 NY k xs ys mc wo A' B' C' w2:=
 ⟨fun e=>cX (h.Iq (hA e)) hb,fun e=>cX (h.yN (hB e)) hb,fun e=>(hb.block _ (by have:=h.size;omega)).trans (h.YL (hC e)),(hb.block _ (ak.1 h.UU).1).trans h.UU,h.below.trans (hb.mono (by have:=h.size;omega)),aN h.size hb.size⟩
theorem Mb.ahj(h:Mb ob mb bc V8 NY k xs ys mc wo A B C w1)(hA:A=false)(g:w1.grownBy w2 V8.ownBlock)(hB:B'=B)(hC:C'=C):Mb ob mb bc V8 NY k xs ys mc wo true B' C' w2:=by
 subst hB;subst hC;have h8:=h.Iq hA;have hm:=(ak.1 h.UU).1;refine⟨fun e=>(by cases e),fun e=>fY (h.yN e) fun q hq=>g.block q ((h.yN e).lt q hq).2 (yM (h.yN e) h8 (by decide) hq),fun e=>(g.block ob (by have:=h.size;omega) fun hq=>?_).trans (h.YL e),(g.block mb hm (mJ h8 h.UU (by decide))).trans h.UU,h.below.grown g (by have:=h.size;omega) fun q hq=>by have:=(h8.lt q hq).1;omega,aN h.size g.size⟩;have:=(h8.lt ob hq.symm).1;omega
theorem Mb.adV(h:Mb ob mb bc V8 NY k xs ys mc wo A B C w1)(hB:B=false)(g:w1.grownBy w2 NY.ownBlock)(hm:some mb≠NY.ownBlock)(hA:A'=A)(hC:C'=C):Mb ob mb bc V8 NY k xs ys mc wo A' true C' w2:=by
 subst hA;subst hC;have h14:=h.yN hB;have Tq:=(ak.1 h.UU).1;refine⟨fun e=>fY (h.Iq e) fun q hq=>g.block q ((h.Iq e).lt q hq).2 (yM (h.Iq e) h14 (by decide) hq),fun e=>(by cases e),fun e=>(g.block ob (by have:=h.size;omega) fun hq=>?_).trans (h.YL e),(g.block mb Tq hm).trans h.UU,h.below.grown g (by have:=h.size;omega) fun q hq=>by have:=(h14.lt q hq).1;omega,aN h.size g.size⟩;have:=(h14.lt ob hq.symm).1;omega
theorem Mb.drew(h:Mb ob mb bc V8 NY k xs ys mc wo A B C w1):Mb ob mb bc V8 NY k xs ys mc wo A B C w1.drew:=⟨h.Iq,h.yN,h.YL,h.UU,h.below.drew,h.size⟩
theorem Ul{w:ar}{a b:Nat}{x y:Array aj}{t u:aZ}(h1:w.heap[a]?=some (au x t (0,0)))(h2:w.heap[b]?=some (au y u (0,0)))(h:t≠u):a≠b:=by
 rintro rfl;rw[h1] at h2;cases h2;exact h rfl
theorem Mb.put(h:Mb ob mb bc V8 NY k xs ys mc wo A B C w1)(hC:C=false)(hm:mb≠ob)(u:aj)(hA:A'=A)(hB:B'=B):Mb ob mb bc V8 NY k xs ys mc wo A' B' true (w1.setCell ⟨ob,14,none⟩ u):=by
 subst hA;subst hB;have ho:=h.YL hC;exact⟨fun e=>di (h.Iq e) ho (by decide),fun e=>di (h.yN e) ho (by decide),fun e=>(by cases e),(bj _ _ _ _ hm).trans h.UU,h.below.setCell (p:=⟨ob,14,none⟩) (ax _) _,by simpa using h.size⟩
end
theorem UQ(b:BB)(men sent marks:aj)(ml:List Mn)(ss:List Int)(ms:List Mk)(w:ar)(hL:Laid w)(hB:cI b men sent marks ml ss ms w) :
  bm aq 50 #[aO (b.cells men sent marks)] w fun e w'=>∃v,e=aC (cA #[v,ah ag 0])∧Reads w' v (qy b ml ss ms).length ((qy b ml ss ms).map (aG ag))∧az w.heap.size w w':=by
 have cN:=hB.ok;have hk3:=hB.kE.len;obtain⟨i0,hi,hz0,hz1,hz2⟩:=jR info3;obtain⟨i1,FN,OT,hy1,hy2⟩:=jR IV;obtain⟨i2,hi2,hx0,hx1,hx2⟩:=jR YY;obtain⟨pm,cm,rfl,_⟩:=aR hB.rm;obtain⟨pn,cn,rfl,_⟩:=aR hB.rs;obtain⟨pk,ck,rfl,_⟩:=aR hB.rk;have b1:az w.heap.size w (w.alloc (au (b.cells (ae pm ml.length cm) (ae pn ss.length cn) (ae pk ms.length ck)) 28)):=(aw _ _).alloc (ax _) _;have hk:=ay w (au (b.cells (ae pm ml.length cm) (ae pn ss.length cn) (ae pk ms.length ck)) 28);have ur:=ai (eZ b _ _ _ ml ss ms _ (hL.below b1) (hB.below b1))
 have HSo:lh (∀(k:aj) (l:List Mk) (r:Bool),decide (aX b ml ss l≠[])=r→lH b l→∀W,az w.heap.size w W→Reads W k l.length (eu l)→bm aq 119 #[aO (b.cells (ae pm ml.length cm) (ae pn ss.length cn) k)] W fun e w'=>e=aC (aF r)∧az W.heap.size W w'):=
  ai fun k l r hr hl W hW hk=>by
   have:=JZ b _ _ k ml ss l W ⟨hB.ok,hB.gX,hB.l9,hl,hB.rm.below hW,hB.rs.below hW,hk⟩;rw[hr] at this;exact this
 obtain⟨r,hr⟩:∃r,decide (aX b ml ss ms≠[])=r:=⟨_,rfl⟩
 have HR0:=ai hr;clear hr;have HB:=ai hB;have yo:=ai b1;have HK:=ai hk;have HMo:=ai hB.kE;clear hL hB b1 hk;have HML:=ai (rfl:ml.length=ml.length);generalize ml.length=lm at *;generalize ss.length=ln at *;generalize hlk:ms.length=lk at *;have Yo:=ai hlk;clear hlk
 go_enter Tryz.func50,Tryz.ntmps50
 go_wp2_with (first
  |(go_at_call 71;refine ur.out.mono ?_;clear ur;rintro e w1 ⟨rfl,hb1⟩
    have qq:=(hb1.block w.heap.size (by simp)).trans HK.out;obtain⟨x0,x1,x2,x3,x4,x5,x6,x7,x8,x9,nX,nW,oU,oh,oP⟩:=bN qq;have HK1:=ai qq;have hw1:w.heap.size<w1.heap.size:=(ak.1 qq).1;have o7:lh (az w.heap.size w w1):=ai (yo.out.trans (hb1.mono (by simp)))
    clear qq hb1)
  |(go_at_call 119;refine(HSo.out _ ms r HR0.out HMo.out _ (o7.out.alloc (by omega) _) (HB.out.rk.below (o7.out.alloc (by omega) _))).mono ?_;rintro e w2 ⟨rfl,hb2⟩
    have hs2:=hb2.size;simp only[dW] at hs2;have hk2:=(hb2.block w.heap.size (by simp;omega)).trans ((aS w1 (au (b.cells (ae pm lm cm) (ae pn ln cn) (ae pk lk ck)) 119) _ hw1).trans HK1.out);have hx2:=(hb2.block w1.heap.size (by simp)).trans (ay w1 (au (b.cells (ae pm lm cm) (ae pn ln cn) (ae pk lk ck)) 119));have Ga:=ai hk2;have HX2:=ai hx2;have pw:lh (az w.heap.size w w2):=ai ((o7.out.alloc (by omega) _).trans (hb2.mono (by simp;omega)));have z14:=aH hk2 14 (ae pk lk ck) rfl;have f14:=cM hk2 14
    clear hk2 hx2 hb2 x0 x1 x2 x3 x4 x5 x6 x7 x8 x9 nX nW oU oh oP))
 ·have hr1:r=true:=by assumption
  have HQ:lh (qy b ml ss ms=[]):=ai (by have:=HR0.out;rw[hr1] at this;unfold qy;rw[if_pos (by simpa using this)]);go_ret2;exact⟨_,rfl,by rw[HQ.out];exact cF ⟨rfl,rfl,rfl⟩,pw.out⟩
 ·obtain rfl:r=false:=by assumption
  have HE:lh (aX b ml ss ms=[]):=ai (by have:=HR0.out;simpa using this);obtain⟨N,ZR⟩:∃N,N=2 ^ lk:=⟨_,rfl⟩
  have hN8:N≤8:=by
   have:lk=0∨lk=1∨lk=2∨lk=3:=by omega
   rcases this with h|h|h|h<;>subst h<;>omega
  have hN:wrap64 (2 ^ lk)=(N:Int):=by
   have:lk=0∨lk=1∨lk=2∨lk=3:=by omega
   rcases this with h|h|h|h<;>subst h<;>subst ZR<;>simp[wrap64]
  have HN0:=ai ZR
  have HBk:lh (∀w9,az w.heap.size w w9→∀(k:Nat) (hk:k<ms.length),∃g off,pk=some ⟨g,off,none⟩∧w9.cell? ⟨g,off+k*3,none⟩=some (ah ag ms[k].minute)∧w9.cell? ⟨g,off+k*3+1,none⟩=some (ah ag ms[k].lo)∧w9.cell? ⟨g,off+k*3+2,none⟩=some (ah ag ms[k].hi)):=ai fun w9 h9 k hk=>by
   rcases HB.out.rk.below h9 with⟨_,h0,_⟩|⟨g,off,cap,h0,_,_,h1⟩
   ·omega
   ·cases h0;exact⟨g,off,rfl,vN h1 k hk⟩
  rw[hN];clear hN ZR
  go_loopw [6,7,8,9,10,11,25,34] (fun v6 _ _ _ _ _ i _ wr=>∃(M:Nat) (rows:List VL),M≤N∧i=ah ag M∧rows.map (·.2)=DZ b ml ss ms M∧wr.ownsRow w.heap.size 25 1 v6 rows.length (rows.map (·.1))∧(∀r∈rows,wr.ownsRow w.heap.size 3 1 r.1 r.2.length (r.2.map (aG ag)))∧wr.heap[w.heap.size]?=some (au (b.cells (ae pm lm cm) (ae pn ln cn) (ae pk lk ck)) 28 (0,0))∧wr.heap[w1.heap.size]?=some (au (b.cells (ae pm lm cm) (ae pn ln cn) (ae pk lk ck)) 119 (0,0))∧az w.heap.size w wr) (fun _ _ _ _ _ _ i _ _=>N-(intOf i).toNat)
  case atStart=>exact⟨0,[],jS _,by simp,rfl,dL _ _ _ _,by simp,Ga.out,HX2.out,pw.out⟩
  case round=>
   obtain⟨M,rows,hM,rfl,Ej,KH,OW,hkw,hxw,dX⟩:=hrel;rename ar=>wo
   by_cases hlt:M<N
   ·have HRw:=ai Ej;have HO6:=ai KH;have HOr:=ai OW;have HKw:=ai hkw;have HXw:=ai hxw;have wZ:=ai dX;have JD:=dX.size;have V3:=(ak.1 hkw).1;have hwx:=(ak.1 hxw).1;obtain⟨x0,x1,x2,x3,x4,x5,x6,x7,x8,x9,nX,nW,oU,oh,oP⟩:=bN hxw;have g2:(wo.alloc (au #[ah ag b.room,ah ag b.depth,ah ag b.least,ah ag b.minutes,ah ag b.bM,ah ag b.fD,ah ag b.dc,ah ag b.fC,ah ag b.ll,ah ag b.lm,ah ag b.pl,ah ag b.pm,ae pm lm cm,ae pn ln cn,ae none 0 0] 119)).heap[w.heap.size]?=some (au (b.cells (ae pm lm cm) (ae pn ln cn) (ae pk lk ck)) 28 (0,0)):=(aS _ _ _ V3).trans hkw;have z14:=aH g2 14 (ae pk lk ck) rfl;have agW:=cM g2 14;have hb2:az wo.heap.size wo (wo.alloc (au #[ah ag b.room,ah ag b.depth,ah ag b.least,ah ag b.minutes,ah ag b.bM,ah ag b.fD,ah ag b.dc,ah ag b.fC,ah ag b.ll,ah ag b.lm,ah ag b.pl,ah ag b.pm,ae pm lm cm,ae pn ln cn,ae none 0 0] 119)):=(aw _ _).alloc (ax _) _;have ho2:=ay wo (au #[ah ag b.room,ah ag b.depth,ah ag b.least,ah ag b.minutes,ah ag b.bM,ah ag b.fD,ah ag b.dc,ah ag b.fC,ah ag b.ll,ah ag b.lm,ah ag b.pl,ah ag b.pm,ae pm lm cm,ae pn ln cn,ae none 0 0] 119);have ahT:=ai hb2;have ahH:=ai ho2;have acu:(wo.alloc (au #[ah ag b.room,ah ag b.depth,ah ag b.least,ah ag b.minutes,ah ag b.bM,ah ag b.fD,ah ag b.dc,ah ag b.fC,ah ag b.ll,ah ag b.lm,ah ag b.pl,ah ag b.pm,ae pm lm cm,ae pn ln cn,ae none 0 0] 119)).heap.size=wo.heap.size+1:=by simp
    clear Ej KH OW hkw hxw dX f14 g2 hb2 ho2;go_wp2
    go_loopw [8,10,11,34] (fun v8 _ _ i wr=>∃(j:Nat) (v14:aj),j≤lk∧i=ah ag j∧wr.ownsRow (wo.heap.size+1) 3 1 v8 (bS j M).length ((bS j M).map fun(i:Nat)=>aG ag (i:Int))∧wr.ownsRow (wo.heap.size+1) 81 3 v14 (bS j M).length (eu (mV ms (bS j M)))∧wr.heap[wo.heap.size]?=some (au (b.cells (ae pm lm cm) (ae pn ln cn) v14) 119 (0,0))∧az wo.heap.size wo wr) (fun _ _ _ i _=>lk-(intOf i).toNat)
    case atStart=>exact⟨0,ae none 0 0,jS _,by simp,dL _ _ _ _,dL _ _ _ _,ahH.out,ahT.out⟩
    case round=>
     obtain⟨j,v14,hj,rfl,GV,Aw,U0,yl⟩:=hrel;have Y8:=yl.size;have hcl:=iw j M;have hM5:M<512:=bB hlt (aN hN8 (by decide))
     by_cases Wl:j<lk
     ·have QG:=vW M j hM5;have I4:j<ms.length:=by rw[Yo.out];exact Wl
      obtain⟨g,off,rfl,c0,c1,c2⟩:=HBk.out wr (wZ.out.trans (yl.mono JD)) j I4;obtain⟨p8,c8,rfl⟩:=dF GV;obtain⟨Sw,c14,rfl⟩:=dF Aw;have Wb:=MQ ms (bS j M) j I4;have ad4:=ai GV;have UD:=ai Aw;have HOj:=ai U0;have Ru:=ai yl;have HPs:=ai Wb;have OU:=(ak.1 U0).1;clear GV Aw U0 yl Wb;generalize hmk:ms[j]=mk at *;cases hb:M.testBit j
      ·have e1:bS (j+1) M=bS j M:=by rw[mN,hb];simp
       rw[hb] at QG;have H1:=ai e1;clear e1;go_wp2;go_roundw
       case rel=>exact⟨j+1,ae Sw (bS j M).length c14,by omega,by simp,by rw[H1.out];exact ad4.out.alloc _,by rw[H1.out];exact UD.out.alloc _,(aS _ _ _ OU).trans HOj.out,Ru.out.alloc (by omega) _⟩
       case measure=>simp[intOf];omega
      ·have e1:bS (j+1) M=bS j M++[j]:=by rw[mN,hb];simp
       rw[hb] at QG;have H1:=ai e1;clear e1;have Md:∃xs,((bS j M).map fun(i:Nat)=>aG ag (i:Int))=xs:=⟨_,rfl⟩
       have hys:∃ys,eu (mV ms (bS j M))=ys:=⟨_,rfl⟩
       obtain⟨xs,Md⟩:=Md;obtain⟨ys,hys⟩:=hys;have HXs:=ai Md;have HYs:=ai hys;generalize hk:(bS j M).length=k at *;have HKk:=ai hk;clear hk Md hys
       have Ym:lh (Mb wo.heap.size wr.heap.size (fun v=>(b.cells (ae pm lm cm) (ae pn ln cn) v)) (ae p8 k c8) (ae Sw k c14) k xs ys mk.cells wo false false false (wr.alloc (au mk.cells 81))):=
        ai ⟨fun _=>by have:=ad4.out.alloc (au mk.cells 81);rw[HXs.out] at this;exact this,fun _=>by have:=UD.out.alloc (au mk.cells 81);rw[HYs.out] at this;exact this,fun _=>(aS wr (au mk.cells 81) _ OU).trans HOj.out,ay _ _,Ru.out.alloc (by omega) _,by simp;omega⟩
       have acM:some wr.heap.size≠(ae Sw k c14:aj).ownBlock:=fun h=>by
        have:=(UD.out.lt _ h.symm).2;omega
       have afW:wr.heap.size≠wo.heap.size:=by omega
       go_wp2
       refine Ph.uK (late:=[(10,8,ae p8 k c8)]) (hlate:=⟨⟨rfl,rfl⟩,trivial⟩) (by kernel_rfl) [
       pV (ae p8 k c8),
        pV (ah ag j),
        fun v ds w9=>∃q,v=ae (some ⟨q,0,none⟩) 1 1∧w9.heap[q]?=some (au #[ah ag j] 3 (0,0))∧some q≠(ae p8 k c8:aj).ownBlock,
        fun v ds w9=>∃p c,v=ae p (k+1) c∧w9.ownsRow (wo.heap.size+1) 3 1 v (k+1) (xs++[ah ag j]),
        pV (bp (some ⟨wo.heap.size,0,none⟩)),
        pV (bp (some ⟨wo.heap.size,14,none⟩)),
        pV (ae Sw k c14),
        pV (aO mk.cells),
        fun v ds w9=>∃q,v=ae (some ⟨q,0,none⟩) 1 1∧w9.heap[q]?=some (au mk.cells 81 (0,0))∧some q≠(ae Sw k c14:aj).ownBlock,
        fun v ds w9=>∃p c,v=ae p (k+1) c∧w9.ownsRow (wo.heap.size+1) 81 3 v (k+1) (ys++mk.cells.toList),
        fun v ds w9=>∃p c,v=ae p (k+1) c∧w9.ownsRow (wo.heap.size+1) 3 1 v (k+1) (xs++[ah ag j]),
        pV (bp (some ⟨wo.heap.size,0,none⟩)),
        pV (bp (some ⟨wo.heap.size,14,none⟩)),
        fun v ds w9=>∃x,ds[1]?=some x∧w9.heap[wo.heap.size]?=some (au (b.cells (ae pm lm cm) (ae pn ln cn) x) 119 (0,0))]
        (fun L w9=>Mb wo.heap.size wr.heap.size (fun v=>(b.cells (ae pm lm cm) (ae pn ln cn) v)) (ae p8 k c8) (ae Sw k c14) k xs ys mk.cells wo (L 3) (L 9) (L 13) w9) [(9,pv wo.heap.size 0),(10,ah ag j),(11,pv wr.heap.size 0)] (by kernel_rfl) ?rst (fun L L2 w1 w2 RB h hb=>h.next (RB 3) (RB 9) (RB 13) hb) (Ym.out.drew) ⟨rfl,rfl,rfl,trivial⟩ ?reach ?rfin
       case rst=>
        refine⟨Ph.sV,Ph.sV,?_,?_,Ph.sV,Ph.sV,Ph.sV,Ph.sV,?_,?_,?_,Ph.sV,Ph.sV,?_,trivial⟩
        ·rintro v ds L w1 w2 hS ⟨q,h1,h2,h3⟩ hb;exact⟨q,h1,(hb.block _ (ak.1 h2).1).trans h2,h3⟩
        ·rintro v ds L w1 w2 hS ⟨p,c,h1,h2⟩ hb;exact⟨p,c,h1,cX h2 hb⟩
        ·rintro v ds L w1 w2 hS ⟨q,h1,h2,h3⟩ hb;exact⟨q,h1,(hb.block _ (ak.1 h2).1).trans h2,h3⟩
        ·rintro v ds L w1 w2 hS ⟨p,c,h1,h2⟩ hb;exact⟨p,c,h1,cX h2 hb⟩
        ·rintro v ds L w1 w2 hS ⟨p,c,h1,h2⟩ hb;exact⟨p,c,h1,cX h2 hb⟩
        ·rintro v ds L w1 w2 hS ⟨x,h1,h2⟩ hb;exact⟨x,h1,(hb.block _ (ak.1 h2).1).trans h2⟩
       case reach=>
        refine⟨?_,?_,?_,?_,?_,?_,?_,?_,?_,?_,?_,?_,?_,?_,trivial⟩<;>rintro Lf ev w1 hn vg hS hc hg hf ⟨b9,Xc,b11,hlt⟩ hd
        ·clear hd;have b8:=hlt.1 (hn 10 (by kernel_rfl));refine Ph.yv ?_ rfl;go_simp
        ·clear hd;refine Ph.yv ?_ rfl;go_simp
        ·have d1:ev (aJ 45)=_:=hd.1 rfl;clear hd;refine Lag.Yields.value (v:=ae (some ⟨w1.heap.size,0,none⟩) 1 1) (w':=w1.alloc (au #[ah ag j] 3)) ?_ ⟨⟨_,rfl,ay _ _,fun h=>absurd ((hS.Iq (hn 3 (by kernel_rfl))).lt _ h.symm).2 (Nat.lt_irrefl _)⟩,cF ((aw _ _).alloc (ax _) _)⟩;go_simp
        ·have d0:ev (aJ 44)=_:=hd.1 rfl;obtain⟨q,e46,hq1,UZ⟩:=hd.2.1 rfl;clear hd;replace e46:ev (aJ 46)=_:=e46;have hown:=hS.Iq vg;refine Yields.tP (aJ 44) (aJ 46) 25 rfl (wo.heap.size+1) 3 i0 (ah ag 0) 1 8 gu hi hz0 hz1 hz2 rfl (by decide) (ae p8 k c8) k _ d0 hown ⟨q,0,none⟩ 1 1 [ah ag j] e46 rfl ?_ (by simp[cu]) (by unfold jC;omega) (by omega) hS.size ?_
         ·intro n u hn;have h5:=aH hq1 n u (by simpa using hn);have e:(⟨q,0,none⟩:cU).add n=⟨q,n,none⟩:=by cases n<;>simp[kC]
          rw[e];exact h5
         intro v' w' hown' hgrow hnil;obtain⟨p',c',rfl⟩:=dF hown';refine⟨⟨p',c',rfl,hown'⟩,.inr ⟨hS.ahj vg hgrow (by simp[Ph.upd]) (by simp[Ph.upd]),?_⟩⟩;intro t u ds hj hL hp
         match t,hp with
         |0,hp=>exact hp
         |1,hp=>exact hp
         |2,⟨q2,h1,h2,h3⟩=>exact⟨q2,h1,(hgrow.block q2 (ak.1 h2).1 h3).trans h2,h3⟩
         |3,_=>exact(hj rfl).elim
         |4,hp=>exact hp
         |5,hp=>exact hp
         |6,hp=>exact hp
         |7,hp=>exact hp
         |8,⟨q2,h1,h2,h3⟩=>exact⟨q2,h1,(hgrow.block q2 (ak.1 h2).1 (mJ hown h2 (by decide))).trans h2,h3⟩
         |9,_=>rw[hn 9 (by kernel_rfl)] at hL;cases hL
         |10,_=>rw[hn 10 (by kernel_rfl)] at hL;cases hL
         |11,hp=>exact hp
         |12,hp=>exact hp
         |13,_=>rw[hn 13 (by kernel_rfl)] at hL;cases hL
         |t+14,_=>trivial
        ·clear hd;refine Ph.yv ?_ rfl;go_simp
        ·have d4:ev (aJ 48)=_:=hd.1 rfl;clear hd;refine Ph.yv ?_ rfl;go_simp
        ·have d5:ev (aJ 49)=_:=hd.1 rfl;clear hd;have amd:=aH (hS.YL (hn 13 (by kernel_rfl))) 14 (ae Sw k c14) rfl;refine Ph.yv ?_ rfl;go_simp
        ·clear hd;refine Lag.Yields.yZ 81 _ rfl _ b11 81 _ (0,0) _ hS.UU Tryz.underlying81 rfl (by kernel_rfl) ⟨rfl,cF (aw _ _)⟩
        ·have d7:ev (aJ 51)=_:=hd.1 rfl;clear hd;refine Lag.Yields.value (v:=ae (some ⟨w1.heap.size,0,none⟩) 1 1) (w':=w1.alloc (au mk.cells 81)) ?_ ⟨⟨_,rfl,ay _ _,fun h=>absurd ((hS.yN (hn 9 (by kernel_rfl))).lt _ h.symm).2 (Nat.lt_irrefl _)⟩,cF ((aw _ _).alloc (ax _) _)⟩;go_simp
        ·have d6:ev (aJ 50)=_:=hd.1 rfl;obtain⟨q,e52,hq1,UZ⟩:=hd.2.1 rfl;clear hd;replace e52:ev (aJ 52)=_:=e52;have hown:=hS.yN vg;refine Yields.tP (aJ 50) (aJ 52) 26 rfl (wo.heap.size+1) 81 i1 (aO #[ah ag 0,ah ag 0,ah ag 0]) 3 24 Tryz.underlying26 FN OT hy1 hy2 rfl (by decide) (ae Sw k c14) k _ d6 hown ⟨q,0,none⟩ 1 1 mk.cells.toList e52 rfl ?_ (by simp[cu]) (by unfold jC;omega) (by omega) hS.size ?_
         ·intro n u hn;have h5:=aH hq1 n u (by simpa using hn);have e:(⟨q,0,none⟩:cU).add n=⟨q,n,none⟩:=by cases n<;>simp[kC]
          rw[e];exact h5
         intro v' w' hown' hgrow hnil;obtain⟨p',c',rfl⟩:=dF hown';refine⟨⟨p',c',rfl,hown'⟩,.inr ⟨hS.adV vg hgrow acM (by simp[Ph.upd]) (by simp[Ph.upd]),?_⟩⟩;intro t u ds hj hL hp
         match t,hp with
         |0,hp=>exact hp
         |1,hp=>exact hp
         |2,⟨q2,h1,h2,h3⟩=>exact⟨q2,h1,(hgrow.block q2 (ak.1 h2).1 (mJ hown h2 (by decide))).trans h2,h3⟩
         |3,⟨p,c,h1,h2⟩=>exact⟨p,c,h1,fY h2 fun g hg=>hgrow.block g (h2.lt g hg).2 (yM h2 hown (by decide) hg)⟩
         |4,hp=>exact hp
         |5,hp=>exact hp
         |6,hp=>exact hp
         |7,hp=>exact hp
         |8,⟨q2,h1,h2,h3⟩=>exact⟨q2,h1,(hgrow.block q2 (ak.1 h2).1 h3).trans h2,h3⟩
         |9,_=>exact(hj rfl).elim
         |10,_=>rw[hn 10 (by kernel_rfl)] at hL;cases hL
         |11,hp=>exact hp
         |12,hp=>exact hp
         |13,_=>rw[hn 13 (by kernel_rfl)] at hL;cases hL
         |t+14,_=>trivial
        ·have d3:∃p c,(ev (aJ 47))=ae p (k+1) c∧w1.ownsRow (wo.heap.size+1) 3 1 (ev (aJ 47)) (k+1) (xs++[ah ag j]):=hd.1 rfl;clear hd;obtain⟨p,c,h1,h2⟩:=d3;refine Lag.Yields.value (v:=ev (aJ 47)) (w':=w1) rfl ⟨⟨p,c,h1,h2⟩,cF (aw _ _)⟩
        ·clear hd;refine Ph.yv ?_ rfl;go_simp
        ·have d11:ev (aJ 54)=_:=hd.1 rfl;clear hd;refine Ph.yv ?_ rfl;go_simp
        ·have d12:ev (aJ 55)=_:=hd.1 rfl;have d9:∃p c,(ev (aJ 53))=ae p (k+1) c∧w1.ownsRow (wo.heap.size+1) 81 3 (ev (aJ 53)) (k+1) (ys++mk.cells.toList):=hd.2.1 rfl;clear hd;obtain⟨p,c,h1,h2⟩:=d9;have sw:=hS.YL vg;have c1:=aH sw 14 (ae Sw k c14) rfl;have f1:=cM sw 14;refine Lag.Yields.skip (w':=w1.setCell ⟨wo.heap.size,14,none⟩ (ev (aJ 53))) ?_ ⟨⟨_,rfl,cP _ sw⟩,.inr ⟨hS.put vg afW (ev (aJ 53)) (by simp[Ph.upd]) (by simp[Ph.upd]),?_⟩⟩
         ·rw[h1];go_simp
         ·intro t u ds hj hL hp
          match t,hp with
          |0,hp=>exact hp
          |1,hp=>exact hp
          |2,⟨q2,g1,g2,g3⟩=>exact⟨q2,g1,(bj _ _ _ _ (Ul g2 sw (by decide))).trans g2,g3⟩
          |3,⟨p2,c2,g1,g2⟩=>exact⟨p2,c2,g1,di g2 sw (by decide)⟩
          |4,hp=>exact hp
          |5,hp=>exact hp
          |6,hp=>exact hp
          |7,hp=>exact hp
          |8,⟨q2,g1,g2,g3⟩=>exact⟨q2,g1,(bj _ _ _ _ (Ul g2 sw (by decide))).trans g2,g3⟩
          |9,⟨p2,c2,g1,g2⟩=>exact⟨p2,c2,g1,di g2 sw (by decide)⟩
          |10,⟨p2,c2,g1,g2⟩=>exact⟨p2,c2,g1,di g2 sw (by decide)⟩
          |11,hp=>exact hp
          |12,hp=>exact hp
          |13,_=>exact(hj rfl).elim
          |t+14,_=>trivial
       case rfin=>
        intro a3 w3 hR;have hS:=hR.s;have e9:∃p c,(a3.tmps.getD 53 af)=ae p (k+1) c∧w3.ownsRow (wo.heap.size+1) 81 3 (a3.tmps.getD 53 af) (k+1) (ys++mk.cells.toList):=hR.val 9 (by decide);have Nx:∃p c,(a3.tmps.getD 8 af)=ae p (k+1) c∧w3.ownsRow (wo.heap.size+1) 3 1 (a3.tmps.getD 8 af) (k+1) (xs++[ah ag j]):=hR.val 10 (by decide);have Yc:∃x,([a3.tmps.getD 55 af,a3.tmps.getD 53 af,a3.tmps.getD 8 af,a3.tmps.getD 44 af,a3.tmps.getD 45 af,a3.tmps.getD 46 af,a3.tmps.getD 47 af,a3.tmps.getD 48 af,a3.tmps.getD 49 af,a3.tmps.getD 50 af,a3.tmps.getD 51 af,a3.tmps.getD 52 af,a3.tmps.getD 53 af,a3.tmps.getD 8 af]:List aj)[1]?=some x∧w3.heap[wo.heap.size]?=some (au (b.cells (ae pm lm cm) (ae pn ln cn) x) 119 (0,0)):=hR.val 13 (by decide);have ha:=hR.lits 71 rfl;simp only[aT,bT,nA] at ha;rw[hR.kp 0 (by kernel_rfl),hR.kp 1 (by kernel_rfl),hR.kp 2 (by kernel_rfl),hR.kp 3 (by kernel_rfl),hR.kp 4 (by kernel_rfl),hR.kp 5 (by kernel_rfl),hR.kp 6 (by kernel_rfl),hR.kp 7 (by kernel_rfl),hR.kp 9 (by kernel_rfl),hR.kp 12 (by kernel_rfl),hR.kp 13 (by kernel_rfl),hR.kp 14 (by kernel_rfl),hR.kp 15 (by kernel_rfl),hR.kp 16 (by kernel_rfl),hR.kp 17 (by kernel_rfl),hR.kp 18 (by kernel_rfl),hR.kp 19 (by kernel_rfl),hR.kp 20 (by kernel_rfl),hR.kp 21 (by kernel_rfl),hR.kp 22 (by kernel_rfl),hR.kp 23 (by kernel_rfl),hR.kp 24 (by kernel_rfl),hR.kp 25 (by kernel_rfl),hR.kp 26 (by kernel_rfl),hR.kp 27 (by kernel_rfl),hR.kp 28 (by kernel_rfl),hR.kp 29 (by kernel_rfl),hR.kp 30 (by kernel_rfl),hR.kp 31 (by kernel_rfl),hR.kp 32 (by kernel_rfl),hR.kp 33 (by kernel_rfl),hR.kp 34 (by kernel_rfl),hR.kp 57 (by kernel_rfl),hR.kp 58 (by kernel_rfl),hR.kp 59 (by kernel_rfl),hR.kp 60 (by kernel_rfl),hR.kp 61 (by kernel_rfl),hR.kp 62 (by kernel_rfl),hR.kp 63 (by kernel_rfl),hR.kp 64 (by kernel_rfl),hR.kp 65 (by kernel_rfl),hR.kp 66 (by kernel_rfl),hR.kp 67 (by kernel_rfl),hR.kp 68 (by kernel_rfl),hR.kp 69 (by kernel_rfl),hR.kp 70 (by kernel_rfl)] at ha;simp only[ko,List.getD_cons_succ,List.getD_cons_zero] at ha;clear hR;obtain⟨p8n,c8n,e8,ho8⟩:=Nx;obtain⟨p53,c53,e53,Zd⟩:=e9;obtain⟨x,ex,sw⟩:=Yc;have Ya:a3.tmps.getD 53 af=x:=bg ex;rw[e53] at Ya Zd;subst Ya;rw[e8] at ho8;rw[e8] at ha;generalize a3.tmps.getD=zz at ha;have pw:=ai hS.below;have HOb:=ai sw;have HN8:=ai ho8;have ahO:=ai Zd;clear e8 e53 ex ho8 Zd sw hS;subst ha;go_wp2;go_roundw
        case rel=>
         refine⟨j+1,ae p53 (k+1) c53,by omega,by simp,?_,?_,HOb.out,pw.out⟩
         ·rw[H1.out,pJ,fG,HKk.out,HXs.out];exact HN8.out
         ·rw[H1.out,pJ,HKk.out,HPs.out,MG,HYs.out];exact ahO.out
        case measure=>simp[intOf];omega
     ·obtain rfl:lk=j:=by omega
      rename ar=>wc;obtain⟨p8,c8,rfl⟩:=dF GV;obtain⟨Sw,c14,rfl⟩:=dF Aw;obtain⟨p6,c6,rfl⟩:=dF HO6.out;have hpl:(mV ms (bS lk M)).length=(bS lk M).length:=Ki ms _ fun i hi=>by rw[Yo.out];simp[bS] at hi;exact hi.1
      have Zi:=Sv HMo.out (n:=lk) (mask:=M) (by rw[Yo.out];exact ax _)
      have hrk:Reads wc (ae Sw (bS lk M).length c14) (mV ms (bS lk M)).length (eu (mV ms (bS lk M))):=by
       rw[hpl];exact Reads.iW Aw (by omega) (by rw[rX,hpl];omega)
      have hwc:az w.heap.size w wc:=wZ.out.trans (yl.mono JD);obtain⟨r2,hr2⟩:∃r2,decide (aX b ml ss (mV ms (bS lk M))≠[])=r2:=⟨_,rfl⟩
      have hso:=HSo.out _ _ r2 hr2 Zi wc hwc hrk;have ac1:pI b ml ss ms M = !r2:=by unfold pI;rw[Yo.out,←hr2];simp
      have Wd:=Qg b ml ss ms M;rw[ac1] at Wd;have hcI:cZ ms.length M=(bS lk M).map fun(i:Nat)=>(i:Int):=by rw[Yo.out];rfl
      rw[hcI] at Wd;obtain⟨y0,y1,y2,y3,y4,y5,y6,y7,y8,y9,Mp,Oc,Ob,Oa,JJ⟩:=bN U0;have Tk:wc.ownsRow w.heap.size 3 1 (ae p8 (bS lk M).length c8) (bS lk M).length ((bS lk M).map fun(i:Nat)=>aG ag (i:Int)):=ownsRow_base GV (by omega);have ad2:=ai hso;have HOd:=ai Wd;have HO8:=ai Tk;have HWc:=ai hwc;have Ru:=ai yl
      have hrl:rows.length≤M:=by
       have h1:=congrArg List.length HRw.out;have h2:=List.length_filter_le (pI b ml ss ms) (aT M);unfold DZ at h1;simp at h1 h2;omega
      clear hso Wd Tk GV Aw hwc yl U0 Zi hrk hpl hcI ac1 x0 x1 x2 x3 x4 x5 x6 x7 x8 x9 nX nW oU oh oP z14 agW;generalize bS lk M=C at *
      go_wp2_with (first
       |(go_at_call 119;refine ad2.out.mono ?_;clear ad2;rintro e w5 ⟨rfl,hb5⟩
         have HB5:=ai hb5;have hs5:=hb5.size;clear hb5 y0 y1 y2 y3 y4 y5 y6 y7 y8 y9 Mp Oc Ob Oa JJ)
       |(at_builtin
         have hQ1:∀(i:Nat) (u:aj),([ae p8 C.length c8]:List aj)[i]?=some u→(w5.alloc (au #[ae p8 C.length c8] 25)).cell? ((⟨w5.heap.size,0,none⟩:cU).add i)=some u:=fun i u hj=>by
          match i,hj with
          |0,hj=>simp at hj;subst hj;simp[kC]
         have IY:az wo.heap.size wo w5:=Ru.out.trans (HB5.out.mono (by omega));have ZP:w5.ownsRow w.heap.size 25 1 (ae p6 rows.length c6) rows.length (rows.map (·.1)):=cX HO6.out IY;have Xq:=ai ZP;refine iA _ rfl _ _ 116 rfl w.heap.size 25 i2 (ae none 0 0) 1 24 Tryz.underlying116 hi2 hx0 hx1 hx2 rfl (by decide) (ae p6 rows.length c6) rows.length (rows.map (·.1)) rfl (ZP.alloc _) ⟨w5.heap.size,0,none⟩ 1 1 [ae p8 C.length c8] rfl rfl hQ1 (by simp[cu]) (by unfold jC;omega) (by omega) (by simp;omega) ?_;intro v' w7 Tl hgrow hnil
         obtain⟨p7,c7,rfl⟩:=dF Tl))
      ·have e2:r2=false:=by simp_all
       subst e2;have BR:∀q,(ae p6 rows.length c6:aj).ownBlock=some q→w.heap.size≤q:=fun q hq=>(Xq.out.lt q hq).1;have hb7:az w.heap.size w w7:=((wZ.out.trans (IY.mono JD)).alloc (by omega) _).grown hgrow (by simp;omega) BR;have hn5:∀q,q<w5.heap.size→some q≠(ae p6 rows.length c6:aj).ownBlock→w7.heap[q]?=w5.heap[q]?:=fun q hq hne=>(hgrow.block q (by simp;omega) hne).trans (aS _ _ _ hq);have m7:∀ {base size v n xs},w5.ownsRow base 3 size v n xs→w7.ownsRow base 3 size v n xs:=fun h=>fY h fun q hq=>hn5 q (h.lt q hq).2 (yM h Xq.out (by decide) hq);have hk5:=(IY.block _ V3).trans HKw.out;have hx5:=(IY.block _ hwx).trans HXw.out;have hk7:=(hn5 _ (by omega) (mJ Xq.out hk5 (by decide))).trans hk5;have hx7:=(hn5 _ (by omega) (mJ Xq.out hx5 (by decide))).trans hx5
       have HR7:lh (∀r∈rows++[((ae p8 C.length c8:aj),C.map fun(i:Nat)=>(i:Int))],w7.ownsRow w.heap.size 3 1 r.1 r.2.length (r.2.map (aG ag))):=ai fun r hr=>by
        rcases List.mem_append.1 hr with h|h
        ·exact m7 (cX (HOr.out r h) IY)
        ·rw[List.mem_singleton] at h;subst h;simp only[dz,List.map_map];exact m7 (cX HO8.out HB5.out)
       have HB7:=ai hb7;have HK7:=ai hk7;have HX7:=ai hx7;have HO7:=ai Tl;clear hb7 hn5 m7 hk5 hx5 hk7 hx7 Tl hgrow hnil hQ1 ZP IY BR;go_roundw
       case rel=>
        refine⟨M+1,rows++[((ae p8 C.length c8:aj),C.map fun(i:Nat)=>(i:Int))],by omega,by simp,?_,?_,HR7.out,HK7.out,HX7.out,HB7.out⟩
        ·rw[HOd.out,fG,HRw.out];rfl
        ·rw[pJ,fG];exact HO7.out
       case measure=>simp[intOf];omega
      ·have e2:r2=true:=by simp_all
       subst e2;have IY:az wo.heap.size wo w5:=Ru.out.trans (HB5.out.mono (by omega));have HW5:=ai IY;clear IY;go_roundw
       case rel=>
        refine⟨M+1,rows,by omega,by simp,?_,cX HO6.out HW5.out,fun r hr=>cX (HOr.out r hr) HW5.out,(HW5.out.block _ V3).trans HKw.out,(HW5.out.block _ hwx).trans HXw.out,wZ.out.trans (HW5.out.mono JD)⟩;rw[HOd.out,HRw.out];simp
       case measure=>simp[intOf];omega
   ·obtain rfl:N=M:=by omega
    rename ar=>wz;have hz:=dX.size
    obtain⟨f,rest,rfl⟩:∃f rest,rows=f::rest:=by
     cases rows with
     |nil=>
      have h1:=YK HE.out;rw[Yo.out,←HN0.out] at h1;exact absurd Ej.symm h1
     |cons f rest=>exact⟨f,rest,rfl⟩
    have hfr:∀r∈f::rest,rL wz r:=fun r hr=>Reads.iW (OW r hr) (by
     have h1:r.2∈DZ b ml ss ms N:=by rw[←Ej];exact List.mem_map_of_mem hr
     unfold DZ at h1;obtain⟨m,_,h2⟩:=List.mem_map.1 h1;rw[←h2];unfold cZ;have:=iw ms.length m;rw[dz,Yo.out] at *
     omega) (by simp)
    have hcl:qy b ml ss ms=(nD f rest).2:=by
     unfold qy;rw[if_neg (by simp[HE.out]),Yo.out,←HN0.out,←Ej,Hf];rfl
    have QH:rL wz (nD f rest):=hfr _ (by
     rcases sN rest f with h|h
     ·rw[h];simp
     ·exact bz _ h)
    have hrl:rest.length+1≤N:=by
     have h1:=congrArg List.length Ej;have h2:=List.length_filter_le (pI b ml ss ms) (aT N);unfold DZ at h1;simp at h1 h2;omega
    obtain⟨go,cap,rfl,hgo,KS,hcell⟩:∃go cap,u6=ae (some ⟨go,0,none⟩) (rest.length+1) cap∧go<wz.heap.size∧rest.length+1≤cap∧∀j u,((f::rest).map (·.1))[j]?=some u→wz.cell? ⟨go,0+j,none⟩=some u:=by
     have h1:=Reads.iW KH (by simp;omega) (by simp);rcases KH.2 with⟨_,h0⟩|⟨g,cap,cur,rfl,_,hg,_⟩
     ·simp at h0
     ·rcases h1 with⟨h2,_⟩|⟨g2,off,aat,h2,h3,h4,h5⟩
      ·cases h2
      ·cases h2;exact⟨g,cap,rfl,h4,h3.2,h5⟩
    have HC0:lh (∀w,az wz.heap.size wz w→w.cell? ⟨go,0,none⟩=some f.1):=ai fun w hb=>(hb.cell (p:=⟨go,0,none⟩) hgo).trans (hcell 0 _ rfl)
    have UC:lh (∀w,az wz.heap.size wz w→Reads w (ae (if cap=1 then some ⟨go,0,none⟩ else some ⟨go,1,none⟩) rest.length (cap-1)) rest.length (rest.map (·.1))):=ai fun w hb=>
     if h1:cap=1 then by
      have h0:rest=[]:=aY (by omega);subst h0;rw[if_pos h1];exact .inr ⟨go,0,cap-1,rfl,⟨by simp,by simp⟩,bB hgo hb.size,fun j u hj=>by simp at hj⟩
     else by
     rw[if_neg h1]
     exact .inr ⟨go,1,cap-1,rfl,by omega,bB hgo hb.size,fun j u hj=>(hb.cell (p:=⟨go,_,none⟩) hgo).trans (by
      have:=hcell (j+1) u (by simpa using hj)
      rwa [show 0+(j+1)=1+j by omega] at this)⟩
    have HBe:lh (∀W,az wz.heap.size wz W→bm aq 120 #[.func (.func 121) #[] #[],f.1,ae (if cap=1 then some ⟨go,0,none⟩ else some ⟨go,1,none⟩) rest.length (cap-1)] W fun e w'=>e=aC (nD f rest).1∧az W.heap.size W w'):=ai fun W hb=>
     Rg f rest _ W ((hfr f (by simp)).below hb) (fun r hr=>(hfr r (bz _ hr)).below hb) (UC.out W hb)
    obtain⟨pf,cf,XW,_⟩:=aR (hfr f (by simp));obtain⟨pb,cb,U3,_⟩:=aR QH
    have HBm:lh (∀W,az wz.heap.size wz W→Reads W (ae pb (qy b ml ss ms).length cb) (qy b ml ss ms).length ((qy b ml ss ms).map (aG ag))):=ai fun W hb=>by
     have:=QH.below hb;unfold rL at this;rw[U3] at this;rw[hcl];exact this
    rw[XW] at HC0 HBe;rw[U3,←hcl] at HBe;generalize Wq:(qy b ml ss ms).length=cn at *;have HCn:=ai Wq;clear Wq;generalize f.2.length=fn at *;have HNz:=ai dX;clear Ej KH OW hkw hxw dX hfr hcl QH hcell XW U3 UC;generalize rest.length=Rn at *;have l2:(1:Int)≤(Rn:Int)+1:=by omega
    go_wp2
    refine bQ (by kernel_rfl) [
    pV (ae (some ⟨go,0,none⟩) (Rn+1) cap),
     pV (pv go 0),
     pV (ae pf fn cf),
     pV (ae (some ⟨go,0,none⟩) (Rn+1) cap),
     pV (ae (if cap=1 then some ⟨go,0,none⟩ else some ⟨go,1,none⟩) Rn (cap-1)),
     pV (ae pb cn cb),
     pV (ae pb cn cb),
     pV (ah ag 0)]
     (fun w9=>az wz.heap.size wz w9) [(6,ae (some ⟨go,0,none⟩) (Rn+1) cap)] (by kernel_rfl) ?rst (fun w1 w2 h hb=>h.trans (hb.mono h.size)) ((aw _ _).drew) ⟨rfl,trivial⟩ ?reach ?rfin
    case rst=>
     refine⟨sV,sV,sV,sV,sV,sV,sV,sV,trivial⟩
    case reach=>
     refine⟨?_,?_,?_,?_,?_,?_,?_,?_,trivial⟩<;>rintro ev w1 hS hc hg hf ⟨b6,-⟩ hd
     ·clear hd;exact tV
     ·have d0:ev (aJ 65)=_:=hd.1 rfl;clear hd;exact tV
     ·have d1:ev (aJ 66)=_:=hd.1 rfl;clear hd;have z:=HC0.out w1 hS;exact tV
     ·clear hd;exact tV
     ·have d3:ev (aJ 68)=_:=hd.1 rfl;clear hd;exact tV
     ·have d2:ev (aJ 67)=_:=hd.1 rfl;have d4:ev (aJ 69)=_:=hd.2.1 rfl;clear hd;refine yc (HBe.out w1 hS) ?_ fun _=>rfl;go_simp
     ·have d5:ev (aJ 70)=_:=hd.1 rfl;clear hd;exact tV
     ·clear hd;exact tV
    case rfin=>
     intro a3 w3 hR;have hS:=hR.s;have e6:a3.tmps.getD 2 af=_:=hR.val 6 (by decide);have e7:a3.tmps.getD 3 af=_:=hR.val 7 (by decide);have ha:=hR.lits 71 rfl;simp only[aT,bT,nA] at ha;clear hR;rw[e6,e7] at ha;generalize a3.tmps.getD=zz at ha;have pw:=ai hS;clear e6 e7 hS;subst ha;go_wp2;go_ret2;exact⟨_,rfl,by rw[HCn.out];exact HBm.out _ pw.out,HNz.out.trans (pw.out.mono (by omega))⟩
theorem CQ(b:BB)(men sent marks:aj)(ml:List Mn)(ss:List Int)(ms:List Mk)(w:ar)(hL:Laid w)(hB:cI b men sent marks ml ss ms w)(hne:aX b ml ss ms≠[])(cp:Nat)
  (hown:∀W,az w.heap.size w W→bm aq 164 #[aO (b.cells men sent marks),pv cp 0] W fun e W'=>e=aC (ah ag 0)∧az W.heap.size W W') :
  bm aq 103 #[aO (b.cells men sent marks),.func (.func 164) #[] #[pv cp 0]] w fun e w'=>∃v,e=aC (cA #[aO (b.open men sent marks v),ah ag 0])∧gP w' w.heap.size v (aX b ml ss ms)∧az w.heap.size w w':=by
 have ur:lh (∀W,az w.heap.size w W→bm aq 71 #[aO (b.cells men sent marks)] W fun e w'=>e=aC (ah ag 0)∧az W.heap.size W w'):=ai fun W hb=>eZ b men sent marks ml ss ms W (hL.below hb) (hB.below hb);have UH:lh (∀W,az w.heap.size w W→bm aq 116 #[.func (.func 117) #[aO (b.cells men sent marks)] #[]] W fun e w'=>∃v,e=aC v∧gP w' W.heap.size v (aX b ml ss ms)∧az W.heap.size W w'):=ai fun W hb=>oI b men sent marks ml ss ms W (hB.below hb);have Fe:=ai hown;obtain⟨pm,cm,rfl,_⟩:=aR hB.rm;obtain⟨pn,cn,rfl,_⟩:=aR hB.rs;obtain⟨pk,ck,rfl,_⟩:=aR hB.rk;have jJ:0<(aX b ml ss ms).length:=cQ.2 hne;clear hL hB hne hown;generalize aX b ml ss ms=all at *;generalize ml.length=lm at *;generalize ss.length=ln at *;generalize ms.length=lk at *;have b0:az w.heap.size w ((w.alloc (au (b.cells (ae pm lm cm) (ae pn ln cn) (ae pk lk ck)) 28)).alloc (au gW 122)):=((aw _ _).alloc (ax _) _).alloc (by simp) _;have HT:lh (Two w (b.cells (ae pm lm cm) (ae pn ln cn) (ae pk lk ck)) 28 gW 122 ((w.alloc (au (b.cells (ae pm lm cm) (ae pn ln cn) (ae pk lk ck)) 28)).alloc (au gW 122))):=ai ⟨(Two.mk' w _ _ _ _).one,(Two.mk' w _ _ _ _).two,b0,by simp⟩;have JH:=ai b0;clear b0
 go_enter Tryz.func103,Tryz.ntmps103
 go_wp2_with (first
  |(refine lT rfl 122 _ rfl _ rfl 122 _ (0,0) _ HL7.out iM rfl (by kernel_rfl) ?_)
  |(refine fE rfl 122 _ _ rfl _ _ rfl rfl 122 _ N5.out (by kernel_rfl) rfl (by simp[cu]) ?_)
  |(go_at_call 71;refine(ur.out _ JH.out).mono ?_;clear ur;rintro e w1 ⟨rfl,hb1⟩
    have rN:=HT.out.next hb1;have oQ:=ai rN
    obtain⟨x0,x1,x2,x3,x4,x5,x6,x7,x8,x9,nX,nW,oU,oh,oP⟩:=bN rN.one
    clear rN hb1)
  |(go_at_call 164;refine(Fe.out _ (oQ.out.below.alloc (by have:=oQ.out.size;omega) _)).mono ?_;clear Fe;rintro e w2 ⟨rfl,hb2⟩
    have Cn:=(oQ.out.next ((aw _ _).alloc (ax _) (au (b.open (ae pm lm cm) (ae pn ln cn) (ae pk lk ck) (ae none 0 0)) 122))).next hb2;have F8:=ai Cn
    have hk2:=(hb2.block w1.heap.size (by simp)).trans (ay w1 _);have Ga:=ai hk2;have hs1:=oQ.out.size;have hs2:=hb2.size;obtain⟨y0,y1,y2,y3,y4,y5,y6,y7,y8,y9,Mp,Oc,Ob,Oa,JJ,Hq⟩:=js hk2
    clear Cn hk2 hb2)
  |(go_at_call 116;refine(UH.out _ F8.out.below).mono ?_;clear UH;rintro e w3 ⟨v,rfl,iY,hb3⟩
    have Fl:=F8.out.next hb3;have Ps:=ai Fl;have L8:=ai iY
    simp only[dW] at hs2;have hk3:=(hb3.block w1.heap.size (by omega)).trans Ga.out;have HK3:=ai hk3;have hs3:=hb3.size;clear y0 y1 y2 y3 y4 y5 y6 y7 y8 y9 Mp Oc Ob Oa JJ Hq;have Hq:=aH hk3 15 _ rfl;have f7:=cM hk3 15;have pw:=ai hb3
    obtain⟨gv,oK,rfl,Eo⟩:∃gv oK,v=ae (some ⟨gv,0,none⟩) all.length oK∧w2.heap.size≤gv:=by
     rcases iY.1.2 with⟨_,h0⟩|⟨g,cap,cur,rfl,hg,_⟩
     ·omega
     ·exact⟨g,cap,rfl,hg⟩
    have HL7:lh ((w3.setCell ⟨w1.heap.size,15,none⟩ (ae (some ⟨gv,0,none⟩) all.length oK)).heap[w1.heap.size]?=some (au (b.open (ae pm lm cm) (ae pn ln cn) (ae pk lk ck) (ae (some ⟨gv,0,none⟩) all.length oK)) 122 (0,0))):=ai (cP _ hk3);have N5:lh ((w3.setCell ⟨w1.heap.size,15,none⟩ (ae (some ⟨gv,0,none⟩) all.length oK)).heap[w.heap.size+1]?=some (au gW 122 (0,0))):=ai ((bj _ _ _ _ (by show w.heap.size+1≠w1.heap.size;omega)).trans Fl.two)
    clear Fl hk3 hb3 iY))
 refine bn (results_cell_tmp (g:=w.heap.size+1) rfl rfl (j0 _ _ 122 122 _ (0,0) _ (cV N5.out) iM rfl (by kernel_rfl))) rfl ⟨_,rfl,?_,?_⟩
 ·have hs1:=oQ.out.size;refine(L8.out.at_ fun g hg=>?_).base (by omega);have Er:g=gv:=by simpa [jc] using hg.symm
  subst Er;exact(setRow_other (by omega)).trans (bj _ _ _ _ (by show g≠w1.heap.size;omega))
 ·have hs1:=oQ.out.size;exact dA (Ps.out.below.setCell (p:=⟨w1.heap.size,15,none⟩) (by show _≤w1.heap.size;omega) _) (by omega)
theorem VC(b:BB)(men sent marks:aj)(ml:List Mn)(ss:List Int)(ms:List Mk)(w:ar)(hL:Laid w)(hB:cI b men sent marks ml ss ms w)(hne:aX b ml ss ms≠[])(cp:Nat)
  (hown:∀W,az w.heap.size w W→bm aq 126 #[aO (b.cells men sent marks),pv cp 0] W fun e W'=>e=aC (ah ag 0)∧az W.heap.size W W') :
  bm aq 103 #[aO (b.cells men sent marks),.func (.func 126) #[] #[pv cp 0]] w fun e w'=>∃v,e=aC (cA #[aO (b.open men sent marks v),ah ag 0])∧gP w' w.heap.size v (aX b ml ss ms)∧az w.heap.size w w':=by
 have ur:lh (∀W,az w.heap.size w W→bm aq 71 #[aO (b.cells men sent marks)] W fun e w'=>e=aC (ah ag 0)∧az W.heap.size W w'):=ai fun W hb=>eZ b men sent marks ml ss ms W (hL.below hb) (hB.below hb);have UH:lh (∀W,az w.heap.size w W→bm aq 116 #[.func (.func 117) #[aO (b.cells men sent marks)] #[]] W fun e w'=>∃v,e=aC v∧gP w' W.heap.size v (aX b ml ss ms)∧az W.heap.size W w'):=ai fun W hb=>oI b men sent marks ml ss ms W (hB.below hb);have Fe:=ai hown;obtain⟨pm,cm,rfl,_⟩:=aR hB.rm;obtain⟨pn,cn,rfl,_⟩:=aR hB.rs;obtain⟨pk,ck,rfl,_⟩:=aR hB.rk;have jJ:0<(aX b ml ss ms).length:=cQ.2 hne;clear hL hB hne hown;generalize aX b ml ss ms=all at *;generalize ml.length=lm at *;generalize ss.length=ln at *;generalize ms.length=lk at *;have b0:az w.heap.size w ((w.alloc (au (b.cells (ae pm lm cm) (ae pn ln cn) (ae pk lk ck)) 28)).alloc (au gW 122)):=((aw _ _).alloc (ax _) _).alloc (by simp) _;have HT:lh (Two w (b.cells (ae pm lm cm) (ae pn ln cn) (ae pk lk ck)) 28 gW 122 ((w.alloc (au (b.cells (ae pm lm cm) (ae pn ln cn) (ae pk lk ck)) 28)).alloc (au gW 122))):=ai ⟨(Two.mk' w _ _ _ _).one,(Two.mk' w _ _ _ _).two,b0,by simp⟩;have JH:=ai b0;clear b0
 go_enter Tryz.func103,Tryz.ntmps103
 go_wp2_with (first
  |(refine lT rfl 122 _ rfl _ rfl 122 _ (0,0) _ HL7.out iM rfl (by kernel_rfl) ?_)
  |(refine fE rfl 122 _ _ rfl _ _ rfl rfl 122 _ N5.out (by kernel_rfl) rfl (by simp[cu]) ?_)
  |(go_at_call 71;refine(ur.out _ JH.out).mono ?_;clear ur;rintro e w1 ⟨rfl,hb1⟩
    have rN:=HT.out.next hb1;have oQ:=ai rN
    obtain⟨x0,x1,x2,x3,x4,x5,x6,x7,x8,x9,nX,nW,oU,oh,oP⟩:=bN rN.one
    clear rN hb1)
  |(go_at_call 126;refine(Fe.out _ (oQ.out.below.alloc (by have:=oQ.out.size;omega) _)).mono ?_;clear Fe;rintro e w2 ⟨rfl,hb2⟩
    have Cn:=(oQ.out.next ((aw _ _).alloc (ax _) (au (b.open (ae pm lm cm) (ae pn ln cn) (ae pk lk ck) (ae none 0 0)) 122))).next hb2;have F8:=ai Cn
    have hk2:=(hb2.block w1.heap.size (by simp)).trans (ay w1 _);have Ga:=ai hk2;have hs1:=oQ.out.size;have hs2:=hb2.size;obtain⟨y0,y1,y2,y3,y4,y5,y6,y7,y8,y9,Mp,Oc,Ob,Oa,JJ,Hq⟩:=js hk2
    clear Cn hk2 hb2)
  |(go_at_call 116;refine(UH.out _ F8.out.below).mono ?_;clear UH;rintro e w3 ⟨v,rfl,iY,hb3⟩
    have Fl:=F8.out.next hb3;have Ps:=ai Fl;have L8:=ai iY
    simp only[dW] at hs2;have hk3:=(hb3.block w1.heap.size (by omega)).trans Ga.out;have HK3:=ai hk3;have hs3:=hb3.size;clear y0 y1 y2 y3 y4 y5 y6 y7 y8 y9 Mp Oc Ob Oa JJ Hq;have Hq:=aH hk3 15 _ rfl;have f7:=cM hk3 15;have pw:=ai hb3
    obtain⟨gv,oK,rfl,Eo⟩:∃gv oK,v=ae (some ⟨gv,0,none⟩) all.length oK∧w2.heap.size≤gv:=by
     rcases iY.1.2 with⟨_,h0⟩|⟨g,cap,cur,rfl,hg,_⟩
     ·omega
     ·exact⟨g,cap,rfl,hg⟩
    have HL7:lh ((w3.setCell ⟨w1.heap.size,15,none⟩ (ae (some ⟨gv,0,none⟩) all.length oK)).heap[w1.heap.size]?=some (au (b.open (ae pm lm cm) (ae pn ln cn) (ae pk lk ck) (ae (some ⟨gv,0,none⟩) all.length oK)) 122 (0,0))):=ai (cP _ hk3);have N5:lh ((w3.setCell ⟨w1.heap.size,15,none⟩ (ae (some ⟨gv,0,none⟩) all.length oK)).heap[w.heap.size+1]?=some (au gW 122 (0,0))):=ai ((bj _ _ _ _ (by show w.heap.size+1≠w1.heap.size;omega)).trans Fl.two)
    clear Fl hk3 hb3 iY))
 refine bn (results_cell_tmp (g:=w.heap.size+1) rfl rfl (j0 _ _ 122 122 _ (0,0) _ (cV N5.out) iM rfl (by kernel_rfl))) rfl ⟨_,rfl,?_,?_⟩
 ·have hs1:=oQ.out.size;refine(L8.out.at_ fun g hg=>?_).base (by omega);have Er:g=gv:=by simpa [jc] using hg.symm
  subst Er;exact(setRow_other (by omega)).trans (bj _ _ _ _ (by show g≠w1.heap.size;omega))
 ·have hs1:=oQ.out.size;exact dA (Ps.out.below.setCell (p:=⟨w1.heap.size,15,none⟩) (by show _≤w1.heap.size;omega) _) (by omega)
theorem Sz(b:BB)(men sent marks:aj)(ml:List Mn)(ss:List Int)(ms:List Mk)(w:ar)(hL:Laid w)(hB:cI b men sent marks ml ss ms w)(hne:aX b ml ss ms≠[])(cp cq:Nat)
  (hown:∀W,az w.heap.size w W→bm aq 131 #[aO (b.cells men sent marks),pv cp 0,pv cq 0] W fun e W'=>e=aC (ah ag 0)∧az W.heap.size W W') :
  bm aq 103 #[aO (b.cells men sent marks),.func (.func 131) #[] #[pv cp 0,pv cq 0]] w fun e w'=>∃v,e=aC (cA #[aO (b.open men sent marks v),ah ag 0])∧gP w' w.heap.size v (aX b ml ss ms)∧az w.heap.size w w':=by
 have ur:lh (∀W,az w.heap.size w W→bm aq 71 #[aO (b.cells men sent marks)] W fun e w'=>e=aC (ah ag 0)∧az W.heap.size W w'):=ai fun W hb=>eZ b men sent marks ml ss ms W (hL.below hb) (hB.below hb);have UH:lh (∀W,az w.heap.size w W→bm aq 116 #[.func (.func 117) #[aO (b.cells men sent marks)] #[]] W fun e w'=>∃v,e=aC v∧gP w' W.heap.size v (aX b ml ss ms)∧az W.heap.size W w'):=ai fun W hb=>oI b men sent marks ml ss ms W (hB.below hb);have Fe:=ai hown;obtain⟨pm,cm,rfl,_⟩:=aR hB.rm;obtain⟨pn,cn,rfl,_⟩:=aR hB.rs;obtain⟨pk,ck,rfl,_⟩:=aR hB.rk;have jJ:0<(aX b ml ss ms).length:=cQ.2 hne;clear hL hB hne hown;generalize aX b ml ss ms=all at *;generalize ml.length=lm at *;generalize ss.length=ln at *;generalize ms.length=lk at *;have b0:az w.heap.size w ((w.alloc (au (b.cells (ae pm lm cm) (ae pn ln cn) (ae pk lk ck)) 28)).alloc (au gW 122)):=((aw _ _).alloc (ax _) _).alloc (by simp) _;have HT:lh (Two w (b.cells (ae pm lm cm) (ae pn ln cn) (ae pk lk ck)) 28 gW 122 ((w.alloc (au (b.cells (ae pm lm cm) (ae pn ln cn) (ae pk lk ck)) 28)).alloc (au gW 122))):=ai ⟨(Two.mk' w _ _ _ _).one,(Two.mk' w _ _ _ _).two,b0,by simp⟩;have JH:=ai b0;clear b0
 go_enter Tryz.func103,Tryz.ntmps103
 go_wp2_with (first
  |(refine lT rfl 122 _ rfl _ rfl 122 _ (0,0) _ HL7.out iM rfl (by kernel_rfl) ?_)
  |(refine fE rfl 122 _ _ rfl _ _ rfl rfl 122 _ N5.out (by kernel_rfl) rfl (by simp[cu]) ?_)
  |(go_at_call 71;refine(ur.out _ JH.out).mono ?_;clear ur;rintro e w1 ⟨rfl,hb1⟩
    have rN:=HT.out.next hb1;have oQ:=ai rN
    obtain⟨x0,x1,x2,x3,x4,x5,x6,x7,x8,x9,nX,nW,oU,oh,oP⟩:=bN rN.one
    clear rN hb1)
  |(go_at_call 131;refine(Fe.out _ (oQ.out.below.alloc (by have:=oQ.out.size;omega) _)).mono ?_;clear Fe;rintro e w2 ⟨rfl,hb2⟩
    have Cn:=(oQ.out.next ((aw _ _).alloc (ax _) (au (b.open (ae pm lm cm) (ae pn ln cn) (ae pk lk ck) (ae none 0 0)) 122))).next hb2;have F8:=ai Cn
    have hk2:=(hb2.block w1.heap.size (by simp)).trans (ay w1 _);have Ga:=ai hk2;have hs1:=oQ.out.size;have hs2:=hb2.size;obtain⟨y0,y1,y2,y3,y4,y5,y6,y7,y8,y9,Mp,Oc,Ob,Oa,JJ,Hq⟩:=js hk2
    clear Cn hk2 hb2)
  |(go_at_call 116;refine(UH.out _ F8.out.below).mono ?_;clear UH;rintro e w3 ⟨v,rfl,iY,hb3⟩
    have Fl:=F8.out.next hb3;have Ps:=ai Fl;have L8:=ai iY
    simp only[dW] at hs2;have hk3:=(hb3.block w1.heap.size (by omega)).trans Ga.out;have HK3:=ai hk3;have hs3:=hb3.size;clear y0 y1 y2 y3 y4 y5 y6 y7 y8 y9 Mp Oc Ob Oa JJ Hq;have Hq:=aH hk3 15 _ rfl;have f7:=cM hk3 15;have pw:=ai hb3
    obtain⟨gv,oK,rfl,Eo⟩:∃gv oK,v=ae (some ⟨gv,0,none⟩) all.length oK∧w2.heap.size≤gv:=by
     rcases iY.1.2 with⟨_,h0⟩|⟨g,cap,cur,rfl,hg,_⟩
     ·omega
     ·exact⟨g,cap,rfl,hg⟩
    have HL7:lh ((w3.setCell ⟨w1.heap.size,15,none⟩ (ae (some ⟨gv,0,none⟩) all.length oK)).heap[w1.heap.size]?=some (au (b.open (ae pm lm cm) (ae pn ln cn) (ae pk lk ck) (ae (some ⟨gv,0,none⟩) all.length oK)) 122 (0,0))):=ai (cP _ hk3);have N5:lh ((w3.setCell ⟨w1.heap.size,15,none⟩ (ae (some ⟨gv,0,none⟩) all.length oK)).heap[w.heap.size+1]?=some (au gW 122 (0,0))):=ai ((bj _ _ _ _ (by show w.heap.size+1≠w1.heap.size;omega)).trans Fl.two)
    clear Fl hk3 hb3 iY))
 refine bn (results_cell_tmp (g:=w.heap.size+1) rfl rfl (j0 _ _ 122 122 _ (0,0) _ (cV N5.out) iM rfl (by kernel_rfl))) rfl ⟨_,rfl,?_,?_⟩
 ·have hs1:=oQ.out.size;refine(L8.out.at_ fun g hg=>?_).base (by omega);have Er:g=gv:=by simpa [jc] using hg.symm
  subst Er;exact(setRow_other (by omega)).trans (bj _ _ _ _ (by show g≠w1.heap.size;omega))
 ·have hs1:=oQ.out.size;exact dA (Ps.out.below.setCell (p:=⟨w1.heap.size,15,none⟩) (by show _≤w1.heap.size;omega) _) (by omega)
abbrev gV:Array Value:=#[ah ag 0,ah ag 0,ah ag 0,ah ag 0,ah ag 0,ah ag 0,ah ag 0,ah ag 0,ah ag 0,ah ag 0,ah ag 0,ah ag 0,ae none 0 0,ae none 0 0,ae none 0 0]
theorem Hl(b:BB)(men sent marks:aj)(ml:List Mn)(ss:List Int)(ms:List Mk)(w:ar)(hL:Laid w)(hB:cI b men sent marks ml ss ms w)(hne:aX b ml ss ms≠[]) :
  bm aq 150 #[aO (b.cells men sent marks)] w fun e w'=>∃m' s' k',e=aC (cA #[aO (b.cells m' s' k'),ah ag 0])∧fB b m' s' k' ml ss ms w'∧rM w.heap.size m' s' k'∧az w.heap.size w w':=by
 obtain⟨pm,cm,rfl,_⟩:=aR hB.rm;obtain⟨pn,cn,rfl,_⟩:=aR hB.rs;obtain⟨pk,ck,rfl,_⟩:=aR hB.rk;have b0:az w.heap.size w ((w.alloc (au (b.cells (ae pm ml.length cm) (ae pn ss.length cn) (ae pk ms.length ck)) 28)).alloc (au gV 28)):=((aw _ _).alloc (ax _) _).alloc (by simp) _;have HT:lh (Two w (b.cells (ae pm ml.length cm) (ae pn ss.length cn) (ae pk ms.length ck)) 28 gV 28 ((w.alloc (au (b.cells (ae pm ml.length cm) (ae pn ss.length cn) (ae pk ms.length ck)) 28)).alloc (au gV 28))):=ai ⟨(Two.mk' w _ _ _ _).one,(Two.mk' w _ _ _ _).two,b0,by simp⟩;have ur:=ai (eZ b _ _ _ ml ss ms _ (hL.below b0) (hB.below b0))
 have HSo:lh (∀W,az w.heap.size w W→bm aq 119 #[aO (b.cells (ae pm ml.length cm) (ae pn ss.length cn) (ae pk ms.length ck))] W fun e w'=>e=aC (aF true)∧az W.heap.size W w'):=ai fun W hb=>by
  have:=JZ b _ _ _ ml ss ms W (hB.below hb);rw[decide_eq_true hne] at this;exact this
 have Fe:lh (∀W,az w.heap.size w W→bm aq 157 #[aO (b.cells (ae pm ml.length cm) (ae pn ss.length cn) (ae pk ms.length ck))] W fun e w'=>∃m' s' k',e=aC (aO (b.cells m' s' k'))∧fB b m' s' k' ml ss ms w'∧rM W.heap.size m' s' k'∧az W.heap.size W w'):=ai fun W hb=>VA b _ _ _ ml ss ms W (hB.below hb);have HML:=ai hB.gX;clear hL hB hne b0
 go_enter Tryz.func150,Tryz.ntmps150
 go_wp2_with (first
  |(refine fE rfl 28 _ _ rfl _ _ rfl rfl 28 _ HZ.out (by kernel_rfl) rfl (by simp[cu]) ?_)
  |(go_at_call 71;refine ur.out.mono ?_;clear ur;rintro e w1 ⟨rfl,hb1⟩
    have rN:=HT.out.next hb1;have oQ:=ai rN
    obtain⟨x0,x1,x2,x3,x4,x5,x6,x7,x8,x9,nX,nW,oU,oh,oP⟩:=bN rN.one
    clear rN hb1)
  |(go_at_call 119;refine(HSo.out _ oQ.out.below).mono ?_;clear HSo;rintro e w2 ⟨rfl,hb2⟩
    have Cn:=oQ.out.next hb2;have F8:=ai Cn
    clear x0 x1 x2 x3 x4 x5 x6 x7 x8 x9 nX nW oU oh oP;obtain⟨x0,x1,x2,x3,x4,x5,x6,x7,x8,x9,nX,nW,oU,oh,oP⟩:=bN Cn.one
    clear Cn hb2)
  |(go_at_call 157;refine(Fe.out _ F8.out.below).mono ?_;clear Fe;rintro e w3 ⟨m',s',k',rfl,O5,hf3,hb3⟩
    have Ps:=ai (F8.out.next hb3);have HZ:=ai Ps.out.two;obtain⟨p5,c5,rfl,_⟩:=aR O5.rm;obtain⟨p8,c8,rfl,_⟩:=aR O5.rs;obtain⟨UT,c11,rfl,_⟩:=aR O5.rk;have pw:=ai O5;have UE:lh (fB b (ae p5 ml.length c5) (ae p8 ss.length c8) (ae UT ms.length c11) ml ss ms (w3.setRow (w.heap.size+1) (b.cells (ae p5 ml.length c5) (ae p8 ss.length c8) (ae UT ms.length c11)))):=ai (O5.setRow hf3 (by have:=F8.out.size;omega));have HF3:=ai (hf3.base F8.out.below.size)
    clear O5 hb3 hf3))
 refine bn (results_cell_tmp (g:=w.heap.size+1) rfl rfl (j0 _ _ 28 28 _ (0,0) _ (cV HZ.out) cG rfl (by kernel_rfl))) rfl ⟨_,_,_,rfl,UE.out,HF3.out,dA Ps.out.below (by omega)⟩
theorem yV(a1 a2 b1 b2 m1 m2:Int)(w:ar)(a:Act)(h4:a.tmps.getD 4 af=bp (some ⟨w.heap.size+1+1,0,none⟩))(h5:a.tmps.getD 5 af=aF (decide (m1≤m2)))(hd:a.defers=[]) :
  bodyPost aq Tryz.f153 (fun e w'=>e=aC (cA #[aO #[ah ag m1,ah ag m2],aF (decide (m1≤m2))])∧az w.heap.size w w') Exit.ret a
   ((((w.alloc (au #[ah ag a1,ah ag a2] 23)).alloc (au #[ah ag b1,ah ag b2] 23)).alloc (au #[ah ag m1,ah ag m2] 23)).alloc (au #[ah ag m1,ah ag m2] 23)).drew:=by
 have b0:=(((((aw w.heap.size w).alloc (ax _) (au #[ah ag a1,ah ag a2] 23)).alloc (by simp) (au #[ah ag b1,ah ag b2] 23)).alloc (by simp;omega) (au #[ah ag m1,ah ag m2] 23)).alloc (by simp;omega) (au #[ah ag m1,ah ag m2] 23)).drew;have hk:=(ou w #[ah ag a1,ah ag a2] #[ah ag b1,ah ag b2] #[ah ag m1,ah ag m2] 23 23 23).2.2;have hk2:=(aS _ (au #[ah ag m1,ah ag m2] 23) _ (ak.1 hk).1).trans hk;refine bn (results_cell_tmp (g:=w.heap.size+1+1) rfl h4 (j0 _ _ 23 23 _ (0,0) _ hk2 Tryz.underlying23 rfl (by kernel_rfl))) hd ⟨by rw[h5],b0⟩
theorem SS(a1 a2 b1 b2:Int)(w:ar) :
  bm aq 153 #[aO #[ah ag a1,ah ag a2],aO #[ah ag b1,ah ag b2]] w fun e w'=>e=aC (cA #[aO #[ah ag (max a1 b1),ah ag (min a2 b2)],aF (decide (max a1 b1≤min a2 b2))])∧az w.heap.size w w':=by
 have key:∀(m1 m2:Int),max a1 b1=m1→min a2 b2=m2→bm aq 153 #[aO #[ah ag a1,ah ag a2],aO #[ah ag b1,ah ag b2]] w fun e w'=>e=aC (cA #[aO #[ah ag m1,ah ag m2],aF (decide (m1≤m2))])∧az w.heap.size w w':=by
  intro m1 m2 h1 h2
  go_enter Tryz.func153,Tryz.ntmps153
  rcases Int.lt_or_le a1 b1 with q1|q1<;>rcases Int.lt_or_le b2 a2 with q2|q2
  ·obtain rfl:m1=b1:=by omega
   obtain rfl:m2=b2:=by omega
   clear h1 h2;go_wp2
   go_region
   go_wp2;exact yV a1 a2 m1 m2 m1 m2 w _ rfl rfl rfl
  ·obtain rfl:m1=b1:=by omega
   obtain rfl:m2=a2:=by omega
   clear h1 h2;go_wp2
   go_region
   go_wp2;exact yV a1 m2 m1 b2 m1 m2 w _ rfl rfl rfl
  ·obtain rfl:m1=a1:=by omega
   obtain rfl:m2=b2:=by omega
   clear h1 h2;go_wp2
   go_region
   go_wp2;exact yV m1 a2 b1 m2 m1 m2 w _ rfl rfl rfl
  ·obtain rfl:m1=a1:=by omega
   obtain rfl:m2=a2:=by omega
   clear h1 h2;go_wp2
   go_region
   go_wp2;exact yV m1 m2 b1 b2 m1 m2 w _ rfl rfl rfl
 exact key _ _ rfl rfl
def BB.lk(b:BB)(l m:Int):BB:={ b with ll:=l,lm:=m }
theorem BB.acj{b:BB}(h:b.Ok){l m:Int}(h0:0≤l)(h1:l≤m)(h2:m≤99)(h3:m-l<3):(b.lk l m).Ok:=⟨h.room,h.depth,h.least,h.minutes,h.bM,h.fD,h.dc,h.fC,⟨h0,h1,h2,h3⟩,h.MK⟩
theorem cI.lk{b:BB}{men sent marks:aj}{ml:List Mn}{ss:List Int}{ms:List Mk}{w:ar}(h:cI b men sent marks ml ss ms w){l m:Int}(h0:0≤l)(h1:l≤m)(h2:m≤99)(h3:m-l<3):cI (b.lk l m) men sent marks ml ss ms w:=
 ⟨BB.acj h.ok h0 h1 h2 h3,h.gX,⟨h.l9.mem,h.l9.asc,h.l9.len⟩,⟨h.kE.mem,h.kE.len⟩,h.rm,h.rs,h.rk⟩
theorem UR(b:BB)(men sent marks:aj)(ml:List Mn)(ss:List Int)(ms:List Mk)(w:ar)(hL:Laid w)(hB:cI b men sent marks ml ss ms w)(lo hi:Int)(h0:0≤lo)(h1:lo≤hi)(h2:hi≤99)(z1 z2:Int)(hz1:max b.ll lo=z1)(hz2:min b.lm hi=z2)(hz:z1≤z2)
  (hne:aX (b.lk z1 z2) ml ss ms≠[]) :
  bm aq 80 #[aO (b.cells men sent marks),aO #[ah ag lo,ah ag hi]] w fun e w'=>∃m' s' k',e=aC (cA #[aO ((b.lk z1 z2).cells m' s' k'),ah ag 0])∧fB (b.lk z1 z2) m' s' k' ml ss ms w'∧az w.heap.size w w':=by
 have hlk:=hB.ok.leak;obtain⟨pm,cm,rfl,_⟩:=aR hB.rm;obtain⟨pn,cn,rfl,_⟩:=aR hB.rs;obtain⟨pk,ck,rfl,_⟩:=aR hB.rk;have TB:=ou w (b.cells (ae pm ml.length cm) (ae pn ss.length cn) (ae pk ms.length ck)) #[ah ag lo,ah ag hi] gV 28 23 28;have b0:az w.heap.size w (((w.alloc (au (b.cells (ae pm ml.length cm) (ae pn ss.length cn) (ae pk ms.length ck)) 28)).alloc (au #[ah ag lo,ah ag hi] 23)).alloc (au gV 28)):=(((aw _ _).alloc (ax _) _).alloc (by simp) _).alloc (by simp;omega) _;have HT:lh (Two w (b.cells (ae pm ml.length cm) (ae pn ss.length cn) (ae pk ms.length ck)) 28 #[ah ag lo,ah ag hi] 23 (((w.alloc (au (b.cells (ae pm ml.length cm) (ae pn ss.length cn) (ae pk ms.length ck)) 28)).alloc (au #[ah ag lo,ah ag hi] 23)).alloc (au gV 28))):=ai ⟨TB.1,TB.2.1,b0,by simp⟩;have HZ0:=ai TB.2.2;have ur:=ai (eZ b _ _ _ ml ss ms _ (hL.below b0) (hB.below b0))
 have HAg:lh (∀W,az w.heap.size w W→bm aq 150 #[aO ((b.lk z1 z2).cells (ae pm ml.length cm) (ae pn ss.length cn) (ae pk ms.length ck))] W fun e w'=>∃m' s' k',e=aC (cA #[aO ((b.lk z1 z2).cells m' s' k'),ah ag 0])∧fB (b.lk z1 z2) m' s' k' ml ss ms w'∧rM W.heap.size m' s' k'∧az W.heap.size W w'):=ai fun W hb=>
  Hl (b.lk z1 z2) _ _ _ ml ss ms W (hL.below hb) ((hB.below hb).lk (by omega) hz (by omega) (by omega)) hne
 have hmt:=fun W=>SS b.ll b.lm lo hi W;rw[hz1,hz2,decide_eq_true hz] at hmt;have HMt:=ai hmt;clear hL hB hne b0 TB hmt hz1 hz2
 go_enter Tryz.func80,Tryz.ntmps80
 go_wp2_with (first
  |(refine lT rfl 28 _ rfl _ rfl 28 _ (0,0) _ HK4.out cG rfl (by kernel_rfl) ?_)
  |(refine fE rfl 28 _ _ rfl _ _ rfl rfl 28 _ HZ5.out (by kernel_rfl) rfl (by simp[cu]) ?_)
  |(go_at_call 71;refine ur.out.mono ?_;clear ur;rintro e w1 ⟨rfl,hb1⟩
    have rN:=HT.out.next hb1;have oQ:=ai rN
    have Xn:=ai ((hb1.block (w.heap.size+2) (by simp)).trans HZ0.out);have y0:=aH rN.two 0 _ rfl;have y1:=aH rN.two 1 _ rfl
    clear rN hb1)
  |(go_at_call 152;refine(rZ lo hi 0 99 _ h0 h1 h2).mono ?_;rintro e w2 ⟨rfl,hb2⟩
    have Cn:=oQ.out.next hb2;have F8:=ai Cn
    have HZ2:=ai ((hb2.block _ (ak.1 Xn.out).1).trans Xn.out);have x8:=aH Cn.one 8 _ rfl;have x9:=aH Cn.one 9 _ rfl;have v0:=aH Cn.two 0 _ rfl;have v1:=aH Cn.two 1 _ rfl
    clear Cn hb2)
  |(go_at_call 153;refine(HMt.out _).mono ?_;rintro e w3 ⟨rfl,hb3⟩
    have Fl:=F8.out.next hb3;have Ps:=ai Fl
    have HZ3:=ai ((hb3.block _ (ak.1 HZ2.out).1).trans HZ2.out);have hx3:=(aS w3 (au #[ah ag z1,ah ag z2] 23) _ (ak.1 Fl.one).1).trans Fl.one;have u8:=aH hx3 8 _ rfl;have u9:=aH hx3 9 _ rfl;have f8:=cM hx3 8;have f9:=cM hx3 9;have HK4:lh ((((w3.alloc (au #[ah ag z1,ah ag z2] 23)).setCell ⟨w.heap.size,8,none⟩ (ah ag z1)).setCell ⟨w.heap.size,9,none⟩ (ah ag z2)).heap[w.heap.size]?=some (au ((b.lk z1 z2).cells (ae pm ml.length cm) (ae pn ss.length cn) (ae pk ms.length ck)) 28 (0,0))):=ai (cP _ (cP _ hx3));have HB4:lh (az w.heap.size w (((w3.alloc (au #[ah ag z1,ah ag z2] 23)).setCell ⟨w.heap.size,8,none⟩ (ah ag z1)).setCell ⟨w.heap.size,9,none⟩ (ah ag z2))):=ai (((Fl.below.alloc Fl.below.size _).setCell (p:=⟨w.heap.size,8,none⟩) (ax _) _).setCell (p:=⟨w.heap.size,9,none⟩) (ax _) _);have N5:lh ((((w3.alloc (au #[ah ag z1,ah ag z2] 23)).setCell ⟨w.heap.size,8,none⟩ (ah ag z1)).setCell ⟨w.heap.size,9,none⟩ (ah ag z2)).heap[w.heap.size+2]?=some (au gV 28 (0,0))):=ai ((bj _ _ _ _ (by show w.heap.size+2≠w.heap.size;omega)).trans ((bj _ _ _ _ (by show w.heap.size+2≠w.heap.size;omega)).trans ((aS _ _ _ (ak.1 HZ3.out).1).trans HZ3.out)))
    clear Fl hb3 hx3)
  |(go_at_call 150;refine(HAg.out _ HB4.out).mono ?_;clear HAg;rintro e w5 ⟨m',s',k',rfl,TI,hf5,hb5⟩
    have HZ5:=ai ((hb5.block _ (ak.1 N5.out).1).trans N5.out);obtain⟨p5,c5,rfl,_⟩:=aR TI.rm;obtain⟨p8,c8,rfl,_⟩:=aR TI.rs;obtain⟨UT,c11,rfl,_⟩:=aR TI.rk;have UE:lh (fB (b.lk z1 z2) (ae p5 ml.length c5) (ae p8 ss.length c8) (ae UT ms.length c11) ml ss ms (w5.setRow (w.heap.size+2) ((b.lk z1 z2).cells (ae p5 ml.length c5) (ae p8 ss.length c8) (ae UT ms.length c11)))):=ai (TI.setRow hf5 (ak.1 N5.out).1);have HB5:=ai (HB4.out.trans (hb5.mono HB4.out.size))
    clear TI hb5 hf5))
 refine bn (results_cell_tmp (g:=w.heap.size+2) rfl rfl (j0 _ _ 28 28 _ (0,0) _ (cV HZ5.out) cG rfl (by kernel_rfl))) rfl ⟨_,_,_,rfl,UE.out,dA HB5.out (by omega)⟩
theorem EO(w:ar):bm aq 149 #[ae none 0 0] w fun e w'=>e=aC (ae none 0 0)∧w=w':=by
 have hq:∀w,(binOp BinOp.eql 26 (mE none 0 0) (mE none 0 0)).run aq w=.ok (aF true) w:=fun w=>by kernel_rfl
 go_enter Tryz.func149,Tryz.ntmps149
 go_wp2
 go_ret
 exact⟨rfl,rfl⟩
theorem A3(m:Mk)(w:ar)(k:Nat)(hk:w.heap[k]?=some (au m.cells 81 (0,0))):∃v' w',(j6 #[26,26] 26 #[ae none 0 0,ae (some ⟨k,0,none⟩) 1 1]).run aq w=.ok v' w'∧w'.ownsRow w.heap.size 81 3 v' 1 (eu [m])∧az w.heap.size w w':=by
 obtain⟨i0,hi,hz0,hz1,hz2⟩:=jR IV
 obtain⟨v',w',hr,h2,h3,_⟩:=run_append_own (P:=aq) w w.heap.size 26 26 81 i0 (aO #[ah ag 0,ah ag 0,ah ag 0]) 3 24 Tryz.underlying26 hi hz0 hz1 hz2 rfl (by decide) (ae none 0 0) 0 [] (dL _ _ _ _) ⟨k,0,none⟩ 1 1 m.cells.toList rfl
  (fun j u hj=>by
   have h5:=aH hk j u (by simpa using hj);have e:(⟨k,0,none⟩:cU).add j=⟨k,j,none⟩:=by cases j<;>simp[kC]
   rw[e];exact h5) (by simp[cu]) (by unfold jC;omega) (by omega) (ax _)
 exact⟨v',w',hr,by simpa [eu] using h2,(aw _ _).grown h3 (ax _) fun j hj=>by simp[jc] at hj⟩
theorem Xk(b:BB)(men sent:aj)(ml:List Mn)(ss:List Int)(w:ar)(hL:Laid w)(hB:cI b men sent (ae none 0 0) ml ss [] w)(m:Mk)(hm:lH b [m])(hne:aX b ml ss [m]≠[]) :
  bm aq 75 #[aO (b.cells men sent (ae none 0 0)),aO m.cells] w fun e w'=>∃m' s' k',e=aC (cA #[aO (b.cells m' s' k'),ah ag 0])∧fB b m' s' k' ml ss [m] w'∧az w.heap.size w w':=by
 obtain⟨pm,cm,rfl,_⟩:=aR hB.rm;obtain⟨pn,cn,rfl,_⟩:=aR hB.rs;have TB:=ou w (b.cells (ae pm ml.length cm) (ae pn ss.length cn) (ae none 0 0)) m.cells gV 28 81 28;have b0:az w.heap.size w (((w.alloc (au (b.cells (ae pm ml.length cm) (ae pn ss.length cn) (ae none 0 0)) 28)).alloc (au m.cells 81)).alloc (au gV 28)):=(((aw _ _).alloc (ax _) _).alloc (by simp) _).alloc (by simp;omega) _;have HT:lh (Two w (b.cells (ae pm ml.length cm) (ae pn ss.length cn) (ae none 0 0)) 28 m.cells 81 (((w.alloc (au (b.cells (ae pm ml.length cm) (ae pn ss.length cn) (ae none 0 0)) 28)).alloc (au m.cells 81)).alloc (au gV 28))):=ai ⟨TB.1,TB.2.1,b0,by simp⟩;have HZ0:=ai TB.2.2;have ur:=ai (eZ b _ _ _ ml ss [] _ (hL.below b0) (hB.below b0))
 have HAg:lh (∀W k,az w.heap.size w W→Reads W k 1 (eu [m])→bm aq 150 #[aO (b.cells (ae pm ml.length cm) (ae pn ss.length cn) k)] W fun e w'=>∃m' s' k',e=aC (cA #[aO (b.cells m' s' k'),ah ag 0])∧fB b m' s' k' ml ss [m] w'∧rM W.heap.size m' s' k'∧az W.heap.size W w'):=ai fun W k hb hr=>
  Hl b _ _ _ ml ss [m] W (hL.below hb) ⟨hB.ok,hB.gX,hB.l9,hm,hB.rm.below hb,hB.rs.below hb,hr⟩ hne
 clear hL hB hne b0 TB hm
 go_enter Tryz.func75,Tryz.ntmps75
 go_wp2_with (first
  |(go_at_call 71;refine ur.out.mono ?_;clear ur;rintro e w1 ⟨rfl,hb1⟩
    have oQ:=ai (HT.out.next hb1);have Xn:=ai ((hb1.block (w.heap.size+2) (by simp)).trans HZ0.out)
    clear hb1))
 refine Ph.bQ (by kernel_rfl) [
 pV (pv w.heap.size 14),
  pV (ae none 0 0),
  pV (ae none 0 0),
  pV (aO m.cells),
  fun v ds w9=>∃k,v=ae (some ⟨k,0,none⟩) 1 1∧w9.heap[k]?=some (au m.cells 81 (0,0)),
  fun v ds w9=>w9.ownsRow (w.heap.size+3) 81 3 v 1 (eu [m]),
  pV (pv w.heap.size 14),
  fun v ds w9=>∃x,ds[1]?=some x∧w9.heap[w.heap.size]?=some (au (b.cells (ae pm ml.length cm) (ae pn ss.length cn) x) 28 (0,0))]
  (fun L w9=>∃k0,w9.heap[w.heap.size]?=some (au (b.cells (ae pm ml.length cm) (ae pn ss.length cn) k0) 28 (0,0))∧(L 7=false→k0=ae none 0 0)∧w9.heap[w.heap.size+1]?=some (au m.cells 81 (0,0))∧w9.heap[w.heap.size+2]?=some (au gV 28 (0,0))∧az w.heap.size w w9∧w.heap.size+3≤w9.heap.size) [(2,pv w.heap.size 0),(3,pv (w.heap.size+1) 0)] (by kernel_rfl) ?rst (fun L L2 w1 w2 RB h hb=>by
  obtain⟨k0,h1,h2,h3,h4,h5,h6⟩:=h
  exact⟨k0,(hb.block _ (ak.1 h1).1).trans h1,fun q=>h2 (RB 7 q),(hb.block _ (ak.1 h3).1).trans h3,(hb.block _ (ak.1 h4).1).trans h4,h5.trans (hb.mono (by omega)),aN h6 hb.size⟩) (⟨_,oQ.out.one,fun _=>rfl,oQ.out.two,Xn.out,oQ.out.below.drew,(ak.1 Xn.out).1⟩) ⟨rfl,rfl,trivial⟩ ?reach ?rfin
 case rst=>
  refine⟨Ph.sV,Ph.sV,Ph.sV,Ph.sV,?_,?_,Ph.sV,?_,trivial⟩
  ·rintro v ds L w1 w2 hS ⟨k,h1,h2⟩ hb;exact⟨k,h1,(hb.block _ (ak.1 h2).1).trans h2⟩
  ·rintro v ds L w1 w2 hS h hb;exact cX h hb
  ·rintro v ds L w1 w2 hS ⟨x,h1,h2⟩ hb;exact⟨x,h1,(hb.block _ (ak.1 h2).1).trans h2⟩
 case reach=>
  refine⟨?_,?_,?_,?_,?_,?_,?_,?_,trivial⟩<;>rintro Lf ev w1 hn vg hS hc hg hf ⟨b2,b3,-⟩ hd
  ·clear hd;refine Ph.yv ?_ rfl;go_simp
  ·have d0:ev (aJ 13)=_:=hd.1 rfl;clear hd;obtain⟨k0,hb0,q1,_⟩:=hS;obtain rfl:=q1 (hn 7 (by kernel_rfl));have x:=aH hb0 14 _ rfl;refine Ph.yv ?_ rfl;go_simp
  ·have d1:ev (aJ 14)=_:=hd.1 rfl;clear hd;refine Lag.Yields.call (f:=149) (args:=#[ae none 0 0]) ?_ (EO w1) ?_
   ·go_simp
   ·rintro e w2 ⟨rfl,rfl⟩;exact⟨_,rfl,rfl,cF (aw _ _)⟩
  ·clear hd;obtain⟨k0,hb0,q1,hm1,_⟩:=hS;have x0:=aH hm1 0 _ rfl;have x1:=aH hm1 1 _ rfl;have x2:=aH hm1 2 _ rfl;refine Ph.yv ?_ rfl;go_simp
  ·have d3:ev (aJ 16)=_:=hd.1 rfl;clear hd;refine Lag.Yields.value (v:=ae (some ⟨w1.heap.size,0,none⟩) 1 1) (w':=w1.alloc (au m.cells 81)) ?_ ⟨⟨_,rfl,ay _ _⟩,cF ((aw _ _).alloc (ax _) _)⟩;go_simp
  ·have d2:ev (aJ 15)=_:=hd.1 rfl;obtain⟨k,e17,hk⟩:=hd.2.1 rfl;clear hd;replace e17:ev (aJ 17)=_:=e17;obtain⟨v',w',hr,ho,hb⟩:=A3 m w1 k hk;refine Lag.Yields.value (v:=v') (w':=w') ?_ ⟨ownsRow_base ho (by obtain⟨_,_,_,_,_,_,h⟩:=hS;exact h),cF hb⟩;simp[execOp,resolve,invoke,builtin,d2,e17,hr,Result.andThen]
  ·clear hd;refine Ph.yv ?_ rfl;go_simp
  ·have d6:ev (aJ 19)=_:=hd.1 rfl;have d5:w1.ownsRow (w.heap.size+3) 81 3 (ev (aJ 18)) 1 (eu [m]):=hd.2.1 rfl;clear hd;obtain⟨p5,c5,Fq⟩:=dF d5;obtain⟨k0,hb0,q1,hm1,hz1,hbl,hsz⟩:=hS;have c1:=aH hb0 14 _ rfl;have f1:=cM hb0 14;refine Lag.Yields.skip (w':=w1.setCell ⟨w.heap.size,14,none⟩ (ev (aJ 18))) ?_ ⟨⟨_,rfl,cP _ hb0⟩,.inr ⟨⟨_,cP _ hb0,(by intro h;simp[Ph.upd] at h),(bj _ _ _ _ (by show _≠w.heap.size;omega)).trans hm1,(bj _ _ _ _ (by show _≠w.heap.size;omega)).trans hz1,hbl.setCell (p:=⟨w.heap.size,14,none⟩) (ax _) _,by simpa using hsz⟩,?_⟩⟩
   ·rw[Fq];go_simp
   ·intro j u ds hj hL hp
    match j,hp with
    |0,hp=>exact hp
    |1,hp=>exact hp
    |2,hp=>exact hp
    |3,hp=>exact hp
    |4,⟨k,h1,h2⟩=>exact⟨k,h1,(bj _ _ _ _ (by rintro rfl;rw[hb0] at h2;simp at h2)).trans h2⟩
    |5,hp=>exact di hp hb0 (by decide)
    |6,hp=>exact hp
    |7,_=>exact(hj rfl).elim
    |j+8,_=>trivial
 case rfin=>
  intro a2 w2 hR;have hS:=hR.s;have e5:w2.ownsRow (w.heap.size+3) 81 3 (a2.tmps.getD 18 af) 1 (eu [m]):=hR.val 5 (by decide);obtain⟨x,h18,m8⟩:=hR.val 7 (by decide);have k2:a2.tmps.getD 2 af=pv w.heap.size 0:=hR.kept (by kernel_rfl);have k4:a2.tmps.getD 4 af=bp (some ⟨w.heap.size+1+1,0,none⟩):=hR.kept (by kernel_rfl);have ha:=hR.lits 24 rfl;simp only[aT,bT,nA] at ha;clear hR;have Fq:a2.tmps.getD 18 af=x:=bg h18;rw[Fq] at e5;rw[k2,k4] at ha;generalize a2.tmps.getD=zz at ha;obtain⟨p5,c5,rfl⟩:=dF e5;obtain⟨_,_,_,_,hz,hbl,hsz⟩:=hS;have HK:=ai m8;have HZ:=ai hz;have Ff:=ai hbl;have UC:=ai (Reads.iW e5 (by omega) (by rfl));clear k2 k4 h18 Fq e5 m8 hz hbl;subst ha
  go_wp2_with (first
   |(refine lT rfl 28 _ rfl _ rfl 28 _ (0,0) _ HK.out cG rfl (by kernel_rfl) ?_)
   |(refine fE rfl 28 _ _ rfl _ _ rfl rfl 28 _ HZ5.out (by kernel_rfl) rfl (by simp[cu]) ?_)
   |(go_at_call 150;refine(HAg.out _ _ Ff.out UC.out).mono ?_;clear HAg;rintro e w5 ⟨m',s',k',rfl,TI,hf5,hb5⟩
     have HZ5:=ai ((hb5.block _ (ak.1 HZ.out).1).trans HZ.out);obtain⟨p6,c6,rfl,_⟩:=aR TI.rm;obtain⟨p8,c8,rfl,_⟩:=aR TI.rs;obtain⟨UT,c11,rfl,_⟩:=aR TI.rk;have UE:lh (fB b (ae p6 ml.length c6) (ae p8 ss.length c8) (ae UT ([m]:List Mk).length c11) ml ss [m] (w5.setRow (w.heap.size+2) (b.cells (ae p6 ml.length c6) (ae p8 ss.length c8) (ae UT ([m]:List Mk).length c11)))):=ai (TI.setRow hf5 (ak.1 HZ.out).1);have HB5:=ai (Ff.out.trans (hb5.mono Ff.out.size))
     clear TI hb5 hf5))
  refine bn (results_cell_tmp (g:=w.heap.size+2) rfl rfl (j0 _ _ 28 28 _ (0,0) _ (cV HZ5.out) cG rfl (by kernel_rfl))) rfl ⟨_,_,_,rfl,UE.out,dA HB5.out (by omega)⟩
theorem Ju(b:BB)(men sent marks:aj)(ml:List Mn)(ss:List Int)(ms:List Mk)(w:ar)(hL:Laid w)(hB:cI b men sent marks ml ss ms w)(mi:Int)(h1:1≤mi)(h2:mi≤b.minutes)(h3:mi<dv ss ms) :
  bm aq 82 #[aO (b.cells men sent marks),ah ag mi] w fun e w'=>e=aC (cA #[aO gV,ah ag 7])∧az w.heap.size w w':=by
 have Ay:=hB.ok.minutes;have o6:∀s∈ss,1≤s∧s≤8:=fun s h=>by have:=hB.l9.mem s h;omega
 have KL:∀m∈ms,1≤m.minute∧m.minute≤8:=fun m h=>by have:=hB.kE.mem m h;omega
 obtain⟨pm,cm,rfl,_⟩:=aR hB.rm;obtain⟨pn,cn,rfl,_⟩:=aR hB.rs;obtain⟨pk,ck,rfl,_⟩:=aR hB.rk;have b0:az w.heap.size w ((w.alloc (au (b.cells (ae pm ml.length cm) (ae pn ss.length cn) (ae pk ms.length ck)) 28)).alloc (au gV 28)):=((aw _ _).alloc (ax _) _).alloc (by simp) _;have HT:lh (Two w (b.cells (ae pm ml.length cm) (ae pn ss.length cn) (ae pk ms.length ck)) 28 gV 28 ((w.alloc (au (b.cells (ae pm ml.length cm) (ae pn ss.length cn) (ae pk ms.length ck)) 28)).alloc (au gV 28))):=ai ⟨(Two.mk' w _ _ _ _).one,(Two.mk' w _ _ _ _).two,b0,by simp⟩;have ur:=ai (eZ b _ _ _ ml ss ms _ (hL.below b0) (hB.below b0));have HBh:lh (∀W,az w.heap.size w W→bm aq 155 #[aO (b.cells (ae pm ml.length cm) (ae pn ss.length cn) (ae pk ms.length ck))] W fun e w'=>e=aC (ah ag (dv ss ms))∧az W.heap.size W w'):=ai fun W hb=>E7 b _ _ _ ss ms o6 KL W (hB.below hb).rs (hB.below hb).rk;clear hL hB b0 o6 KL;generalize dv ss ms=bh at *;generalize ml.length=lm at *;generalize ss.length=ln at *;generalize ms.length=lk at *
 go_enter Tryz.func82,Tryz.ntmps82
 go_wp2_with (first
  |(refine fE rfl 28 _ _ rfl _ _ rfl rfl 28 _ HZ.out (by kernel_rfl) rfl (by simp[cu]) ?_)
  |(go_at_call 71;refine ur.out.mono ?_;clear ur;rintro e w1 ⟨rfl,hb1⟩
    have rN:=HT.out.next hb1;have oQ:=ai rN
    obtain⟨x0,x1,x2,x3,x4,x5,x6,x7,x8,x9,nX,nW,oU,oh,oP⟩:=bN rN.one
    clear rN hb1)
  |(go_at_call 132;refine(m6 b _ _ _ mi h1 h2 _).mono ?_;rintro e w2 ⟨rfl,hb2⟩
    have Ga:=ai ((hb2.block w1.heap.size (by simp)).trans (ay w1 _));have F8:=ai ((oQ.out.next ((aw _ _).alloc (ax _) (au (b.cells (ae pm lm cm) (ae pn ln cn) (ae pk lk ck)) 119))).next hb2);clear x0 x1 x2 x3 x4 x5 x6 x7 x8 x9 nX nW oU oh oP;obtain⟨x0,x1,x2,x3,x4,x5,x6,x7,x8,x9,nX,nW,oU,oh,oP⟩:=bN Ga.out
    clear hb2)
  |(go_at_call 155;refine(HBh.out _ F8.out.below).mono ?_;clear HBh;rintro e w3 ⟨rfl,hb3⟩
    have Ps:=ai (F8.out.next hb3);have HZ:=ai Ps.out.two
    clear hb3))
 (try simp only[Exit.inBlock,Exit.then])
 exact bn (results_cell_tmp (g:=w.heap.size+1) rfl rfl (j0 _ _ 28 28 _ (0,0) _ (cV HZ.out) cG rfl (by kernel_rfl))) rfl ⟨rfl,dA Ps.out.below (by omega)⟩
end Go.Proofs.YtffladgmkiimjaaGreatDoor
