/- LONE WALKS: comparisons of numbers, of lists, of plans; the best one. A DRAWN REGION, EACH OPERATION BY ITSELF, WITH PHASES: what is known of the worl .. -/
import Derived.Test.YtffladgmkiimjaaGreatDoorW00
import Derived.Test.YtffladgmkiimjaaGreatDoorW01
import Derived.Laws.CopyRow
import Derived.Laws.AppendOwn
import Derived.Laws.OwnMore
set_option linter.unusedVariables false
set_option linter.unusedSimpArgs false
set_option maxHeartbeats 100000000
set_option maxRecDepth 1000000
open Array renaming getElem_toList → AZ,getElem?_eq_getElem → aR,replicate → aU,getD_eq_getD_getElem? → aW,getElem?_eq_some_iff → aj,getElem?_setIfInBounds → bD,getElem?_eq_none → fX,getD → fg,getElem?_replicate → jC
open Bool renaming and_eq_true → aS
open Go renaming undef → af,Value → ak,World → ar,TypeId → bg,Calls → bp,bodyPost_ret → bw,Operand → cB,Oper → cU,wpList_store_row → gT,wpList_append_own → iQ,maxLen → kQ,wpList_load_row → ox,bytes → rR
open Go.Addr renaming add → l5
open Go.Builtin renaming append_ → kC
open Go.Ending renaming returned → aG
open Go.IntKind renaming i64 → ag
open Go.Lib renaming hid → ai
open Go.Obj renaming cells → au
open Go.Operand renaming tmp → aB
open Go.Proofs.Tryz renaming underlying28 → aT,prog → aq,underlying25 → iR,underlying122 → jf
open Go.Region renaming wanted → dQ,ready → gV,binds → nK
open Go.Result renaming andThen_ok → AU
open Go.RowKit renaming Below → aC,Hid → mf
open Go.RowKit.Below renaming heap_alloc → aX,refl → aw,heap_setCell → bu
open Go.Value renaming bool → aA,int → aM,agg → aQ,slice → ae,int → ah,oneCell' → cy,slice → oz
open Go.World renaming alloc_heap_new → ax,cell?_alloc_lt → eF,ownsRow_nil → eO,size_alloc → ey
open List renaming foldl_append → AW,eq_nil_of_length_eq_zero → aZ,all_eq_true → bL,mem_range → bN,range → bf,take_succ_eq_append_getElem → cF,getElem_mem → cz,drop_eq_getElem_cons → dW,take_of_length_le → dg,map_cons → di,mem_cons_of_mem → eG,map_nil → fW,mem_of_mem_take → fZ,length_map → iH,size_toArray → jI,mem_filter → kz,getElem_of_mem → lz
open List.range renaming loop → bR
open Nat renaming le_refl → ay,lt_of_lt_of_le → bE,le_trans → bq,zero_add → eo
open Ne renaming symm → AV
open Option renaming bind_some → iK
open Option.some renaming inj → bt
namespace Go.Proofs.YtffladgmkiimjaaGreatDoor
open Go.RowKit Go.Lag
def zh(x y:Int):Int:=if x<y then -1 else if y<x then 1 else 0
theorem Hj(x:Int)(w:ar):bp aq 179 #[ah ag x] w fun e w'=>e=aG (aA false)∧w=w':=by
 go_enter Tryz.func179,Tryz.ntmps179
 go_wp2
 go_ret
 exact⟨rfl,rfl⟩
theorem vS(x y:Int)(w:ar):bp aq 161 #[ah ag x,ah ag y] w fun e w'=>e=aG (ah ag (zh x y))∧w=w':=by
 rcases Int.lt_trichotomy x y with h|h|h
 ·have e:zh x y = -1:=by unfold zh;rw[if_pos h]
  rw[e];clear e
  go_enter Tryz.func161,Tryz.ntmps161
  go_wp2_with (go_at_call 179;refine(Hj _ _).mono ?_;rintro e w' ⟨rfl,rfl⟩)
  go_ret
  exact⟨rfl,rfl⟩
 ·subst h;have e:zh x x=0:=by unfold zh;simp
  rw[e];clear e
  go_enter Tryz.func161,Tryz.ntmps161
  go_wp2_with (go_at_call 179;refine(Hj _ _).mono ?_;rintro e w' ⟨rfl,rfl⟩)
  go_ret
  exact⟨rfl,rfl⟩
 ·have e:zh x y=1:=by unfold zh;rw[if_neg (by omega),if_pos h]
  have h2 : ¬x<y:=by omega
  rw[e];clear e
  go_enter Tryz.func161,Tryz.ntmps161
  go_wp2_with (go_at_call 179;refine(Hj _ _).mono ?_;rintro e w' ⟨rfl,rfl⟩)
  go_ret
  exact⟨rfl,rfl⟩
def j9:List Int→List Int→Int
 |[],[]=>0
 |[],_ :: _=>-1
 |_ :: _,[]=>1
 |x :: xs,y :: ys=>if zh x y≠0 then zh x y else j9 xs ys
theorem CQ : ∀(xs ys:List Int),-1≤j9 xs ys∧j9 xs ys≤1
 |[],[]=>by simp[j9]
 |[],_ :: _=>by simp[j9]
 |_ :: _,[]=>by simp[j9]
 |x :: xs,y :: ys=>by
  have:=CQ xs ys;unfold j9
  by_cases h:zh x y≠0
  ·rw[if_pos h];unfold zh
   by_cases h1:x<y
   ·rw[if_pos h1];omega
   ·rw[if_neg h1]
    by_cases h2:y<x
    ·rw[if_pos h2];omega
    ·rw[if_neg h2];omega
  ·rw[if_neg h];exact this
theorem Pr(xs ys:List Int)(k:Nat)(hx:k<xs.length)(hy:k<ys.length):j9 (xs.drop k) (ys.drop k)=if zh xs[k] ys[k]≠0 then zh xs[k] ys[k] else j9 (xs.drop (k+1)) (ys.drop (k+1)):=by
 rw[dW hx,dW hy];rfl
theorem Pq(xs ys:List Int)(k:Nat)(hx:k<xs.length)(hy:ys.length≤k):j9 (xs.drop k) (ys.drop k)=1:=by
 rw[dW hx,List.drop_eq_nil_of_le hy];rfl
theorem Em(xs ys:List Int)(k:Nat)(hx:xs.length≤k)(hk:k≤ys.length):j9 (xs.drop k) (ys.drop k)=if k<ys.length then -1 else 0:=by
 rw[List.drop_eq_nil_of_le hx]
 by_cases h:k<ys.length
 ·rw[dW h,if_pos h];rfl
 ·rw[List.drop_eq_nil_of_le (by omega),if_neg h];rfl
theorem Mt(w:ar):bp aq 98 #[(ae none 0 0),(ae none 0 0)] w fun e w'=>e=aG (ah ag (j9 [] []))∧w=w':=by
 go_enter Tryz.func98,Tryz.ntmps98
 go_wp2
 go_loop [11] (fun i=>i=ah ag 0) (fun _=>0)
 case atStart=>exact rfl
 case round=>
  obtain rfl:=hrel;go_wp2
  go_ret
  exact⟨rfl,rfl⟩
theorem Ms(w:ar)(ys:List Int)(g2 o2 L2 c2:Nat)(hL2:ys.length=L2)(xw:L2≤4294967296)(hc2 : ∀j u,(ys.map (aM ag))[j]?=some u→w.cell? ⟨g2,o2+j,none⟩=some u):bp aq 98 #[(ae none 0 0),(ae (some ⟨g2,o2,none⟩) L2 c2)] w fun e w'=>e=aG (ah ag (j9 [] ys))∧w=w':=by
 have I5:=ai hL2;have Yr:=ai hc2;clear hL2 hc2
 go_enter Tryz.func98,Tryz.ntmps98
 go_wp2
 go_loop [11] (fun i=>i=ah ag 0) (fun _=>0)
 case atStart=>exact rfl
 case round=>
  obtain rfl:=hrel
  by_cases h0:0<L2
  ·have HE:mf (j9 [] ys = -1):=by have:=Em [] ys 0 (by simp) (by omega);rw[I5.out,if_pos h0] at this;exact ai (by simpa using this)
   go_wp2
   go_ret
   exact⟨il HE.out.symm,rfl⟩
  ·have HE:mf (j9 [] ys=0):=by have:=Em [] ys 0 (by simp) (by omega);rw[I5.out,if_neg h0] at this;exact ai (by simpa using this)
   go_wp2
   go_ret
   exact⟨il HE.out.symm,rfl⟩
theorem Mr(w:ar)(xs:List Int)(g1 o1 L1 c1:Nat)(XG:xs.length=L1)(sw:L1≤4294967296)(hc1 : ∀j u,(xs.map (aM ag))[j]?=some u→w.cell? ⟨g1,o1+j,none⟩=some u):bp aq 98 #[(ae (some ⟨g1,o1,none⟩) L1 c1),(ae none 0 0)] w fun e w'=>e=aG (ah ag (j9 xs []))∧w=w':=by
 have HL1:=ai XG;have NS:=ai hc1;clear XG hc1
 go_enter Tryz.func98,Tryz.ntmps98
 go_wp2
 go_loop [5,6,7,8,11] (fun _ _ _ _ i=>∃k:Nat,k≤L1∧i=ah ag k∧j9 xs []=j9 (xs.drop k) []) (fun _ _ _ _ i=>L1 - (intOf i).toNat)
 case atStart=>exact⟨0,by omega,rfl,by simp⟩
 case round=>
  obtain⟨k,rF,rfl,Ma⟩:=hrel;have NQ:=ai Ma;clear Ma
  by_cases hlt:k<L1
  ·have kH:k<xs.length:=by rw[HL1.out];exact hlt
   have Xl:w.cell? ⟨g1,o1+k,none⟩=some (ah ag xs[k]):=NS.out k _ (by simp[kH]);have HE:mf (j9 xs []=1):=by have h1:=NQ.out;rw[dW kH] at h1;rw[h1];rfl
   generalize xs[k]=x at *
   go_wp2_with (go_at_call 161;refine(vS _ _ _).mono ?_;rintro e w' ⟨rfl,rfl⟩)
   go_ret
   exact⟨il HE.out.symm,rfl⟩
  ·obtain rfl:k=L1:=by omega
   have HE:mf (j9 xs []=0):=by rw[NQ.out,List.drop_eq_nil_of_le (by rw[HL1.out];exact ay _)];rfl
   go_wp2_with (go_at_call 161;refine(vS _ _ _).mono ?_;rintro e w' ⟨rfl,rfl⟩)
   go_ret
   exact⟨il HE.out.symm,rfl⟩
theorem Mq(w:ar)(xs:List Int)(g1 o1 L1 c1:Nat)(XG:xs.length=L1)(sw:L1≤4294967296)(hc1 : ∀j u,(xs.map (aM ag))[j]?=some u→w.cell? ⟨g1,o1+j,none⟩=some u)(ys:List Int)(g2 o2 L2 c2:Nat)(hL2:ys.length=L2)(xw:L2≤4294967296)(hc2 : ∀j u,(ys.map (aM ag))[j]?=some u→w.cell? ⟨g2,o2+j,none⟩=some u):bp aq 98 #[(ae (some ⟨g1,o1,none⟩) L1 c1),(ae (some ⟨g2,o2,none⟩) L2 c2)] w fun e w'=>e=aG (ah ag (j9 xs ys))∧w=w':=by
 have HL1:=ai XG;have NS:=ai hc1;clear XG hc1;have I5:=ai hL2;have Yr:=ai hc2;clear hL2 hc2
 go_enter Tryz.func98,Tryz.ntmps98
 go_wp2
 go_loop [5,6,7,8,11] (fun _ _ _ _ i=>∃k:Nat,k≤L1∧k≤L2∧i=ah ag k∧j9 xs ys=j9 (xs.drop k) (ys.drop k)) (fun _ _ _ _ i=>L1 - (intOf i).toNat)
 case atStart=>exact⟨0,by omega,by omega,rfl,by simp⟩
 case round=>
  obtain⟨k,rF,hk2,rfl,Ma⟩:=hrel;have NQ:=ai Ma;clear Ma
  by_cases hlt:k<L1
  ·have kH:k<xs.length:=by rw[HL1.out];exact hlt
   have Xl:w.cell? ⟨g1,o1+k,none⟩=some (ah ag xs[k]):=NS.out k _ (by simp[kH])
   by_cases hlt2:k<L2
   ·have hky:k<ys.length:=by rw[I5.out];exact hlt2
    have adT:w.cell? ⟨g2,o2+k,none⟩=some (ah ag ys[k]):=Yr.out k _ (by simp[hky]);have hst:=Pr xs ys k kH hky;generalize xs[k]=x at *;generalize ys[k]=y at *;have hC:=vS x y;obtain⟨c,hc⟩ : ∃c,zh x y=c:=⟨_,rfl⟩
    rw[hc] at hst hC;have HCC:=ai hc;clear hc
    by_cases hz:c=0
    ·subst hz;rw[if_neg (by simp)] at hst;have HST:=ai hst;clear hst
     go_wp2_with (go_at_call 161;refine(hC _).mono ?_;rintro e w' ⟨rfl,rfl⟩)
     go_round
     case rel=>exact⟨k+1,by omega,by omega,by go_num,NQ.out.trans HST.out⟩
     case measure=>simp[intOf];omega
    ·have hb:(c==0)=false:=by simpa using hz
     have hb2:(c !=0)=true:=by simpa using hz
     rw[if_pos hz] at hst;have HST:=ai hst;have HZ:=ai hz;clear hst hz
     go_wp2_with (go_at_call 161;refine(hC _).mono ?_;rintro e w' ⟨rfl,rfl⟩)
     go_ret
     exact⟨il (NQ.out.trans HST.out).symm,rfl⟩
   ·have HE:mf (j9 xs ys=1):=NQ.out.trans (Pq xs ys k kH (by rw[I5.out];omega));generalize xs[k]=x at *
    go_wp2_with (go_at_call 161;refine(vS _ _ _).mono ?_;rintro e w' ⟨rfl,rfl⟩)
    go_ret
    exact⟨il HE.out.symm,rfl⟩
  ·obtain rfl:k=L1:=by omega
   have hend:=Em xs ys k (by rw[HL1.out];exact ay _) (by rw[I5.out];exact hk2);rw[I5.out] at hend
   by_cases h0:k<L2
   ·rw[if_pos h0] at hend;have HE:mf (j9 xs ys = -1):=NQ.out.trans hend;clear hend
    go_wp2_with (go_at_call 161;refine(vS _ _ _).mono ?_;rintro e w' ⟨rfl,rfl⟩)
    go_ret
    exact⟨il HE.out.symm,rfl⟩
   ·rw[if_neg h0] at hend;have HE:mf (j9 xs ys=0):=NQ.out.trans hend;clear hend
    go_wp2_with (go_at_call 161;refine(vS _ _ _).mono ?_;rintro e w' ⟨rfl,rfl⟩)
    go_ret
    exact⟨il HE.out.symm,rfl⟩
theorem rj(xs ys:List Int)(v1 v2:ak)(w:ar)(h1:Reads w v1 xs.length (xs.map (aM ag)))(h2:Reads w v2 ys.length (ys.map (aM ag))) :
  bp aq 98 #[v1,v2] w fun e w'=>e=aG (ah ag (j9 xs ys))∧w=w':=by
 rcases h1 with⟨rfl,hn,_⟩|⟨g1,o1,c1,rfl,sw,_,hc1⟩
 ·obtain rfl:=aZ hn;rcases h2 with⟨rfl,hn,_⟩|⟨g2,o2,c2,rfl,xw,_,hc2⟩
  ·obtain rfl:=aZ hn;exact Mt w
  ·exact Ms w ys g2 o2 _ c2 rfl xw.1 hc2
 ·rcases h2 with⟨rfl,hn,_⟩|⟨g2,o2,c2,rfl,xw,_,hc2⟩
  ·obtain rfl:=aZ hn;exact Mr w xs g1 o1 _ c1 rfl sw.1 hc1
  ·exact Mq w xs g1 o1 _ c1 rfl sw.1 hc1 ys g2 o2 _ c2 rfl xw.1 hc2
def ia(p:Nat):List Int:=(upTo p 8).map fun(m:Nat)=>(m:Int)
theorem OE(p:Nat):(ia p).length=(upTo p 8).length:=by simp[ia]
theorem sg(p:Nat)(hp:p<512)(w:ar):bp aq 99 #[ah ag p] w fun e w'=>∃v,e=aG v∧Reads w' v (ia p).length ((ia p).map (aM ag))∧aC w.heap.size w w':=by
 refine(JN p hp w).mono ?_;rintro e w' ⟨v,rfl,hown,hb⟩;have hle:=vH p 8;refine⟨v,rfl,?_,hb⟩;have:=Reads.jP hown (by omega) (by simp);rw[OE];simpa [ia,Function.comp_def] using this
def sk(a b:Nat):Bool:=decide ((upTo a 8).length<(upTo b 8).length)||(decide ((upTo a 8).length=(upTo b 8).length)&&decide (j9 (ia a) (ia b)<0))
def sj(a b:Nat):Bool:=decide ((upTo a 8).length<(upTo b 8).length)||(decide ((upTo a 8).length=(upTo b 8).length)&&decide (0<j9 (ia a) (ia b)))
theorem OI(a b:Nat)(ha:a<512)(hb:b<512)(w:ar):bp aq 96 #[ah ag a,ah ag b] w fun e w'=>e=aG (aA (sk a b))∧aC w.heap.size w w':=by
 have hA:=sI a ha;have hB:=sI b hb;have lA:=sg a ha;have lB:=sg b hb;have adv:=vH a 8;have adu:=vH b 8;have hL:sk a b=(decide ((upTo a 8).length<(upTo b 8).length)||(decide ((upTo a 8).length=(upTo b 8).length)&&decide (j9 (ia a) (ia b)<0))):=rfl;have yQ:=CQ (ia a) (ia b);generalize (upTo a 8).length=na at *;generalize (upTo b 8).length=nb at *;obtain⟨c,hc⟩ : ∃c,j9 (ia a) (ia b)=c:=⟨_,rfl⟩
 rw[hc] at hL yQ;have hC:=rj (ia a) (ia b);rw[hc] at hC;generalize sk a b=r at *;have HL:=ai hL;clear hL hc
 have K : ∀w,bp aq 96 #[ah ag a,ah ag b] w fun e w'=>e=aG (aA (decide (na<nb)||(decide (na=nb)&&decide (c<0))))∧aC w.heap.size w w':=by
  clear HL;intro w
  by_cases h1:na<nb
  ·have e1:decide (na<nb)=true:=by simp;omega
   have er:(decide (na<nb)||(decide (na=nb)&&decide (c<0)))=true:=by rw[decide_eq_true h1];rfl
   rw[er];have H1:=ai h1;clear h1 er
   go_enter Tryz.func96,Tryz.ntmps96
   go_wp2_with fail
   refine(hA _).mono ?_;rintro e w1 ⟨rfl,hb1⟩
   go_wp2_with fail
   refine(hB _).mono ?_;rintro e w2 ⟨rfl,hb2⟩;go_wp2
   go_ret
   exact⟨rfl,hb1.trans (hb2.mono hb1.size)⟩
  ·have e1:decide (na<nb)=false:=by simp;omega
   by_cases h2:na=nb
   ·subst h2;have er:(decide (na<na)||(decide (na=na)&&decide (c<0)))=decide (c<0):=by simp
    rw[er];clear h1 er e1;have e1:decide (na<na)=false:=by simp
    have e9:(na==na)=true:=by simp
    go_enter Tryz.func96,Tryz.ntmps96
    go_wp2_with fail
    refine(hA _).mono ?_;rintro e w1 ⟨rfl,hb1⟩
    go_wp2_with fail
    refine(hB _).mono ?_;rintro e w2 ⟨rfl,hb2⟩
    go_wp2_with fail
    refine(hA _).mono ?_;rintro e w3 ⟨rfl,hb3⟩
    go_wp2_with fail
    refine(hB _).mono ?_;rintro e w4 ⟨rfl,hb4⟩
    go_wp2_with fail
    refine(lA _).mono ?_;rintro e w5 ⟨v5,rfl,Z3,hb5⟩
    go_wp2_with fail
    refine(lB _).mono ?_;rintro e w6 ⟨v6,rfl,Z1,hb6⟩;have Rl:=Z3.below hb6
    go_wp2_with fail
    refine(hC v5 v6 _ Rl Z1).mono ?_;rintro e w7 ⟨rfl,rfl⟩;clear Z3 Rl Z1;go_wp2
    go_ret
    exact⟨rfl,hb1.trans ((hb2.trans ((hb3.trans ((hb4.trans ((hb5.trans (hb6.mono hb5.size)).mono hb4.size)).mono hb3.size)).mono hb2.size)).mono hb1.size)⟩
   ·have e2:decide ((na:Int)=(nb:Int))=false:=by simp;omega
    have e3:((na:Int)==(nb:Int))=false:=by simp;omega
    have e4:(na==nb)=false:=by simp;omega
    have er:(decide (na<nb)||(decide (na=nb)&&decide (c<0)))=false:=by rw[decide_eq_false h1,decide_eq_false h2];rfl
    rw[er];have H1:=ai h1;have H2:=ai h2;clear h1 h2 er
    go_enter Tryz.func96,Tryz.ntmps96
    go_wp2_with fail
    refine(hA _).mono ?_;rintro e w1 ⟨rfl,hb1⟩
    go_wp2_with fail
    refine(hB _).mono ?_;rintro e w2 ⟨rfl,hb2⟩
    go_wp2_with fail
    refine(hA _).mono ?_;rintro e w3 ⟨rfl,hb3⟩
    go_wp2_with fail
    refine(hB _).mono ?_;rintro e w4 ⟨rfl,hb4⟩;go_wp2
    go_ret
    exact⟨rfl,hb1.trans ((hb2.trans ((hb3.trans (hb4.mono hb3.size)).mono hb2.size)).mono hb1.size)⟩
 rw[HL.out];exact K w
theorem OH(a b:Nat)(ha:a<512)(hb:b<512)(w:ar):bp aq 102 #[ah ag a,ah ag b] w fun e w'=>e=aG (aA (sj a b))∧aC w.heap.size w w':=by
 have hA:=sI a ha;have hB:=sI b hb;have lA:=sg a ha;have lB:=sg b hb;have adv:=vH a 8;have adu:=vH b 8;have hL:sj a b=(decide ((upTo a 8).length<(upTo b 8).length)||(decide ((upTo a 8).length=(upTo b 8).length)&&decide (0<j9 (ia a) (ia b)))):=rfl;have yQ:=CQ (ia a) (ia b);generalize (upTo a 8).length=na at *;generalize (upTo b 8).length=nb at *;obtain⟨c,hc⟩ : ∃c,j9 (ia a) (ia b)=c:=⟨_,rfl⟩
 rw[hc] at hL yQ;have hC:=rj (ia a) (ia b);rw[hc] at hC;generalize sj a b=r at *;have HL:=ai hL;clear hL hc
 have K : ∀w,bp aq 102 #[ah ag a,ah ag b] w fun e w'=>e=aG (aA (decide (na<nb)||(decide (na=nb)&&decide (0<c))))∧aC w.heap.size w w':=by
  clear HL;intro w
  by_cases h1:na<nb
  ·have e1:decide (na<nb)=true:=by simp;omega
   have er:(decide (na<nb)||(decide (na=nb)&&decide (0<c)))=true:=by rw[decide_eq_true h1];rfl
   rw[er];have H1:=ai h1;clear h1 er
   go_enter Tryz.func102,Tryz.ntmps102
   go_wp2_with fail
   refine(hA _).mono ?_;rintro e w1 ⟨rfl,hb1⟩
   go_wp2_with fail
   refine(hB _).mono ?_;rintro e w2 ⟨rfl,hb2⟩;go_wp2
   go_ret
   exact⟨rfl,hb1.trans (hb2.mono hb1.size)⟩
  ·have e1:decide (na<nb)=false:=by simp;omega
   by_cases h2:na=nb
   ·subst h2;have er:(decide (na<na)||(decide (na=na)&&decide (0<c)))=decide (0<c):=by simp
    rw[er];clear h1 er e1;have e1:decide (na<na)=false:=by simp
    have e9:(na==na)=true:=by simp
    go_enter Tryz.func102,Tryz.ntmps102
    go_wp2_with fail
    refine(hA _).mono ?_;rintro e w1 ⟨rfl,hb1⟩
    go_wp2_with fail
    refine(hB _).mono ?_;rintro e w2 ⟨rfl,hb2⟩
    go_wp2_with fail
    refine(hA _).mono ?_;rintro e w3 ⟨rfl,hb3⟩
    go_wp2_with fail
    refine(hB _).mono ?_;rintro e w4 ⟨rfl,hb4⟩
    go_wp2_with fail
    refine(lA _).mono ?_;rintro e w5 ⟨v5,rfl,Z3,hb5⟩
    go_wp2_with fail
    refine(lB _).mono ?_;rintro e w6 ⟨v6,rfl,Z1,hb6⟩;have Rl:=Z3.below hb6
    go_wp2_with fail
    refine(hC v5 v6 _ Rl Z1).mono ?_;rintro e w7 ⟨rfl,rfl⟩;clear Z3 Rl Z1;go_wp2
    go_ret
    exact⟨rfl,hb1.trans ((hb2.trans ((hb3.trans ((hb4.trans ((hb5.trans (hb6.mono hb5.size)).mono hb4.size)).mono hb3.size)).mono hb2.size)).mono hb1.size)⟩
   ·have e2:decide ((na:Int)=(nb:Int))=false:=by simp;omega
    have e3:((na:Int)==(nb:Int))=false:=by simp;omega
    have e4:(na==nb)=false:=by simp;omega
    have er:(decide (na<nb)||(decide (na=nb)&&decide (0<c)))=false:=by rw[decide_eq_false h1,decide_eq_false h2];rfl
    rw[er];have H1:=ai h1;have H2:=ai h2;clear h1 h2 er
    go_enter Tryz.func102,Tryz.ntmps102
    go_wp2_with fail
    refine(hA _).mono ?_;rintro e w1 ⟨rfl,hb1⟩
    go_wp2_with fail
    refine(hB _).mono ?_;rintro e w2 ⟨rfl,hb2⟩
    go_wp2_with fail
    refine(hA _).mono ?_;rintro e w3 ⟨rfl,hb3⟩
    go_wp2_with fail
    refine(hB _).mono ?_;rintro e w4 ⟨rfl,hb4⟩;go_wp2
    go_ret
    exact⟨rfl,hb1.trans ((hb2.trans ((hb3.trans (hb4.mono hb3.size)).mono hb2.size)).mono hb1.size)⟩
 rw[HL.out];exact K w
def jM(lt:Nat→Nat→Bool)(first:Nat)(more:List Nat):Nat:=more.foldl (fun b x=>if lt x b then x else b) first
theorem Ey(lt:Nat→Nat→Bool)(first:Nat)(more:List Nat)(k:Nat)(hk:k<more.length):jM lt first (more.take (k+1))=if lt more[k] (jM lt first (more.take k)) then more[k] else jM lt first (more.take k):=by
 unfold jM;rw[cF hk,AW];rfl
theorem zE(lt:Nat→Nat→Bool) : ∀(more:List Nat) (first:Nat),first<512→(∀x∈more,x<512)→jM lt first more<512
 |[],first,h,_=>h
 |x :: more,first,h,hx=>by
  refine zE lt more _ ?_ (fun y hy=>hx y (by simp[hy]));show(if lt x first=true then x else first)<512
  by_cases hl:lt x first=true
  ·rw[if_pos hl];exact hx x (by simp)
  ·rw[if_neg hl];exact h
theorem Py(first:Nat)(hf:first<512)(more:List Nat)(hm : ∀x∈more,x<512)(v:ak)(w:ar)(hv:Reads w v more.length (more.map fun(p:Nat)=>aM ag (p:Int))) :
  bp aq 160 #[.func (.func 96) #[] #[],ah ag first,v] w fun e w'=>e=aG (ah ag (jM sk first more:Nat))∧aC w.heap.size w w':=by
 rcases hv with⟨rfl,hn,_⟩|⟨g,off,cap,rfl,hn,hg,hc⟩
 ·obtain rfl:=aZ hn;clear hn
  go_enter Tryz.func160,Tryz.ntmps160
  go_wp2
  go_loopw [1,11] (fun b i wr=>i=ah ag 0∧b=ah ag first∧aC w.heap.size w wr) (fun _ _ _=>0)
  case atStart=>exact⟨rfl,rfl,aw _ _⟩
  case round=>
   obtain⟨rfl,rfl,eA⟩:=hrel;go_wp2
   go_ret
   exact⟨rfl,eA⟩
 ·have HC:=ai hc;have HM:=ai hm;clear hc hm;generalize hL:more.length=L at *;have HL:=ai hL;clear hL
  go_enter Tryz.func160,Tryz.ntmps160
  go_wp2
  go_loopw [1,8,11] (fun b _ i wr=>∃k:Nat,k≤L∧i=ah ag k∧b=ah ag (jM sk first (more.take k):Nat)∧aC w.heap.size w wr) (fun _ _ i _=>L - (intOf i).toNat)
  case atStart=>exact⟨0,by omega,rfl,rfl,aw _ _⟩
  case round=>
   obtain⟨k,hk,rfl,rfl,eA⟩:=hrel;have hbl:=zE sk (more.take k) first hf (fun x hx=>HM.out x (fZ hx))
   by_cases hlt:k<L
   ·have kH:k<more.length:=by rw[HL.out];exact hlt
    have hcell:wr.cell? ⟨g,off+k,none⟩=some (ah ag (more[k]:Nat)):=(eA.cell (p:=⟨g,off+k,none⟩) hg).trans (HC.out k _ (by simp[kH]));have hx:=HM.out more[k] (cz kH);have hst:=Ey sk first more k kH
    generalize more[k]=x at *;generalize jM sk first (more.take k)=bst at *
    have hB:=OI x bst hx hbl;have hsz:=eA.size;cases hr:sk x bst
    all_goals
     rw[hr] at hst hB;have HR:=ai hr;have HST:=ai hst;clear hr hst
     go_wp2_with (go_at_call 96;refine(hB _).mono ?_;rintro e w2 ⟨rfl,hb2⟩)
     go_roundw
     case rel=>exact⟨k+1,by omega,by go_num,by rw[HST.out];rfl,eA.trans (hb2.mono hsz)⟩
     case measure=>simp[intOf];omega
   ·obtain rfl:k=L:=by omega
    have tR:more.take k=more:=dg (by rw[HL.out];exact ay _);rw[tR];clear tR;go_wp2
    go_ret
    exact⟨rfl,eA⟩
theorem Px(first:Nat)(hf:first<512)(more:List Nat)(hm : ∀x∈more,x<512)(v:ak)(w:ar)(hv:Reads w v more.length (more.map fun(p:Nat)=>aM ag (p:Int))) :
  bp aq 160 #[.func (.func 102) #[] #[],ah ag first,v] w fun e w'=>e=aG (ah ag (jM sj first more:Nat))∧aC w.heap.size w w':=by
 rcases hv with⟨rfl,hn,_⟩|⟨g,off,cap,rfl,hn,hg,hc⟩
 ·obtain rfl:=aZ hn;clear hn
  go_enter Tryz.func160,Tryz.ntmps160
  go_wp2
  go_loopw [1,11] (fun b i wr=>i=ah ag 0∧b=ah ag first∧aC w.heap.size w wr) (fun _ _ _=>0)
  case atStart=>exact⟨rfl,rfl,aw _ _⟩
  case round=>
   obtain⟨rfl,rfl,eA⟩:=hrel;go_wp2
   go_ret
   exact⟨rfl,eA⟩
 ·have HC:=ai hc;have HM:=ai hm;clear hc hm;generalize hL:more.length=L at *;have HL:=ai hL;clear hL
  go_enter Tryz.func160,Tryz.ntmps160
  go_wp2
  go_loopw [1,8,11] (fun b _ i wr=>∃k:Nat,k≤L∧i=ah ag k∧b=ah ag (jM sj first (more.take k):Nat)∧aC w.heap.size w wr) (fun _ _ i _=>L - (intOf i).toNat)
  case atStart=>exact⟨0,by omega,rfl,rfl,aw _ _⟩
  case round=>
   obtain⟨k,hk,rfl,rfl,eA⟩:=hrel;have hbl:=zE sj (more.take k) first hf (fun x hx=>HM.out x (fZ hx))
   by_cases hlt:k<L
   ·have kH:k<more.length:=by rw[HL.out];exact hlt
    have hcell:wr.cell? ⟨g,off+k,none⟩=some (ah ag (more[k]:Nat)):=(eA.cell (p:=⟨g,off+k,none⟩) hg).trans (HC.out k _ (by simp[kH]));have hx:=HM.out more[k] (cz kH);have hst:=Ey sj first more k kH
    generalize more[k]=x at *;generalize jM sj first (more.take k)=bst at *
    have hB:=OH x bst hx hbl;have hsz:=eA.size;cases hr:sj x bst
    all_goals
     rw[hr] at hst hB;have HR:=ai hr;have HST:=ai hst;clear hr hst
     go_wp2_with (go_at_call 102;refine(hB _).mono ?_;rintro e w2 ⟨rfl,hb2⟩)
     go_roundw
     case rel=>exact⟨k+1,by omega,by go_num,by rw[HST.out];rfl,eA.trans (hb2.mono hsz)⟩
     case measure=>simp[intOf];omega
   ·obtain rfl:k=L:=by omega
    have tR:more.take k=more:=dg (by rw[HL.out];exact ay _);rw[tR];clear tR;go_wp2
    go_ret
    exact⟨rfl,eA⟩
end Go.Proofs.YtffladgmkiimjaaGreatDoor
namespace Go.Lag
namespace Ph
open Go Go.RowKit
abbrev Ls:=Nat→Bool
def upd(L:Ls)(i:Nat):Ls:=fun t=>if t=i then true else L t
def needs(ops:Array cU)(i t:Nat):Bool:=(gS ops t).any fun e=>nK .any e&&decide (e.on=i)
def xW(L:Ls)(ev:cB→ak):List (Nat × Tmp × ak)→Prop
 |[]=>True
 |(i,t,v) :: l=>(L i=false→ev (.tmp t)=v)∧xW L ev l
def EH(ops:Array cU)(ev:cB→ak):List (Nat × Tmp × ak)→Prop
 |[]=>True
 |(i,t,v) :: l=>(gH ops i=some t∧ev (.tmp t)=v)∧EH ops ev l
def GI(L:Ls)(ev:cB→ak)(late:List (Nat × Tmp × ak)):List (Tmp × ak)→Prop
 |[]=>xW L ev late
 |(t,v) :: l=>ev (.tmp t)=v∧GI L ev late l
theorem GI.of{L:Ls}{ev:cB→ak}{late:List (Nat × Tmp × ak)}(h2:xW L ev late) : ∀ {base:List (Tmp × ak)},iF ev base→GI L ev late base
 |[],_=>h2
 |(_,_) :: _,h=>⟨h.1,GI.of h2 h.2⟩
theorem xW.of{ops:Array cU}{L:Ls}{ev VC:cB→ak}(hk : ∀i d,gH ops i=some d→L i=false→VC (.tmp d)=ev (.tmp d)) : ∀ {late:List (Nat × Tmp × ak)},EH ops ev late→xW L VC late
 |[],_=>trivial
 |(_,_,_) :: _,h=>⟨fun e=>(hk _ _ h.1.1 e).trans h.1.2,xW.of hk h.2⟩
def Post(L:Ls)(ops:Array cU)(ev:cB→ak)(Vs:List Pred)(S:Ls→ar→Prop)(i:Nat)(o:cU)(w:ar)(v:ak)(w':ar):Prop:=
 gY Vs i (match o.dst with|some _=>v|none=>af) (gQ ops ev o.after.toList) w'∧(aC w.heap.size w w'∨(S (upd L i) w'∧∀k u ds,k≠i→L k=true→gY Vs k u ds w→gY Vs k u ds w'))
theorem yv{P:Program}{L:Ls}{ops:Array cU}{Vs:List Pred}{S:Ls→ar→Prop}{o:cU}{ev:cB→ak}{w:ar}{i:Nat}{v:ak}(he:(execOp ev o).run P w=.ok (.value v) w)(hp:gY Vs i (match o.dst with|some _=>v|none=>af) (gQ ops ev o.after.toList) w):Yields P o ev w (Post L ops ev Vs S i o w):=.value he ⟨hp,.inl (aw _ _)⟩
theorem sV{S:Ls→ar→Prop}{x:ak} : ∀(u:ak) (ds:List ak) (L:Ls) (w w':ar),S L w→pV x u ds w→aC w.heap.size w w'→pV x u ds w':=fun _ _ _ _ _ _ h _=>h
theorem sC{S:Ls→ar→Prop}{c:Bool}{x:ak} : ∀(u:ak) (ds:List ak) (L:Ls) (w w':ar),S L w→pC c x u ds w→aC w.heap.size w w'→pC c x u ds w':=fun _ _ _ _ _ _ h _=>h
def NL(Y:qM)(ops:Array cU)(Vs:List Pred)(S:Ls→ar→Prop)(base:List (Tmp × ak))(late:List (Nat × Tmp × ak))(i:Nat)(o:cU):Prop:=
 ∀(L:Ls) (ev:cB→ak) (w:ar),(∀t,needs ops i t=true→L t=false)→L i=false→S L w→(∀v,ev (.const v)=v)→(∀g,ev (.global g)=.pointer (some ⟨g,0,none⟩))→(∀f,ev (.func f)=.func (.func f) #[] #[])→GI L ev late base→Cn ops Vs ev w o.after.toList→
  match o.guard with
  |none=>Y o ev w (Post L ops ev Vs S i o w)
  |some (j,b)=>(∃r,kq (gH ops j) ev=.bool r)∧∀r,kq (gH ops j) ev=.bool r→if r=b then Y o ev w (Post L ops ev Vs S i o w) else Post L ops ev Vs S i o w af w
def Each(Y:qM)(ops:Array cU)(Vs:List Pred)(S:Ls→ar→Prop)(base:List (Tmp × ak))(late:List (Nat × Tmp × ak)):Nat→List cU→Prop
 |_,[]=>True
 |i,o :: l=>NL Y ops Vs S base late i o∧Each Y ops Vs S base late (i+1) l
def jz(S:Ls→ar→Prop):List Pred→Prop
 |[]=>True
 |V :: l=>(∀u ds L w w',S L w→V u ds w→aC w.heap.size w w'→V u ds w')∧jz S l
section
variable{P:Program}{ops:Array cU}{Q:Exit→Act→ar→Prop}{Vs:List Pred}{S:Ls→ar→Prop}{base:List (Tmp × ak)}{late:List (Nat × Tmp × ak)}{n:Nat}
theorem Each.get{Y:qM}{i:Nat}{l:List cU}(h:Each Y ops Vs S base late i l){j:Nat}{o:cU}(hj:l[j]?=some o):NL Y ops Vs S base late (i+j) o:=by
 induction l generalizing i j with
 |nil=>simp at hj
 |cons x l ih=>
  cases j with
  |zero=>simp at hj;subst hj;exact h.1
  |succ j=>have:=ih h.2 (j:=j) (by simpa using hj);rwa [Nat.add_assoc,Nat.add_comm 1 j] at this
theorem jz.get(h:jz S Vs)(i:Nat){L:Ls}{u:ak}{ds:List ak}{w w':ar}(hS:S L w)(hb:aC w.heap.size w w')(hv:gY Vs i u ds w):gY Vs i u ds w':=by
 induction Vs generalizing i with
 |nil=>trivial
 |cons V l ih=>
  cases i with
  |zero=>exact h.1 u ds L w w' hS hv hb
  |succ i=>exact ih h.2 i hv
structure iU(ops:Array cU)(Vs:List Pred)(S:Ls→ar→Prop)(a0:Act)(L:Array Bool)(a:Act)(w:ar):Prop where
 uo:L.size=ops.size
 size:a.tmps.size=a0.tmps.size
 defers:a.defers=a0.defers
 s:S (fun t=>L.getD t false) w
 keep : ∀t,(∀o∈ops.toList,o.dst≠some t)→a.eval (.tmp t)=a0.eval (.tmp t)
 late : ∀i d,gH ops i=some d→L.getD i false=false→a.eval (.tmp d)=a0.eval (.tmp d)
 closed : ∀i e,L.getD i false=true→e∈gS ops i→nK .any e=true→L.getD e.on false=true
 vals : ∀i,L.getD i false=true→gY Vs i (kq (gH ops i) a.eval) (gQ ops a.eval (gS ops i)) w
theorem tk{Y:qM}{step:Nat→(Act→ar→Prop)→Act→ar→Prop}
  (hs1 : ∀i o K a w R,ops[i]?=some o→dQ o (yielded ops a.tmps)=true→Y o a.eval w R→(∀v w',R v w'→K (a.put o.dst v) w')→step i K a w)
  (hs2 : ∀i o K a w,ops[i]?=some o→¬dQ o (yielded ops a.tmps)=true→K (a.put o.dst af) w→step i K a w)
  (cZ:kN ops n base=true) (ya:jz S Vs) (I4 : ∀(L L':Ls) w w',(∀t,L' t=false→L t=false)→S L w→aC w.heap.size w w'→S L' w') (a0:Act) (hn:a0.tmps.size=n) (hbase:iF a0.eval base) (hlate:EH ops a0.eval late) (hE:Each Y ops Vs S base late 0 ops.toList)
  (hQ : ∀a w,iU ops Vs S a0 (aU ops.size true) a w→Q .normal a w) :
  ∀fuel (L:Array Bool) (a:Act) (w:ar),L.toList.countP (!·)≤fuel→iU ops Vs S a0 L a w→anyOf step ops Q fuel L a w:=by
 have ad4 : ∀(L:Array Bool) (a:Act) (w:ar),gV .any ops L=[]→iU ops Vs S a0 L a w→S (fun t=>(aU ops.size true).getD t false) w:=fun L a w hr h=>
  I4 _ _ w w (fun t ht=>by
   by_cases hlt:t<ops.size
   ·simp[fg,hlt] at ht
   ·have : ¬t<L.size:=by have:=h.uo;omega
    simp[fg,this]) h.s (aw _ _)
 have fin : ∀(L:Array Bool) (a:Act) (w:ar),gV .any ops L=[]→iU ops Vs S a0 L a w→Q .normal a w:=fun L a w hr h=>
  hQ a w ⟨by simp,h.size,h.defers,ad4 L a w hr h,h.keep,fun i d hd hi=>by
   by_cases hlt:i<ops.size
   ·simp[fg,hlt] at hi
   ·unfold gH at hd;rw[fX (by omega)] at hd;simp at hd,fun i e hi he hb=>by
   have hlt:e.on<ops.size:=KO cZ he hb;simp[fg,hlt],fun i hi=>by
   by_cases hlt:i<ops.size
   ·exact h.vals i (ready_nil cZ h.uo hr i hlt)
   ·simp[fg,hlt] at hi⟩
 intro fuel
 induction fuel with
 |zero=>
  intro L a w hc h
  have hr:gV .any ops L=[]:=by
   apply List.eq_nil_iff_forall_not_mem.2;intro i hi;unfold gV at hi;rw[kz,bN] at hi;obtain⟨hi,h2⟩:=hi;have tU:i<L.size:=by have:=h.uo;omega
   simp[fg,tU] at h2;have h0:=List.countP_eq_zero.1 (Nat.le_zero.1 hc) L[i] (by simp);simp[h2.1] at h0
  exact⟨hr,fin L a w hr h⟩
 |succ fuel ih=>
  intro L a w hc h;refine⟨fun hr=>fin L a w hr h,fun i hi=>?_⟩;have hi':=hi;unfold gV at hi';rw[kz,bN] at hi';obtain⟨hlt,h2⟩:=hi';have tU:i<L.size:=by have:=h.uo;omega
  have wh:ops[i]?=some ops[i]:=aR hlt;generalize ops[i]=o at wh;rw[wh] at h2;simp only[aS,Bool.not_eq_true',Option.map_some,Option.getD_some,Array.all_eq_true] at h2;obtain⟨RJ,Rz⟩:=h2
  have W6:o∈ops.toList:=by
   have:=Array.mem_of_getElem? wh;simpa using this
  have rE:=cZ;unfold kN at rE;rw[aS,bL,bL] at rE;have Ca:=rE.1 i (bN.2 hlt);rw[wh] at Ca;simp only[aS] at Ca;obtain⟨⟨XA,wu⟩,Xd⟩:=Ca
  have RM:Cn ops Vs a.eval w o.after.toList:=Cn.of fun e he hb=>by
   obtain⟨k,hk,rfl⟩:=lz he;have:=Rz k (by simpa using hk);simp only[AZ] at hb ⊢;rw[hb] at this;simp only[Bool.not_true,Bool.false_or] at this;exact h.vals _ this
  have hBs:iF a.eval base:=hbase.congr fun p hp=>h.keep _ fun o' ho' hd=>by
   obtain⟨k,hk,rfl⟩:=lz ho';have xC:k<ops.size:=by simpa using hk
   have h3:=rE.1 k (bN.2 xC);rw[aR xC] at h3;simp only[AZ] at hd;simp only[aS,hd] at h3;have:=bL.1 h3.1.2.1.2 p hp;simp at this
  have aaL:(fun t=>L.getD t false) i=false:=by
   simp[fg,tU] at RJ ⊢;exact RJ
  have aae : ∀t,needs ops i t=true→L.getD t false=false:=fun t ht=>by
   cases hq:L.getD t false with
   |false=>rfl
   |true=>
    unfold needs at ht;obtain⟨e,he,h8⟩:=List.any_eq_true.1 ht;rw[aS,decide_eq_true_eq] at h8;have h9:=h.closed t e hq he h8.1;rw[h8.2] at h9;have h10:L.getD i false=false:=aaL;rw[h10] at h9;cases h9
  have hO:=hE.get (j:=i) (o:=o) (by simpa using wh) (fun t=>L.getD t false) a.eval w (by rw[eo];exact aae) (by rw[eo];exact aaL) h.s (fun _=>rfl) (fun _=>rfl) (fun _=>rfl) (GI.of (xW.of (fun k d hd hk=>h.late k d hd hk) hlate) hBs) RM;rw[eo] at hO;have hao:gS ops i=o.after.toList:=by unfold gS;rw[wh]
  have J1 : ∀e∈o.after.toList,nK .any e=true→L.getD e.on false=true:=fun e he hb=>by
   obtain⟨k,hk,rfl⟩:=lz he;have:=Rz k (by simpa using hk);simp only[AZ] at hb ⊢;rw[hb] at this;simpa using this
  have hne : ∀k,L.getD k false=true→k≠i∧k<ops.size:=fun k hk=>by
   refine⟨fun e=>?_,?_⟩
   ·subst e;simp[fg,tU] at RJ hk;rw[RJ] at hk;cases hk
   ·rcases Nat.lt_or_ge k ops.size with h5|h5
    ·exact h5
    ·have : ¬k<L.size:=by have:=h.uo;omega
     simp[fg,this] at hk
  have next : ∀v w',Post (fun t=>L.getD t false) ops a.eval Vs S i o w v w'→anyOf step ops Q fuel (L.setIfInBounds i true) (a.put o.dst v) w':=fun v w' hp=>by
   have hval : ∀k,L.getD k false=true→kq (gH ops k) (a.put o.dst v).eval=kq (gH ops k) a.eval:=fun k xC=>by
    obtain⟨zJ,yN⟩:=hne k xC;cases K0:gH ops k with
    |none=>rfl
    |some d=>
     refine uX _ _ _ _ fun Vk=>?_;rcases Nat.lt_trichotomy k i with h5|h5|h5
     ·rw[Vk] at wu;simp only[aS,decide_eq_true_eq] at wu;have:=bL.1 wu.2 k (bN.2 h5);simp[K0] at this
     ·exact zJ h5
     ·have h6:=rE.1 k (bN.2 yN);rw[aR yN] at h6
      have h7:(ops[k]).dst=some d:=by
       unfold gH at K0;rw[aR yN] at K0;simpa using K0
      simp only[aS,h7] at h6;have:=bL.1 h6.1.2.2 i (bN.2 h5);unfold gH at this;rw[wh] at this;simp[Vk] at this
   have uB : ∀k,L.getD k false=true→(L.setIfInBounds i true).getD k false=true:=fun k hk=>by
    have:=(hne k hk).1;simpa [aW,bD,AV this] using hk
   have hback : ∀k,k≠i→(L.setIfInBounds i true).getD k false=true→L.getD k false=true:=fun k zJ hk=>by
    simpa [aW,bD,AV zJ] using hk
   refine ih _ _ _ ?_ ⟨by simp[h.uo],by rw[nh,h.size],by rw[put_defers,h.defers],?_,fun t ht=>?_,fun k d hd hk=>?_,fun k e hk he hb=>?_,fun k hk=>?_⟩
   ·have hLv:L[i]=false:=by simpa [fg,tU] using RJ
    have h4:(L.setIfInBounds i true).toList.countP (!·)=L.toList.countP (!·) - 1:=by
     rw[Array.toList_setIfInBounds,List.countP_set (by simpa using tU)];simp[hLv]
    omega
   ·have hup:(fun t=>(L.setIfInBounds i true).getD t false)=upd (fun t=>L.getD t false) i:=by
     funext t
     unfold upd
     by_cases ht:t=i
     ·subst ht;simp[aW,bD,tU]
     ·simp[aW,bD,AV ht,ht]
    rw[hup]
    exact hp.2.elim (fun hb=>I4 _ _ _ _ (fun t ht=>by
     unfold upd at ht;split at ht
     ·cases ht
     ·exact ht) h.s hb) fun hs=>hs.1
   ·rw[uX _ _ _ _ (ht o W6)];exact h.keep t ht
   ·have zJ:k≠i:=by
     rintro rfl;simp[aW,bD,tU] at hk
    have hkL:L.getD k false=false:=by
     simpa [aW,bD,AV zJ] using hk
    have yN:k<ops.size:=by
     rcases Nat.lt_or_ge k ops.size with h5|h5
     ·exact h5
     ·unfold gH at hd;rw[fX h5] at hd;simp at hd
    rw[uX _ _ _ _ fun Vk=>?_]
    ·exact h.late k d hd hkL
    ·rcases Nat.lt_trichotomy k i with h5|h5|h5
     ·rw[Vk] at wu;simp only[aS,decide_eq_true_eq] at wu;have:=bL.1 wu.2 k (bN.2 h5);simp[hd] at this
     ·exact zJ h5
     ·have h6:=rE.1 k (bN.2 yN);rw[aR yN] at h6
      have h7:(ops[k]).dst=some d:=by
       unfold gH at hd;rw[aR yN] at hd;simpa using hd
      simp only[aS,h7] at h6;have:=bL.1 h6.1.2.2 i (bN.2 h5);unfold gH at this;rw[wh] at this;simp[Vk] at this
   ·by_cases zJ:k=i
    ·subst zJ;rw[hao] at he;exact uB _ (J1 e he hb)
    ·exact uB _ (h.closed k e (hback k zJ hk) he hb)
   ·by_cases zJ:k=i
    ·subst zJ
     have hdd:gQ ops (a.put o.dst v).eval (gS ops k)=gQ ops a.eval o.after.toList:=by
      rw[hao];exact pS fun e he hb=>hval _ (J1 e he hb)
     rw[hdd];have:=hp.1;unfold gH kq;rw[wh];simp only[iK];cases hd:o.dst with
     |none=>rw[hd] at this;exact this
     |some d=>
      rw[hd] at this wu;simp only[aS,decide_eq_true_eq] at wu;have h9:=put_eq a d v (by rw[h.size,hn];exact wu.1.1);simp only[] at this ⊢;rw[h9];exact this
    ·have xC:=hback k zJ hk;have WI:=h.vals k xC;have hdd:gQ ops (a.put o.dst v).eval (gS ops k)=gQ ops a.eval (gS ops k):=pS fun e he hb=>hval _ (h.closed k e xC he hb);rw[hval k xC,hdd];exact hp.2.elim (fun hb=>ya.get k h.s hb WI) fun hs=>hs.2 k _ _ zJ xC WI
  cases hg:o.guard with
  |none=>
   rw[hg] at hO;exact hs1 i o _ a w _ wh (by simp[dQ,hg]) hO next
  |some jb=>
   obtain⟨j,b⟩:=jb;rw[hg] at hO;obtain⟨⟨r,hr⟩,hO⟩:=hO;have hO:=hO r hr
   have hy:yielded ops a.tmps j=some r:=by
    unfold yielded;unfold kq at hr;unfold gH at hr;cases hd:(ops[j]?).bind (·.dst) with
    |none=>rw[hd] at hr;simp[af] at hr
    |some d=>
     rw[hd] at hr;simp only[iK]
     have h8:a.tmps[d]?=some (.bool r):=by
      unfold Act.eval at hr;simp only[] at hr
      by_cases Cb:d<a.tmps.size
      ·simp[fg,Cb] at hr;rw[aR Cb,hr]
      ·simp[fg,Cb,af] at hr
     rw[h8]
   by_cases hrb:r=b
   ·rw[if_pos hrb] at hO;exact hs1 i o _ a w _ wh (by simp[dQ,hg,hy,hrb]) hO next
   ·rw[if_neg hrb] at hO;exact hs2 i o _ a w wh (by simp[dQ,hg,hy,hrb]) (next _ _ hO)
theorem qq{a0:Act}{w:ar}(hS:S (fun t=>(aU ops.size false).getD t false) w):iU ops Vs S a0 (aU ops.size false) a0 w:=⟨by simp,rfl,rfl,hS,fun _ _=>rfl,fun _ _ _ _=>rfl,fun i e hi _ _=>by
  simp[aW,jC] at hi;split at hi<;>simp at hi,fun i hi=>by
  simp[aW,jC] at hi
  split at hi<;>simp at hi⟩
theorem oQ:(aU ops.size false).toList.countP (!·)≤ops.size:=by simpa using List.countP_le_length (p:=(!·)) (l:=List.replicate ops.size false)
theorem uO{id:Nat}{a0:Act}{w:ar}(hm:P.follows .mixedOrders=true)(Vs:List Pred)(S:Ls→ar→Prop)(base:List (Tmp × ak))(cZ:kN ops a0.tmps.size base=true)(ya:jz S Vs)(I4 : ∀(L L':Ls) w w',(∀t,L' t=false→L t=false)→S L w→aC w.heap.size w w'→S L' w')
  (hS:S (fun _=>false) w.drew) (hbase:iF a0.eval base) (hlate:EH ops a0.eval late) (hE:Each (Yields P) ops Vs S base late 0 ops.toList) (hQ : ∀a w,iU ops Vs S a0 (aU ops.size true) a w→Q .normal a w):(Code.region id ops true).wp P Q a0 w:=
 wp_region_any hm (by
  rw[CY]
  exact tk (Y:=Yields P) (fun i o K a w R ho hw hy hk=>wpOp_step ho fun K' hK=>by rw[if_pos hw];exact hy.wp fun v w' hv=>hK _ _ (hk v w' hv))
   (fun i o K a w ho hw hk=>wpOp_step ho fun K' hK=>by rw[if_neg hw];exact hK _ _ hk) cZ ya I4 a0 rfl hbase hlate hE hQ ops.size _ a0 _ oQ (qq (by
   have e:(fun t=>(aU ops.size false).getD t false)=fun _=>false:=by
    funext t
    simp[aW,jC];split<;>simp
   rw[e];exact hS)))
theorem cj{id:Nat}{a0:Act}{w:ar}(hm:P.follows .mixedOrders=true)(Vs:List Pred)(S:Ls→ar→Prop)(base:List (Tmp × ak))(cZ:kN ops a0.tmps.size base=true)(ya:jz S Vs)(I4 : ∀(L L':Ls) w w',(∀t,L' t=false→L t=false)→S L w→aC w.heap.size w w'→S L' w')
  (hS:S (fun _=>false) w.drew) (hbase:iF a0.eval base) (hE:Each (Yields P) ops Vs S base [] 0 ops.toList) (hQ : ∀a w,iU ops Vs S a0 (aU ops.size true) a w→Q .normal a w):(Code.region id ops true).wp P Q a0 w:=
 uO (late:=[]) hm Vs S base cZ ya I4 hS hbase trivial hE hQ
theorem iU.kept{a0 a:Act}{L:Array Bool}{w:ar}(h:iU ops Vs S a0 L a w){t:Tmp}(hk:keeps ops t=true):a.tmps.getD t af=a0.tmps.getD t undef:=
 h.keep t fun o ho=>by
  have:=bL.1 hk o ho;simpa using this
theorem iU.kp{a0 a:Act}{L:Array Bool}{w:ar}(h:iU ops Vs S a0 L a w)(t:Tmp)(hk:keeps ops t=true):a.tmps.getD t af=a0.tmps.getD t undef:=h.kept hk
theorem iU.val{a0 a:Act}{w:ar}(h:iU ops Vs S a0 (aU ops.size true) a w)(i:Nat)(hi:i<ops.size):gY Vs i (kq (gH ops i) a.eval) (gQ ops a.eval (gS ops i)) w:=h.vals i (by simp[fg,hi])
theorem iU.act{a0 a:Act}{L:Array Bool}{w:ar}(h:iU ops Vs S a0 L a w):a=⟨((bf a0.tmps.size).map fun t=>a.tmps.getD t af).toArray,a0.defers⟩:=by
 have h1:=h.size;have h2:=h.defers;obtain⟨tm,df⟩:=a;simp only[] at h1 h2;subst h2;rw[←h1]
 congr 1
 apply Array.ext
 ·simp
 ·intro i h1 h2;simp[fg,h1]
theorem iU.lits{a0 a:Act}{L:Array Bool}{w:ar}(h:iU ops Vs S a0 L a w)(n:Nat)(hn:a0.tmps.size=n):a=⟨((bf n).map fun t=>a.tmps.getD t af).toArray,a0.defers⟩:=hn▸h.act
end
end Ph
end Go.Lag
namespace Go.Proofs.YtffladgmkiimjaaGreatDoor
open Go.RowKit Go.Lag
theorem Cz(b:BB)(men sent marks:ak)(ml:List Mn)(ss:List Int)(ms:List Mk)(w:ar)(hL:Laid w)(hB:cK b men sent marks ml ss ms w)(hne:bn b ml ss ms≠[])(cp:Nat)
  (hown : ∀W,aC w.heap.size w W→bp aq 164 #[aQ (b.cells men sent marks),pv cp 0] W fun e W'=>e=aG (ah ag 0)∧aC W.heap.size W W') :
  bp aq 103 #[aQ (b.cells men sent marks),.func (.func 164) #[] #[pv cp 0]] w fun e w'=>∃v,e=aG (.tuple #[aQ (b.open men sent marks v),ah ag 0])∧ij w' w.heap.size v (bn b ml ss ms)∧aC w.heap.size w w':=by
 have uz:mf (∀W,aC w.heap.size w W→bp aq 71 #[aQ (b.cells men sent marks)] W fun e w'=>e=aG (ah ag 0)∧aC W.heap.size W w'):=ai fun W hb=>fV b men sent marks ml ss ms W (hL.below hb) (hB.below hb);have SS:mf (∀W,aC w.heap.size w W→bp aq 116 #[.func (.func 117) #[aQ (b.cells men sent marks)] #[]] W fun e w'=>∃v,e=aG v∧ij w' W.heap.size v (bn b ml ss ms)∧aC W.heap.size W w'):=ai fun W hb=>oT b men sent marks ml ss ms W (hB.below hb);have KS:=ai hown;obtain⟨pm,cm,rfl,_⟩:=aV hB.rm;obtain⟨pn,cn,rfl,_⟩:=aV hB.rs;obtain⟨pk,ck,rfl,_⟩:=aV hB.rk;have kG:0<(bn b ml ss ms).length:=List.length_pos_iff.2 hne;clear hL hB hne hown;generalize bn b ml ss ms=all at *;generalize ml.length=lm at *;generalize ss.length=ln at *;generalize ms.length=lk at *;have b0:aC w.heap.size w ((w.alloc (au (b.cells (ae pm lm cm) (ae pn ln cn) (ae pk lk ck)) 28)).alloc (au iv 122)):=((aw _ _).alloc (ay _) _).alloc (by simp) _;have HT:mf (Two w (b.cells (ae pm lm cm) (ae pn ln cn) (ae pk lk ck)) 28 iv 122 ((w.alloc (au (b.cells (ae pm lm cm) (ae pn ln cn) (ae pk lk ck)) 28)).alloc (au iv 122))):=ai ⟨(Two.mk' w _ _ _ _).one,(Two.mk' w _ _ _ _).two,b0,by simp⟩;have I6:=ai b0;clear b0
 go_enter Tryz.func103,Tryz.ntmps103
 go_wp2_with (first
  |(refine ox rfl 122 _ rfl _ rfl 122 _ (0,0) _ Yq.out jf rfl (by kernel_rfl) ?_)
  |(refine gT rfl 122 _ _ rfl _ _ rfl rfl 122 _ MQ.out (by kernel_rfl) rfl (by simp[cy]) ?_)
  |(go_at_call 71;refine(uz.out _ I6.out).mono ?_;clear uz;rintro e w1 ⟨rfl,hb1⟩
    have rQ:=HT.out.next hb1;have o6:=ai rQ
    obtain⟨x0,x1,x2,x3,x4,x5,x6,x7,x8,x9,nG,nE,oh,nM,nQ⟩:=bQ rQ.one
    clear rQ hb1)
  |(go_at_call 164;refine(KS.out _ (o6.out.below.alloc (by have:=o6.out.size;omega) _)).mono ?_;clear KS;rintro e w2 ⟨rfl,hb2⟩
    have B8:=(o6.out.next ((aw _ _).alloc (ay _) (au (b.open (ae pm lm cm) (ae pn ln cn) (ae pk lk ck) (ae none 0 0)) 122))).next hb2;have FA:=ai B8
    have hk2:=(hb2.block w1.heap.size (by simp)).trans (ax w1 _);have FC:=ai hk2;have hs1:=o6.out.size;have hs2:=hb2.size;obtain⟨y0,y1,y2,y3,y4,y5,y6,y7,y8,y9,K7,Ja,I9,MU,I8,GL⟩:=jF hk2
    clear B8 hk2 hb2)
  |(go_at_call 116;refine(SS.out _ FA.out.below).mono ?_;clear SS;rintro e w3 ⟨v,rfl,jq,hb3⟩
    have EO:=FA.out.next hb3;have NP:=ai EO;have KT:=ai jq
    simp only[ey] at hs2;have hk3:=(hb3.block w1.heap.size (by omega)).trans FC.out;have YS:=ai hk3;have hs3:=hb3.size;clear y0 y1 y2 y3 y4 y5 y6 y7 y8 y9 K7 Ja I9 MU I8 GL;have GL:=aH hk3 15 _ rfl;have f7:=cI hk3 15;have pI:=ai hb3
    obtain⟨gv,oV,rfl,DW⟩ : ∃gv oV,v=ae (some ⟨gv,0,none⟩) all.length oV∧w2.heap.size≤gv:=by
     rcases jq.1.2 with⟨_,h0⟩|⟨g,cap,cur,rfl,hg,_⟩
     ·omega
     ·exact⟨g,cap,rfl,hg⟩
    have Yq:mf ((w3.setCell ⟨w1.heap.size,15,none⟩ (ae (some ⟨gv,0,none⟩) all.length oV)).heap[w1.heap.size]?=some (au (b.open (ae pm lm cm) (ae pn ln cn) (ae pk lk ck) (ae (some ⟨gv,0,none⟩) all.length oV)) 122 (0,0))):=ai (bT _ hk3);have MQ:mf ((w3.setCell ⟨w1.heap.size,15,none⟩ (ae (some ⟨gv,0,none⟩) all.length oV)).heap[w.heap.size+1]?=some (au iv 122 (0,0))):=ai ((bu _ _ _ _ (by show w.heap.size+1≠w1.heap.size;omega)).trans EO.two)
    clear EO hk3 hb3 jq))
 refine bw (results_cell_tmp (g:=w.heap.size+1) rfl rfl (run_loadVar_row _ _ 122 122 _ (0,0) _ (cM MQ.out) jf rfl (by kernel_rfl))) rfl ⟨_,rfl,?_,?_⟩
 ·have hs1:=o6.out.size;refine(KT.out.at_ fun g hg=>?_).base (by omega);have DY:g=gv:=by simpa [Value.ownBlock] using hg.symm
  subst DY;exact(setRow_other (by omega)).trans (bu _ _ _ _ (by show g≠w1.heap.size;omega))
 ·have hs1:=o6.out.size;exact dJ (NP.out.below.setCell (p:=⟨w1.heap.size,15,none⟩) (by show _≤w1.heap.size;omega) _) (by omega)
theorem Hw:(Tryz.prog.info? 81).map (fun i=>(i.zero,i.size,i.bytes))=some (some (aQ #[ah ag 0,ah ag 0,ah ag 0]),3,24):=by kernel_rfl
theorem WD:(Tryz.prog.info? 79).map (fun i=>(i.zero,i.size,i.bytes))=some (some (aQ #[.string ⟨#[]⟩,ah ag 0,ah ag 0]),3,32):=by kernel_rfl
theorem Mv(v:ak)(n:Nat)(xs:List ak)(hl:xs.length=n*3)(h1 : ∀u∈xs,u.oneCell'=true)(hn:n≤1000)(w:ar)(hv:Reads w v n xs) :
  bp aq 149 #[v] w fun e w'=>∃v',e=aG v'∧w'.ownsRow w.heap.size 81 3 v' n xs∧aC w.heap.size w w':=by
 obtain⟨i0,hi,hz0,hz1,hz2⟩:=info_parts Hw;rcases hv with⟨rfl,rfl,rfl⟩|⟨g,off,cap,rfl,J6,hg,hc⟩
 ·have hq : ∀w,(binOp BinOp.eql 26 (oz none 0 0) (oz none 0 0)).run aq w=.ok (aA true) w:=fun w=>by kernel_rfl
  go_enter Tryz.func149,Tryz.ntmps149
  go_wp2
  go_ret
  exact⟨_,rfl,eO _ _ _ _,aw _ _⟩
 ·have NS:mf (∀j u,xs[j]?=some u→(w.alloc (au #[] 81)).cell? ((⟨g,off,none⟩:Addr).add j)=some u):=ai fun j u hj=>by
   have e:(⟨g,off,none⟩:Addr).add j=⟨g,off+j,none⟩:=by cases j<;>simp[l5]
   rw[e];exact(eF _ _ _ hg).trans (hc j u hj)
  have HO:=ai h1;have HL:=ai hl;clear hc h1 hl;have hq : ∀w,(binOp BinOp.eql 26 (oz (some ⟨g,off,none⟩) n cap) (oz none 0 0)).run aq w=.ok (aA false) w:=fun w=>by kernel_rfl
  go_enter Tryz.func149,Tryz.ntmps149
  go_wp2_with (at_builtin;refine iQ _ rfl _ _ 26 rfl w.heap.size 81 i0 (aQ #[ah ag 0,ah ag 0,ah ag 0]) 3 24 Tryz.underlying26 hi hz0 hz1 hz2 rfl (by decide) _ _ _ rfl (World.ownsRow_made w #[] 0 (ay _) (by unfold kQ;omega) rfl) ⟨g,off,none⟩ n cap xs rfl HL.out NS.out HO.out (by unfold kQ;omega) (by omega) (by simp) ?_;intro v' w1 hown hgrow hnil)
  go_ret
  refine⟨_,rfl,by simpa using hown,?_⟩;exact((aw _ _).alloc (ay _) (au #[] 81)).grown hgrow (by simp) fun j hj=>by have h2:w.heap.size=j:=bt hj;omega
theorem Sn(v:ak)(n:Nat)(xs:List ak)(hl:xs.length=n*3)(h1 : ∀u∈xs,u.oneCell'=true)(hn:n≤1000)(w:ar)(hv:Reads w v n xs) :
  bp aq 154 #[v] w fun e w'=>∃v',e=aG v'∧w'.ownsRow w.heap.size 79 3 v' n xs∧aC w.heap.size w w':=by
 obtain⟨i0,hi,hz0,hz1,hz2⟩:=info_parts WD;rcases hv with⟨rfl,rfl,rfl⟩|⟨g,off,cap,rfl,J6,hg,hc⟩
 ·have hq : ∀w,(binOp BinOp.eql 24 (oz none 0 0) (oz none 0 0)).run aq w=.ok (aA true) w:=fun w=>by kernel_rfl
  go_enter Tryz.func154,Tryz.ntmps154
  go_wp2
  go_ret
  exact⟨_,rfl,eO _ _ _ _,aw _ _⟩
 ·have NS:mf (∀j u,xs[j]?=some u→(w.alloc (au #[] 79)).cell? ((⟨g,off,none⟩:Addr).add j)=some u):=ai fun j u hj=>by
   have e:(⟨g,off,none⟩:Addr).add j=⟨g,off+j,none⟩:=by cases j<;>simp[l5]
   rw[e];exact(eF _ _ _ hg).trans (hc j u hj)
  have HO:=ai h1;have HL:=ai hl;clear hc h1 hl;have hq : ∀w,(binOp BinOp.eql 24 (oz (some ⟨g,off,none⟩) n cap) (oz none 0 0)).run aq w=.ok (aA false) w:=fun w=>by kernel_rfl
  go_enter Tryz.func154,Tryz.ntmps154
  go_wp2_with (at_builtin;refine iQ _ rfl _ _ 24 rfl w.heap.size 79 i0 (aQ #[.string ⟨#[]⟩,ah ag 0,ah ag 0]) 3 32 Tryz.underlying24 hi hz0 hz1 hz2 rfl (by decide) _ _ _ rfl (World.ownsRow_made w #[] 0 (ay _) (by unfold kQ;omega) rfl) ⟨g,off,none⟩ n cap xs rfl HL.out NS.out HO.out (by unfold kQ;omega) (by omega) (by simp) ?_;intro v' w1 hown hgrow hnil)
  go_ret
  refine⟨_,rfl,by simpa using hown,?_⟩;exact((aw _ _).alloc (ay _) (au #[] 79)).grown hgrow (by simp) fun j hj=>by have h2:w.heap.size=j:=bt hj;omega
theorem Ps(v:ak)(n:Nat)(xs:List ak)(hl:xs.length=n*1)(h1 : ∀u∈xs,u.oneCell'=true)(hn:n≤1000)(w:ar)(hv:Reads w v n xs) :
  bp aq 156 #[v] w fun e w'=>∃v',e=aG v'∧w'.ownsRow w.heap.size 3 1 v' n xs∧aC w.heap.size w w':=by
 obtain⟨i0,hi,hz0,hz1,hz2⟩:=info_parts info3;rcases hv with⟨rfl,rfl,rfl⟩|⟨g,off,cap,rfl,J6,hg,hc⟩
 ·have hq : ∀w,(binOp BinOp.eql 25 (oz none 0 0) (oz none 0 0)).run aq w=.ok (aA true) w:=fun w=>by kernel_rfl
  go_enter Tryz.func156,Tryz.ntmps156
  go_wp2
  go_ret
  exact⟨_,rfl,eO _ _ _ _,aw _ _⟩
 ·have NS:mf (∀j u,xs[j]?=some u→(w.alloc (au #[] 3)).cell? ((⟨g,off,none⟩:Addr).add j)=some u):=ai fun j u hj=>by
   have e:(⟨g,off,none⟩:Addr).add j=⟨g,off+j,none⟩:=by cases j<;>simp[l5]
   rw[e];exact(eF _ _ _ hg).trans (hc j u hj)
  have HO:=ai h1;have HL:=ai hl;clear hc h1 hl;have hq : ∀w,(binOp BinOp.eql 25 (oz (some ⟨g,off,none⟩) n cap) (oz none 0 0)).run aq w=.ok (aA false) w:=fun w=>by kernel_rfl
  go_enter Tryz.func156,Tryz.ntmps156
  go_wp2_with (at_builtin;refine iQ _ rfl _ _ 25 rfl w.heap.size 3 i0 (ah ag 0) 1 8 iR hi hz0 hz1 hz2 rfl (by decide) _ _ _ rfl (World.ownsRow_made w #[] 0 (ay _) (by unfold kQ;omega) rfl) ⟨g,off,none⟩ n cap xs rfl HL.out NS.out HO.out (by unfold kQ;omega) (by omega) (by simp) ?_;intro v' w1 hown hgrow hnil)
  go_ret
  refine⟨_,rfl,by simpa using hown,?_⟩;exact((aw _ _).alloc (ay _) (au #[] 3)).grown hgrow (by simp) fun j hj=>by have h2:w.heap.size=j:=bt hj;omega
theorem Ox(l:List Mn) : ∀u∈gu l,u.oneCell'=true:=by
 intro u hu;simp only[gu,List.mem_flatMap] at hu;obtain⟨m,_,hu⟩:=hu;simp at hu;rcases hu with rfl|rfl|rfl<;>rfl
theorem F5(l:List Mk) : ∀u∈eN l,u.oneCell'=true:=by
 intro u hu;simp only[eN,List.mem_flatMap] at hu;obtain⟨m,_,hu⟩:=hu;simp at hu;rcases hu with rfl|rfl|rfl<;>rfl
theorem QP(l:List Int) : ∀u∈l.map (aM ag),u.oneCell'=true:=by
 intro u hu;simp at hu;obtain⟨x,_,rfl⟩:=hu;rfl
theorem eu{W:ar}{base:Nat}{e:bg}{size:Nat}{v:ak}{n:Nat}{xs:List ak}(h:W.ownsRow base e size v n xs) : ∃p c,v=ae p n c:=by
 rcases h.2 with⟨rfl,rfl⟩|⟨g,cap,cur,rfl,_⟩
 ·exact⟨_,_,rfl⟩
 ·exact⟨_,_,rfl⟩
structure rO(n:Nat)(a b c:ak):Prop where
 one : ∀g,a.ownBlock=some g→n≤g
 two : ∀g,b.ownBlock=some g→n≤g
 three : ∀g,c.ownBlock=some g→n≤g
theorem rO.base{n m:Nat}{a b c:ak}(h:rO n a b c)(hm:m≤n):rO m a b c:=⟨fun g hg=>bq hm (h.one g hg),fun g hg=>bq hm (h.two g hg),fun g hg=>bq hm (h.three g hg)⟩
theorem Reads.at_{w w':ar}{v:ak}{n:Nat}{xs:List ak}(h:Reads w v n xs)(hs:w.heap.size≤w'.heap.size)(hk : ∀g,v.ownBlock=some g→w'.heap[g]?=w.heap[g]?):Reads w' v n xs:=by
 rcases h with h|⟨g,off,cap,h1,h2,h3,h4⟩
 ·exact .inl h
 ·exact .inr ⟨g,off,cap,h1,h2,bE h3 hs,fun j u hj=>(World.cell?_of_block (a:=⟨g,off+j,none⟩) (hk g (by rw[h1];rfl))).trans (h4 j u hj)⟩
theorem cK.setRow{b:BB}{m s k:ak}{ml:List Mn}{ss:List Int}{ms:List Mk}{w:ar}{n B:Nat}{cs:Array ak}(h:cK b m s k ml ss ms w)(hf:rO n m s k)(hB:B<n):cK b m s k ml ss ms (w.setRow B cs):=
 ⟨h.ok,h.iw,h.mL,h.lh,h.rm.at_ (by rw[setRow_size];exact ay _) fun g hg=>setRow_other (by have:=hf.one g hg;omega),h.rs.at_ (by rw[setRow_size];exact ay _) fun g hg=>setRow_other (by have:=hf.two g hg;omega),h.rk.at_ (by rw[setRow_size];exact ay _) fun g hg=>setRow_other (by have:=hf.three g hg;omega)⟩
def Typed(w:ar)(v:ak)(t:bg):Prop:=∀g,v.ownBlock=some g→∃cs,w.heap[g]?=some (au cs t (0,0))
structure gg(b:BB)(m s k:ak)(ml:List Mn)(ss:List Int)(ms:List Mk)(w:ar):Prop extends cK b m s k ml ss ms w where
 t1:Typed w m 79
 t2:Typed w s 3
 t3:Typed w k 81
theorem Typed.setRow{w:ar}{v:ak}{t:bg}(h:Typed w v t){B:Nat}{cs:Array ak}(hB : ∀g,v.ownBlock=some g→g≠B):Typed (w.setRow B cs) v t:=fun g hg=>by
 obtain⟨c,hc⟩:=h g hg;exact⟨c,(setRow_other (hB g hg)).trans hc⟩
theorem gg.setRow{b:BB}{m s k:ak}{ml:List Mn}{ss:List Int}{ms:List Mk}{w:ar}{n B:Nat}{cs:Array ak}(h:gg b m s k ml ss ms w)(hf:rO n m s k)(hB:B<n):gg b m s k ml ss ms (w.setRow B cs):=
 ⟨h.tocK.setRow hf hB,h.t1.setRow fun g hg=>by have:=hf.one g hg;omega,h.t2.setRow fun g hg=>by have:=hf.two g hg;omega,h.t3.setRow fun g hg=>by have:=hf.three g hg;omega⟩
theorem rz{w:ar}{base:Nat}{e:bg}{size:Nat}{v:ak}{n:Nat}{xs:List ak}(h:w.ownsRow base e size v n xs):Typed w v e:=fun g hg=>by
 rcases h.2 with⟨rfl,_⟩|⟨g',c,cur,rfl,_,h1,_⟩
 ·cases hg
 ·obtain rfl:g'=g:=bt hg;exact⟨cur,h1⟩
theorem eJ{w1 w2:ar}{base:Nat}{e:bg}{size:Nat}{v:ak}{n:Nat}{xs:List ak}(h:w1.ownsRow base e size v n xs)(hb:aC w1.heap.size w1 w2):w2.ownsRow base e size v n xs:=ie h fun g hg=>hb.block g (h.lt g hg).2
theorem dC{w1:ar}{base:Nat}{e t:bg}{size B i:Nat}{v u:ak}{n:Nat}{xs:List ak}{cs:Array ak}(h:w1.ownsRow base e size v n xs)(hB:w1.heap[B]?=some (au cs t (0,0)))(ht:t≠e):(w1.setCell ⟨B,i,none⟩ u).ownsRow base e size v n xs:=by
 refine ie h fun g hg=>bu _ _ _ _ ?_;show g≠B;rintro rfl;rcases h.2 with⟨rfl,_⟩|⟨g',cap,cur,rfl,_,h1,_⟩
 ·cases hg
 ·have h3:g'=g:=bt hg;subst h3;rw[hB] at h1;cases h1;exact ht rfl
def Fz(w:ar)(b:BB)(men sent marks:ak)(Z:Array ak)(A B C:Bool)(w9:ar):Prop:=
 ∃m s k,w9.heap[w.heap.size]?=some (au (b.cells m s k) 28 (0,0))∧(A=false→m=men)∧(B=false→s=sent)∧(C=false→k=marks)∧w9.heap[w.heap.size+1]?=some (au Z 28 (0,0))∧aC w.heap.size w w9∧w.heap.size+2≤w9.heap.size
theorem Fz.below{w:ar}{b:BB}{men sent marks:ak}{Z:Array ak}{A B C:Bool}{w9:ar}(h:Fz w b men sent marks Z A B C w9):aC w.heap.size w w9:=by obtain⟨_,_,_,_,_,_,_,_,h,_⟩:=h;exact h
theorem Fz.zero{w:ar}{b:BB}{men sent marks:ak}{Z:Array ak}{A B C:Bool}{w9:ar}(h:Fz w b men sent marks Z A B C w9):w9.heap[w.heap.size+1]?=some (au Z 28 (0,0)):=by obtain⟨_,_,_,_,_,_,_,h,_,_⟩:=h;exact h
theorem Fz.size{w:ar}{b:BB}{men sent marks:ak}{Z:Array ak}{A B C:Bool}{w9:ar}(h:Fz w b men sent marks Z A B C w9):w.heap.size+2≤w9.heap.size:=by obtain⟨_,_,_,_,_,_,_,_,_,h⟩:=h;exact h
theorem Fz.next{w:ar}{b:BB}{men sent marks:ak}{Z:Array ak}{A B C A' B' C':Bool}{w1 w2:ar}(hA:A'=false→A=false)(hB:B'=false→B=false)(hC:C'=false→C=false)(h:Fz w b men sent marks Z A B C w1)(hb:aC w1.heap.size w1 w2):Fz w b men sent marks Z A' B' C' w2:=by
 obtain⟨m,s,k,h1,h2,h3,h4,h5,h6,h7⟩:=h;exact⟨m,s,k,(hb.block _ (by omega)).trans h1,fun h=>h2 (hA h),fun h=>h3 (hB h),fun h=>h4 (hC h),(hb.block _ (by omega)).trans h5,h6.trans (hb.mono (by omega)),bq h7 hb.size⟩
theorem TE(b:BB)(men sent marks:ak)(ml:List Mn)(ss:List Int)(ms:List Mk)(w:ar)(hB:cK b men sent marks ml ss ms w) :
  bp aq 157 #[aQ (b.cells men sent marks)] w fun e w'=>∃m' s' k',e=aG (aQ (b.cells m' s' k'))∧gg b m' s' k' ml ss ms w'∧rO w.heap.size m' s' k'∧aC w.heap.size w w':=by
 have Vm:=hB.iw.len;have hk3:=hB.lh.len;have hs3:ss.length≤3:=by have:=hB.mL.len;have:=hB.ok.ek;omega
 obtain⟨pm,cm,rfl,_⟩:=aV hB.rm;obtain⟨pn,cn,rfl,_⟩:=aV hB.rs;obtain⟨pk,ck,rfl,_⟩:=aV hB.rk;have ht:=Two.mk' w (b.cells (ae pm ml.length cm) (ae pn ss.length cn) (ae pk ms.length ck)) 28 #[ah ag 0,ah ag 0,ah ag 0,ah ag 0,ah ag 0,ah ag 0,ah ag 0,ah ag 0,ah ag 0,ah ag 0,ah ag 0,ah ag 0,ae none 0 0,ae none 0 0,ae none 0 0] 28
 go_enter Tryz.func157,Tryz.ntmps157
 go_wp2
 refine Ph.cj (by kernel_rfl) [
 pV (pv w.heap.size 12),
  pV (ae pm ml.length cm),
  fun v ds w9=>w9.ownsRow (w.heap.size+2) 79 3 v ml.length (gu ml),
  pV (pv w.heap.size 13),
  pV (ae pn ss.length cn),
  fun v ds w9=>w9.ownsRow (w.heap.size+2) 3 1 v ss.length (ss.map (aM ag)),
  pV (pv w.heap.size 14),
  pV (ae pk ms.length ck),
  fun v ds w9=>w9.ownsRow (w.heap.size+2) 81 3 v ms.length (eN ms),
  pV (pv w.heap.size 12),
  fun v ds w9=>∃x s m,ds[1]?=some x∧w9.heap[w.heap.size]?=some (au (b.cells x s m) 28 (0,0)),
  pV (pv w.heap.size 13),
  fun v ds w9=>∃x y m,ds[5]?=some x∧ds[1]?=some y∧w9.heap[w.heap.size]?=some (au (b.cells x y m) 28 (0,0)),
  pV (pv w.heap.size 14),
  fun v ds w9=>∃x y z,ds[5]?=some x∧ds[8]?=some y∧ds[1]?=some z∧w9.heap[w.heap.size]?=some (au (b.cells x y z) 28 (0,0))]
  (fun L w9=>Fz w b (ae pm ml.length cm) (ae pn ss.length cn) (ae pk ms.length ck) #[ah ag 0,ah ag 0,ah ag 0,ah ag 0,ah ag 0,ah ag 0,ah ag 0,ah ag 0,ah ag 0,ah ag 0,ah ag 0,ah ag 0,ae none 0 0,ae none 0 0,ae none 0 0] (L 10) (L 12) (L 14) w9) [(1,pv w.heap.size 0)] (by kernel_rfl) ?rst (fun L L2 w1 w2 PV h hb=>h.next (PV 10) (PV 12) (PV 14) hb) (⟨_,_,_,ht.one,fun _=>rfl,fun _=>rfl,fun _=>rfl,ht.two,ht.below,ht.size⟩) ⟨rfl,trivial⟩ ?reach ?rfin
 case rst=>
  refine⟨Ph.sV,Ph.sV,?_,Ph.sV,Ph.sV,?_,Ph.sV,Ph.sV,?_,Ph.sV,?_,Ph.sV,?_,Ph.sV,?_,trivial⟩
  ·rintro v ds L w1 w2 hS h hb;exact eJ h hb
  ·rintro v ds L w1 w2 hS h hb;exact eJ h hb
  ·rintro v ds L w1 w2 hS h hb;exact eJ h hb
  ·rintro v ds L w1 w2 hS ⟨x,s,m,h1,h2⟩ hb;exact⟨x,s,m,h1,(hb.block _ (aj.1 h2).1).trans h2⟩
  ·rintro v ds L w1 w2 hS ⟨x,s,m,h1,h2,h3⟩ hb;exact⟨x,s,m,h1,h2,(hb.block _ (aj.1 h3).1).trans h3⟩
  ·rintro v ds L w1 w2 hS ⟨x,s,m,h1,h2,h3,h4⟩ hb;exact⟨x,s,m,h1,h2,h3,(hb.block _ (aj.1 h4).1).trans h4⟩
 case reach=>
  refine⟨?_,?_,?_,?_,?_,?_,?_,?_,?_,?_,?_,?_,?_,?_,?_,trivial⟩<;>rintro Lf ev w1 hn tU hS hc hg hf ⟨b1,-⟩ hd
  ·clear hd;refine Ph.yv ?_ rfl;go_simp
  ·have d0:ev (aB 3)=_:=hd.1 rfl;clear hd;obtain⟨m0,s0,k0,hb0,q1,q2,q3,_⟩:=hS;obtain rfl:=q1 (hn 10 (by kernel_rfl));have x:=aH hb0 12 _ rfl;refine Ph.yv ?_ rfl;go_simp
  ·have d1:ev (aB 4)=_:=hd.1 rfl;clear hd;refine Lag.Yields.call (f:=154) (args:=#[ae pm ml.length cm]) ?_ (Sn _ ml.length (gu ml) (by rw[vM];omega) (Ox ml) (by omega) w1 (hB.rm.below hS.below)) ?_
   ·go_simp
   ·rintro e w2 ⟨v',rfl,ho,hb⟩;exact⟨_,rfl,ownsRow_base ho hS.size,.inl hb⟩
  ·clear hd;refine Ph.yv ?_ rfl;go_simp
  ·have d3:ev (aB 6)=_:=hd.1 rfl;clear hd;obtain⟨m0,s0,k0,hb0,q1,q2,q3,_⟩:=hS;obtain rfl:=q2 (hn 12 (by kernel_rfl));have x:=aH hb0 13 _ rfl;refine Ph.yv ?_ rfl;go_simp
  ·have d4:ev (aB 7)=_:=hd.1 rfl;clear hd;refine Lag.Yields.call (f:=156) (args:=#[ae pn ss.length cn]) ?_ (Ps _ ss.length (ss.map (aM ag)) (by simp) (QP ss) (by omega) w1 (hB.rs.below hS.below)) ?_
   ·go_simp
   ·rintro e w2 ⟨v',rfl,ho,hb⟩;exact⟨_,rfl,ownsRow_base ho hS.size,.inl hb⟩
  ·clear hd;refine Ph.yv ?_ rfl;go_simp
  ·have d6:ev (aB 9)=_:=hd.1 rfl;clear hd;obtain⟨m0,s0,k0,hb0,q1,q2,q3,_⟩:=hS;obtain rfl:=q3 (hn 14 (by kernel_rfl));have x:=aH hb0 14 _ rfl;refine Ph.yv ?_ rfl;go_simp
  ·have d7:ev (aB 10)=_:=hd.1 rfl;clear hd;refine Lag.Yields.call (f:=149) (args:=#[ae pk ms.length ck]) ?_ (Mv _ ms.length (eN ms) (by rw[r5];omega) (F5 ms) (by omega) w1 (hB.rk.below hS.below)) ?_
   ·go_simp
   ·rintro e w2 ⟨v',rfl,ho,hb⟩;exact⟨_,rfl,ownsRow_base ho hS.size,.inl hb⟩
  ·clear hd;refine Ph.yv ?_ rfl;go_simp
  ·have d9:ev (aB 12)=_:=hd.1 rfl;have d2:w1.ownsRow (w.heap.size+2) 79 3 (ev (aB 5)) ml.length (gu ml):=hd.2.1 rfl;clear hd;obtain⟨p5,c5,e5⟩:=eu d2;have hb:=hS.below;have hz:=hS.zero;have hsz:=hS.size;obtain⟨m0,s0,k0,hb0,q1,q2,q3,_⟩:=hS;have c1:=aH hb0 12 _ rfl;have f1:=cI hb0 12;refine Lag.Yields.skip (w':=w1.setCell ⟨w.heap.size,12,none⟩ (ev (aB 5))) ?_ ⟨⟨_,s0,k0,rfl,bT _ hb0⟩,.inr ⟨⟨_,s0,k0,bT _ hb0,(by intro h;simp[Ph.upd] at h),q2,q3,(bu _ _ _ _ (by show _≠w.heap.size;omega)).trans hz,hb.setCell (p:=⟨w.heap.size,12,none⟩) (ay _) _,by simpa using hsz⟩,?_⟩⟩
   ·rw[e5];go_simp
   ·intro j u ds hj hL hp
    match j,hp with
    |0,hp=>exact hp
    |1,hp=>exact hp
    |2,hp=>exact dC hp hb0 (by decide)
    |3,hp=>exact hp
    |4,hp=>exact hp
    |5,hp=>exact dC hp hb0 (by decide)
    |6,hp=>exact hp
    |7,hp=>exact hp
    |8,hp=>exact dC hp hb0 (by decide)
    |9,hp=>exact hp
    |10,_=>exact(hj rfl).elim
    |11,hp=>exact hp
    |12,_=>rw[hn 12 (by kernel_rfl)] at hL;cases hL
    |13,hp=>exact hp
    |14,_=>rw[hn 14 (by kernel_rfl)] at hL;cases hL
    |j+15,_=>trivial
  ·clear hd;refine Ph.yv ?_ rfl;go_simp
  ·have d11:ev (aB 13)=_:=hd.1 rfl;have d5:w1.ownsRow (w.heap.size+2) 3 1 (ev (aB 8)) ss.length (ss.map (aM ag)):=hd.2.1 rfl;have d10 : ∃x s m,(_:List ak)[1]?=some x∧w1.heap[w.heap.size]?=some (au (b.cells x s m) 28 (0,0)):=hd.2.2.1 rfl;have d1:ev (aB 4)=_:=hd.2.2.2.2.1 rfl;clear hd;obtain⟨p5,c5,e8⟩:=eu d5;have hb:=hS.below;have hz:=hS.zero;have hsz:=hS.size;obtain⟨x,s,m,h1,h2⟩:=d10;obtain⟨m0,s0,k0,hb0,q1,q2,q3,_⟩:=hS;rw[hb0] at h2;cases h2;have c1:=aH hb0 13 _ rfl;have f1:=cI hb0 13;refine Lag.Yields.skip (w':=w1.setCell ⟨w.heap.size,13,none⟩ (ev (aB 8))) ?_ ⟨⟨_,_,_,h1,rfl,bT _ hb0⟩,.inr ⟨⟨_,_,_,bT _ hb0,(fun h=>q1 (by simpa [Ph.upd] using h)),(by intro h;simp[Ph.upd] at h),q3,(bu _ _ _ _ (by show _≠w.heap.size;omega)).trans hz,hb.setCell (p:=⟨w.heap.size,13,none⟩) (ay _) _,by simpa using hsz⟩,?_⟩⟩
   ·rw[e8];go_simp
   ·intro j u ds hj hL hp
    match j,hp with
    |0,hp=>exact hp
    |1,hp=>exact hp
    |2,hp=>exact dC hp hb0 (by decide)
    |3,hp=>exact hp
    |4,hp=>exact hp
    |5,hp=>exact dC hp hb0 (by decide)
    |6,hp=>exact hp
    |7,hp=>exact hp
    |8,hp=>exact dC hp hb0 (by decide)
    |9,hp=>exact hp
    |10,⟨x,s,m,h1,h2⟩=>rw[hb0] at h2;cases h2;exact⟨_,_,_,h1,bT _ hb0⟩
    |11,hp=>exact hp
    |12,_=>exact(hj rfl).elim
    |13,hp=>exact hp
    |14,_=>rw[hn 14 (by kernel_rfl)] at hL;cases hL
    |j+15,_=>trivial
  ·clear hd;refine Ph.yv ?_ rfl;go_simp
  ·have d13:ev (aB 14)=_:=hd.1 rfl;have d8:w1.ownsRow (w.heap.size+2) 81 3 (ev (aB 11)) ms.length (eN ms):=hd.2.1 rfl;have d12 : ∃x y m,(_:List ak)[5]?=some x∧(_:List ak)[1]?=some y∧w1.heap[w.heap.size]?=some (au (b.cells x y m) 28 (0,0)):=hd.2.2.1 rfl;have d1:ev (aB 4)=_:=hd.2.2.2.2.1 rfl;clear hd;obtain⟨p5,c5,e11⟩:=eu d8;have hb:=hS.below;have hz:=hS.zero;have hsz:=hS.size;obtain⟨x,y,m,h1,h2,h3⟩:=d12;obtain⟨m0,s0,k0,hb0,q1,q2,q3,_⟩:=hS;rw[hb0] at h3;cases h3;have c1:=aH hb0 14 _ rfl;have f1:=cI hb0 14;refine Lag.Yields.skip (w':=w1.setCell ⟨w.heap.size,14,none⟩ (ev (aB 11))) ?_ ⟨⟨_,_,_,h1,h2,rfl,bT _ hb0⟩,.inr ⟨⟨_,_,_,bT _ hb0,(fun h=>q1 (by simpa [Ph.upd] using h)),(fun h=>q2 (by simpa [Ph.upd] using h)),(by intro h;simp[Ph.upd] at h),(bu _ _ _ _ (by show _≠w.heap.size;omega)).trans hz,hb.setCell (p:=⟨w.heap.size,14,none⟩) (ay _) _,by simpa using hsz⟩,?_⟩⟩
   ·rw[e11];go_simp
   ·intro j u ds hj hL hp
    match j,hp with
    |0,hp=>exact hp
    |1,hp=>exact hp
    |2,hp=>exact dC hp hb0 (by decide)
    |3,hp=>exact hp
    |4,hp=>exact hp
    |5,hp=>exact dC hp hb0 (by decide)
    |6,hp=>exact hp
    |7,hp=>exact hp
    |8,hp=>exact dC hp hb0 (by decide)
    |9,hp=>exact hp
    |10,⟨x,s,m,h1,h2⟩=>rw[hb0] at h2;cases h2;exact⟨_,_,_,h1,bT _ hb0⟩
    |11,hp=>exact hp
    |12,⟨x,y,m,h1,h2,h3⟩=>rw[hb0] at h3;cases h3;exact⟨_,_,_,h1,h2,bT _ hb0⟩
    |13,hp=>exact hp
    |14,_=>exact(hj rfl).elim
    |j+15,_=>trivial
 case rfin=>
  intro a2 w2 hR;have hS:=hR.s;have e2:w2.ownsRow (w.heap.size+2) 79 3 (a2.tmps.getD 5 af) ml.length (gu ml):=hR.val 2 (by decide);have e5:w2.ownsRow (w.heap.size+2) 3 1 (a2.tmps.getD 8 af) ss.length (ss.map (aM ag)):=hR.val 5 (by decide);have e8:w2.ownsRow (w.heap.size+2) 81 3 (a2.tmps.getD 11 af) ms.length (eN ms):=hR.val 8 (by decide);obtain⟨x,y,z,h5,h8,h11,jG⟩:=hR.val 14 (by decide);have k1:a2.tmps.getD 1 af=pv w.heap.size 0:=hR.kept (by kernel_rfl);have k2:a2.tmps.getD 2 af=pv (w.heap.size+1) 0:=hR.kept (by kernel_rfl);have k0:a2.tmps.getD 0 af=aQ (b.cells (ae pm ml.length cm) (ae pn ss.length cn) (ae pk ms.length ck)):=hR.kept (by kernel_rfl);have ha:=hR.lits 16 rfl;simp only[bf,bR,List.map] at ha;clear hR;have e5':a2.tmps.getD 5 af=x:=bt h5;have e8':a2.tmps.getD 8 af=y:=bt h8;have aa4:a2.tmps.getD 11 af=z:=bt h11;rw[e5'] at e2;rw[e8'] at e5;rw[aa4] at e8;rw[k0,k1,k2] at ha;generalize a2.tmps.getD=zz at ha;clear k0 k1 k2 h5 h8 h11 e5' e8' aa4;obtain⟨p5,c5,rfl⟩:=eu e2;obtain⟨p8,c8,rfl⟩:=eu e5;obtain⟨S3,c11,rfl⟩:=eu e8;have HX:=ai jG;have HZ:=ai hS.zero;have EI:=ai hS.below;have H2:=ai e2;have H5:=ai e5;have H8:=ai e8;have HB:=ai hB;clear jG hS e2 e5 e8 hB ht;subst ha
  go_wp2_with (first
   |(refine ox rfl 28 _ rfl _ rfl 28 _ (0,0) _ HX.out aT rfl (by kernel_rfl) ?_)
   |(refine gT rfl 28 _ _ rfl _ _ rfl rfl 28 _ HZ.out (by kernel_rfl) rfl (by simp[cy]) ?_))
  refine bw (results_cell_row rfl _ _ (w.heap.size+1) 28 _ (0,0) _ rfl (cM HZ.out) aT rfl (by kernel_rfl)) rfl ⟨_,_,_,rfl,?_,⟨fun g hg=>by have:=(H2.out.lt g hg).1;omega,fun g hg=>by have:=(H5.out.lt g hg).1;omega,fun g hg=>by have:=(H8.out.lt g hg).1;omega⟩,dJ EI.out (by omega)⟩;have hz:=HZ.out;have ns : ∀ {e size v n xs},w2.ownsRow (w.heap.size+2) e size v n xs→(w2.setRow (w.heap.size+1) (b.cells (ae p5 ml.length c5) (ae p8 ss.length c8) (ae S3 ms.length c11))).ownsRow (w.heap.size+2) e size v n xs:=fun h=>ie h fun g hg=>setRow_other (by have:=(h.lt g hg).1;omega);exact⟨⟨HB.out.ok,HB.out.iw,HB.out.mL,HB.out.lh,Reads.jP (ns H2.out) (by omega) (by rw[vM];omega),Reads.jP (ns H5.out) (by omega) (by simp),Reads.jP (ns H8.out) (by omega) (by rw[r5];omega)⟩,rz (ns H2.out),rz (ns H5.out),rz (ns H8.out)⟩
theorem acF(n:Int)(h:0≤n∧n≤99)(w:ar):bp aq 167 #[ah ag n] w fun e w'=>e=aG (aA false)∧w=w':=by
 go_enter Tryz.func167,Tryz.ntmps167
 go_wp2_with (go_at_call 138;refine(jk _ _ _ (by omega) (by omega) _).mono ?_;rintro e w' ⟨rfl,rfl⟩)
 go_ret
 exact⟨rfl,rfl⟩
theorem TU(xs:List Int)(KY : ∀x∈xs,0≤x∧x≤99)(v:ak)(w:ar)(hv:Reads w v xs.length (xs.map (aM ag))) :
  bp aq 170 #[v,.func (.func 167) #[] #[]] w fun e w'=>e=aG (ah ag (-1))∧w=w':=by
 rcases hv with⟨rfl,hn,hx0⟩|⟨g,off,cap,rfl,hn,hg,hc⟩
 ·obtain rfl:xs=[]:=by simpa using hx0
  clear hx0 hn
  go_enter Tryz.func170,Tryz.ntmps170
  go_wp2
  go_loopw [8] (fun i wr=>i=ah ag 0∧wr=w) (fun _ _=>0)
  case atStart=>exact⟨rfl,rfl⟩
  case round=>
   obtain⟨rfl,rfl⟩:=hrel;go_wp2
   go_ret
   exact⟨rfl,rfl⟩
 ·have HC:=ai hc;clear hc;generalize hL:xs.length=L at *;have HL:=ai hL;clear hL
  go_enter Tryz.func170,Tryz.ntmps170
  go_wp2
  go_loopw [5,8] (fun _ i wr=>∃k:Nat,k≤L∧i=ah ag k∧wr=w) (fun _ i _=>L - (intOf i).toNat)
  case atStart=>exact⟨0,by omega,rfl,rfl⟩
  case round=>
   obtain⟨k,hk,rfl,rfl⟩:=hrel
   by_cases hlt:k<L
   ·have kH:k<xs.length:=by rw[HL.out];exact hlt
    have hcell:wr.cell? ⟨g,off+k,none⟩=some (ah ag xs[k]):=HC.out k _ (by simp[kH]);have hx:=KY xs[k] (cz kH);generalize xs[k]=x at *;clear KY
    go_wp2_with (go_at_call 167;refine(acF x hx _).mono ?_;rintro e w2 ⟨rfl,rfl⟩)
    go_roundw
    case rel=>exact⟨k+1,by omega,by simp⟩
    case measure=>(simp[intOf];try omega)
   ·obtain rfl:k=L:=by omega
    clear KY;go_wp2
    go_ret
    exact⟨rfl,rfl⟩
theorem Mp(xs:List Int)(KY : ∀x∈xs,0≤x∧x≤99)(v:ak)(w:ar)(hv:Reads w v xs.length (xs.map (aM ag))) :
  bp aq 166 #[v,.func (.func 167) #[] #[]] w fun e w'=>e=aG (aA false)∧w=w':=by
 have H:=ai (TU xs KY v w hv);clear KY hv
 go_enter Tryz.func166,Tryz.ntmps166
 go_wp2_with (go_at_call 170;refine H.out.mono ?_;rintro e w2 ⟨rfl,rfl⟩)
 go_ret
 exact⟨rfl,rfl⟩
def pH(lk:Int)(br:List Int):eV:=⟨lk,br.getD 0 0,br.getD 1 0,br.getD 2 0⟩
theorem KN(lk:Int) : ∀(br:List Int),br.length≤3→
  ((#[aM ag lk,ah ag 0,ah ag 0,ah ag 0]:Array ak).toList.take 1 ++ br.map (aM ag) ++ (#[aM ag lk,ah ag 0,ah ag 0,ah ag 0]:Array ak).toList.drop (1+(br.map (aM ag)).length)).toArray=(pH lk br).cells
 |[],_=>rfl
 |[_],_=>rfl
 |[_,_],_=>rfl
 |[_,_,_],_=>rfl
 |_ :: _ :: _ :: _ :: _,h=>by simp at h
theorem J9(b:BB)(men sent marks:ak)(ml:List Mn)(Vm:ml.length≤3)(lk:Int)(h0:0≤lk∧lk≤99)(br:List Int)(hbr : ∀x∈br,0≤x∧x≤99)(hl:br.length=ml.length)(g off cap:Nat)(w:ar)(hm:Reads w men ml.length (gu ml))
  (hg:g<w.heap.size) (J6:br.length≤cap) (hcc : ∀j u,(br.map (aM ag))[j]?=some u→w.cell? ⟨g,off+j,none⟩=some u) :
  bp aq 112 #[aQ (b.cells men sent marks),aQ #[ah ag lk,ae (some ⟨g,off,none⟩) br.length cap]] w fun e w'=>e=aG (.tuple #[aQ (pH lk br).cells,ah ag 0])∧aC w.heap.size w w':=by
 have hv:Reads w (ae (some ⟨g,off,none⟩) br.length cap) br.length (br.map (aM ag)):=.inr ⟨g,off,cap,rfl,⟨by omega,J6⟩,hg,hcc⟩;have hb3:aC w.heap.size w (((w.alloc (au (b.cells men sent marks) 119)).alloc (au #[ah ag lk,ae (some ⟨g,off,none⟩) br.length cap] 42)).alloc (au #[ah ag 0,ah ag 0,ah ag 0,ah ag 0] 134)):=(((aw _ w).alloc (ay _) _).alloc (by simp) _).alloc (by simp;omega) _;obtain⟨pm,cm,rfl,_⟩:=aV hm;have KU:=ai (Mp br hbr _ _ (hv.below hb3));have hb8:=((((aw _ w).alloc (ay _) (au (b.cells (ae pm ml.length cm) sent marks) 119)).alloc (by simp) (au #[ah ag lk,ae (some ⟨g,off,none⟩) br.length cap] 42)).alloc (by simp;omega) (au #[ah ag lk,ah ag 0,ah ag 0,ah ag 0] 134)).drew
 have hr8:((((w.alloc (au (b.cells (ae pm ml.length cm) sent marks) 119)).alloc (au #[ah ag lk,ae (some ⟨g,off,none⟩) br.length cap] 42)).alloc (au #[ah ag lk,ah ag 0,ah ag 0,ah ag 0] 134)).drew).heap[w.heap.size+1+1]?=some (au #[ah ag lk,ah ag 0,ah ag 0,ah ag 0] 134 (0,0)):=
  (oG w (b.cells (ae pm ml.length cm) sent marks) #[ah ag lk,ae (some ⟨g,off,none⟩) br.length cap] #[ah ag lk,ah ag 0,ah ag 0,ah ag 0] 119 42 134).2.2
 have xZ:=run_copy_row (P:=aq) _ 25 25 3 3 (w.heap.size+1+1) 1 3 3 ⟨g,off,none⟩ br.length cap _ 134 (br.map (aM ag)) iR (by kernel_rfl) hr8 (by rw[iH];exact(Nat.min_eq_left (by omega)).symm)
  (fun j u hj=>by
   have h1:=(hb8.cell (p:=⟨g,off+j,none⟩) hg).trans (hcc j u hj);have e:(⟨g,off,none⟩:Addr).add j=⟨g,off+j,none⟩:=by cases j<;>simp[l5]
   rw[e];exact h1) (by simp;try omega) (by intro u hu;simp at hu;obtain⟨x,_,rfl⟩:=hu;rfl)
 rw[KN lk br (by omega)] at xZ;have HR:mf ((((((w.alloc (au (b.cells (ae pm ml.length cm) sent marks) 119)).alloc (au #[ah ag lk,ae (some ⟨g,off,none⟩) br.length cap] 42)).alloc (au #[ah ag lk,ah ag 0,ah ag 0,ah ag 0] 134)).drew).setRow (w.heap.size+1+1) (pH lk br).cells).heap[w.heap.size+1+1]?=some (au (pH lk br).cells 134 (0,0))):=ai (cM hr8);have HB:=ai hb8;have hbl:(br.map (aM ag)).length=br.length:=iH _;rw[hbl] at xZ;clear hb3 hcc hv hm hr8 hb8 hbl hbr;rw[←hl] at *;generalize br.length=L at *;generalize pH lk br=A at *;have z1:IntKind.i64.wrap (L:Int)=L:=fT _ (by omega) (by omega)
 go_enter Tryz.func112,Tryz.ntmps112
 go_wp2_with (first
  |(go_at_call 138;refine(jk _ _ _ (by omega) (by omega) _).mono ?_;rintro e w' ⟨rfl,rfl⟩)
  |(go_at_call 166;refine KU.out.mono ?_;rintro e w' ⟨rfl,rfl⟩))
 go_region
 all_goals
  go_wp2_with (first
   |(refine ox rfl 134 _ rfl _ rfl 134 _ (0,0) _ HR.out Tryz.underlying134 rfl (by kernel_rfl) ?_)
   |(refine gT rfl 134 _ _ rfl _ _ rfl rfl 134 _ HR.out (by kernel_rfl) rfl (by simp[cy]) ?_))
  refine bw (results_cell_tmp (g:=w.heap.size+1+1) rfl rfl (run_loadVar_row _ _ 134 134 _ (0,0) _ (cM HR.out) Tryz.underlying134 rfl (by kernel_rfl))) rfl ⟨rfl,?_⟩;exact dJ (dJ HB.out (by omega)) (by omega)
theorem Sx{lk:Int}(h0:0≤lk∧lk≤99) : ∀ {br:List Int},br.length≤3→(∀x∈br,0≤x∧x≤99)→(pH lk br).Ok
 |[],_,_=>⟨⟨h0.1,by show lk≤400;omega⟩,by simp[pH],by simp[pH],by simp[pH]⟩
 |[a],_,h=>⟨⟨h0.1,by show lk≤400;omega⟩,h a (by simp),by simp[pH],by simp[pH]⟩
 |[a,c],_,h=>⟨⟨h0.1,by show lk≤400;omega⟩,h a (by simp),h c (by simp),by simp[pH]⟩
 |[a,c,d],_,h=>⟨⟨h0.1,by show lk≤400;omega⟩,h a (by simp),h c (by simp),h d (by simp)⟩
 |_ :: _ :: _ :: _ :: _,h,_=>by simp at h
theorem UN(b:BB)(men sent marks:ak)(ml:List Mn)(ss:List Int)(ms:List Mk)(w:ar)(hL:Laid w)(hB:cK b men sent marks ml ss ms w)(lk:Int)(h0:0≤lk∧lk≤99)(br:List Int)(hbr : ∀x∈br,0≤x∧x≤99)(hl:br.length=ml.length)
  (g off cap:Nat) (hg:g<w.heap.size) (J6:br.length≤cap) (hcc : ∀j u,(br.map (aM ag))[j]?=some u→w.cell? ⟨g,off+j,none⟩=some u) (pl:List Int) (hp:fp b pl) (lv:ak) (hlv:Reads w lv pl.length (pl.map (aM ag))) :
  bp aq 32 #[aQ (b.cells men sent marks),aQ #[ah ag lk,ae (some ⟨g,off,none⟩) br.length cap],lv] w fun e w'=>∃v,e=aG (.tuple #[v,ah ag 0])∧Reads w' v b.minutes.toNat ((b.m6 (b.cu+(pH lk br).used) (bK pl) b.minutes.toNat).map (aM ag))∧aC w.heap.size w w':=by
 have cZ:=hB.ok;have Ac:=cZ.minutes;have pw : ∀s∈pl,1≤s∧s≤8:=fun s h=>by have:=hp.mem s h;omega
 have OV:bK pl<512:=ni pl pw;have Vm:=hB.iw.len;have hao:=Sx h0 (by omega) hbr;obtain⟨pm,cm,rfl,_⟩:=aV hB.rm;obtain⟨pn,cn,rfl,_⟩:=aV hB.rs;obtain⟨pk,ck,rfl,_⟩:=aV hB.rk;obtain⟨qu,qC,rfl,_⟩:=aV hlv;have b0:aC w.heap.size w ((w.alloc (au (b.cells (ae pm ml.length cm) (ae pn ss.length cn) (ae pk ms.length ck)) 28)).alloc (au #[ah ag lk,ae (some ⟨g,off,none⟩) br.length cap] 42)):=((aw _ _).alloc (ay _) _).alloc (by simp) _;have HT:mf (Two w (b.cells (ae pm ml.length cm) (ae pn ss.length cn) (ae pk ms.length ck)) 28 #[ah ag lk,ae (some ⟨g,off,none⟩) br.length cap] 42 ((w.alloc (au (b.cells (ae pm ml.length cm) (ae pn ss.length cn) (ae pk ms.length ck)) 28)).alloc (au #[ah ag lk,ae (some ⟨g,off,none⟩) br.length cap] 42))):=ai ⟨(Two.mk' w _ _ _ _).one,(Two.mk' w _ _ _ _).two,b0,by simp⟩;have uz:=ai (fV b _ _ _ ml ss ms _ (hL.below b0) (hB.below b0))
 have HHd:mf (∀W,aC w.heap.size w W→bp aq 112 #[aQ (b.cells (ae pm ml.length cm) (ae pn ss.length cn) (ae pk ms.length ck)),aQ #[ah ag lk,ae (some ⟨g,off,none⟩) br.length cap]] W fun e w'=>e=aG (.tuple #[aQ (pH lk br).cells,ah ag 0])∧aC W.heap.size W w'):=ai fun W hb=>
  J9 b _ _ _ ml Vm lk h0 br hbr hl g off cap W (hB.below hb).rm (bE hg hb.size) J6 fun j u hj=>(hb.cell (p:=⟨g,off+j,none⟩) hg).trans (hcc j u hj)
 have VN:mf (∀W,aC w.heap.size w W→bp aq 113 #[aQ (b.cells (ae pm ml.length cm) (ae pn ss.length cn) (ae pk ms.length ck)),ae qu pl.length qC] W fun e w'=>e=aG (ah ag 0)∧aC W.heap.size W w'):=ai fun W hb=>tL b cZ _ _ _ _ pl hp W (hlv.below hb);have HLv:=ai hlv;have UT:=ai pw;clear hL hB hlv pw hcc b0 hbr hp;generalize hA:pH lk br=A at *;clear hA;generalize ml.length=lm at *;generalize ss.length=ln at *;generalize ms.length=lk2 at *;generalize br.length=lb at *;subst hl
 go_enter Tryz.func32,Tryz.ntmps32
 go_wp2_with (first
  |(go_at_call 71;refine uz.out.mono ?_;clear uz;rintro e w1 ⟨rfl,hb1⟩
    have rQ:=HT.out.next hb1;have o6:=ai rQ
    obtain⟨x0,x1,x2,x3,x4,x5,x6,x7,x8,x9,nG,nE,oh,nM,nQ⟩:=bQ rQ.one;have zt:=(aX w1 (au (b.cells (ae pm lb cm) (ae pn ln cn) (ae pk lk2 ck)) 119) (w.heap.size+1) (by have:=rQ.size;omega)).trans rQ.two;have z0:=aH zt 0 _ rfl;have z1:=aH zt 1 _ rfl;clear zt
    clear rQ hb1)
  |(go_at_call 112;refine(HHd.out _ (o6.out.below.alloc (by have:=o6.out.size;omega) _)).mono ?_;clear HHd;rintro e w2 ⟨rfl,hb2⟩
    have hk2:=(hb2.block w1.heap.size (by simp)).trans (ax w1 _);have FC:=ai hk2;have px:mf (aC w.heap.size w w2):=ai ((o6.out.below.alloc (by have:=o6.out.size;omega) _).trans (hb2.mono (by have:=o6.out.size;simp;omega)));obtain⟨y0,y1,y2,y3,y4,y5,y6,y7,y8,y9,K7,Ja,I9,MU,I8⟩:=bQ ((aX w2 (au A.cells 134) _ (aj.1 hk2).1).trans hk2);have hs2:=hb2.size;simp only[ey] at hs2
    clear hk2 hb2)
  |(go_at_call 113;refine(VN.out _ (px.out.alloc px.out.size _)).mono ?_;clear VN;rintro e w3 ⟨rfl,hb3⟩
    have YS:mf (w3.heap[w1.heap.size]?=some (au (b.cells (ae pm lb cm) (ae pn ln cn) (ae pk lk2 ck)) 119 (0,0))):=ai ((hb3.block _ (by simp;omega)).trans ((aX _ _ _ (by omega)).trans FC.out));have HA3:mf (w3.heap[w2.heap.size]?=some (au A.cells 134 (0,0))):=ai ((hb3.block _ (by simp)).trans (ax w2 _));have pI:mf (aC w.heap.size w w3):=ai ((px.out.alloc px.out.size _).trans (hb3.mono (by have:=px.out.size;simp;omega)))
    clear hb3))
 have hl3:=(aj.1 YS.out).1;have XB:=(aj.1 HA3.out).1
 refine cj (by kernel_rfl) [
 pV (aQ (b.cells (ae pm lb cm) (ae pn ln cn) (ae pk lk2 ck))),
  pV (aQ A.cells),
  pV (ae qu pl.length qC),
  pV (ah ag (bK pl)),
  fun v ds w9=>Reads w9 v b.minutes.toNat ((b.m6 (b.cu+A.used) (bK pl) b.minutes.toNat).map (aM ag)),
  fun v ds w9=>Reads w9 v b.minutes.toNat ((b.m6 (b.cu+A.used) (bK pl) b.minutes.toNat).map (aM ag)),
  pV (ah ag 0)]
  (fun w9=>aC w3.heap.size w3 w9) [(2,ae qu pl.length qC),(9,pv w1.heap.size 0),(10,pv w2.heap.size 0)] (by kernel_rfl) ?rst (fun w1 w2 h hb=>h.trans (hb.mono h.size)) ((aw _ _).drew) ⟨rfl,rfl,rfl,trivial⟩ ?reach ?rfin
 case rst=>
  refine⟨sV,sV,sV,sV,?_,?_,sV,trivial⟩
  ·rintro v ds w1 w2 hS h hb;exact h.below hb
  ·rintro v ds w1 w2 hS h hb;exact h.below hb
 case reach=>
  refine⟨?_,?_,?_,?_,?_,?_,?_,trivial⟩<;>rintro ev w1 hS hc hg hf ⟨b2,b9,Sw,-⟩ hd
  ·clear hd;obtain⟨u0,u1,u2,u3,u4,u5,u6,u7,u8,u9,u10,u11,u12,u13,u14⟩:=bQ ((hS.block _ hl3).trans YS.out);refine yv ?_ rfl;go_simp
  ·clear hd;obtain⟨u0,u1,u2,u3⟩:=qm ((hS.block _ XB).trans HA3.out);refine yv ?_ rfl;go_simp
  ·clear hd;refine yv ?_ rfl;go_simp
  ·have d2:ev (aB 37)=_:=hd.1 rfl;clear hd;refine yq (args:=#[ae qu pl.length qC]) (lL pl UT.out _ _ (HLv.out.below (pI.out.trans (hS.mono pI.out.size)))) ?_ fun _=>rfl;go_simp
  ·have d0:ev (aB 35)=_:=hd.1 rfl;have d1:ev (aB 36)=_:=hd.2.1 rfl;have d3:ev (aB 38)=_:=hd.2.2.1 rfl;clear hd;refine Lag.Yields.call (f:=114) (args:=#[aQ (b.cells (ae pm lb cm) (ae pn ln cn) (ae pk lk2 ck)),aQ A.cells,ah ag (bK pl)]) ?_ (Dt b cZ _ _ _ A hao (bK pl) OV _) ?_
   ·go_simp
   ·rintro e w2 ⟨v,rfl,h1,h2⟩;exact⟨_,rfl,Reads.jP h1 (by omega) (by simp[BB.m6]),.inl h2⟩
  ·exact yv rfl (hd.1 rfl)
  ·clear hd;refine yv ?_ rfl;go_simp
 case rfin=>
  intro a2 w4 hR;have hS:=hR.s;have e5:Reads w4 (a2.tmps.getD 6 af) b.minutes.toNat ((b.m6 (b.cu+A.used) (bK pl) b.minutes.toNat).map (aM ag)):=hR.val 5 (by decide);have e6:a2.tmps.getD 7 af=_:=hR.val 6 (by decide);have ha:=hR.lits 40 rfl;simp only[bf,bR,List.map] at ha;clear hR;have aaE:=ha;rw[e6] at ha;generalize a2.tmps.getD 6 af=pv6 at *;generalize a2.tmps.getD=zz at ha;have HE:=ai e5;have HF:=ai hS;clear e5 e6 hS aaE;subst ha;go_wp2;go_ret2;exact⟨_,rfl,HE.out,pI.out.trans (HF.out.mono pI.out.size)⟩
def si(a b:List Int):Bool:=decide (a.length<b.length)||(decide (a.length=b.length)&&decide (j9 a b<0))
theorem OG(xs ys:List Int)(v1 v2:ak)(w:ar)(h1:Reads w v1 xs.length (xs.map (aM ag)))(h2:Reads w v2 ys.length (ys.map (aM ag))) :
  bp aq 121 #[v1,v2] w fun e w'=>e=aG (aA (si xs ys))∧w=w':=by
 obtain⟨p1,c1,rfl,_⟩:=aV h1;obtain⟨p2,c2,rfl,_⟩:=aV h2;have hC:=rj xs ys _ _ w h1 h2;have hL:si xs ys=(decide (xs.length<ys.length)||(decide (xs.length=ys.length)&&decide (j9 xs ys<0))):=rfl;have yQ:=CQ xs ys;generalize j9 xs ys=c at *;generalize si xs ys=r at *;generalize xs.length=na at *;generalize ys.length=nb at *;have HL:=ai hL;clear hL h1 h2
 by_cases h1:na<nb
 ·have e1:decide (na<nb)=true:=by simp;omega
  have er:r=true:=by rw[HL.out,decide_eq_true h1];rfl
  subst er;have H1:=ai h1;clear h1 hC
  go_enter Tryz.func121,Tryz.ntmps121
  go_wp2
  go_ret
  exact⟨rfl,rfl⟩
 ·by_cases h2:na=nb
  ·subst h2;have er:r=decide (c<0):=by rw[HL.out];simp
   subst er;clear h1 HL;have e1:decide (na<na)=false:=by simp
   have e9:(na==na)=true:=by simp
   go_enter Tryz.func121,Tryz.ntmps121
   go_wp2_with fail
   refine hC.mono ?_;rintro e w7 ⟨rfl,rfl⟩;go_wp2
   go_ret
   exact⟨rfl,rfl⟩
  ·have e1:decide (na<nb)=false:=by simp;omega
   have e2:decide ((na:Int)=(nb:Int))=false:=by simp;omega
   have e3:((na:Int)==(nb:Int))=false:=by simp;omega
   have e4:(na==nb)=false:=by simp;omega
   have er:r=false:=by rw[HL.out,decide_eq_false h1,decide_eq_false h2];rfl
   subst er;clear h1 h2 HL hC
   go_enter Tryz.func121,Tryz.ntmps121
   go_wp2
   go_ret
   exact⟨rfl,rfl⟩
abbrev VL:=ak × List Int
def rN(w:ar)(r:VL):Prop:=Reads w r.1 r.2.length (r.2.map (aM ag))
theorem rN.below{w w':ar}{r:VL}(h:rN w r)(hb:aC w.heap.size w w'):rN w' r:=Reads.below h hb
def nP(first:VL)(more:List VL):VL:=more.foldl (fun b x=>if si x.2 b.2 then x else b) first
theorem MF(first:VL)(more:List VL)(k:Nat)(hk:k<more.length):nP first (more.take (k+1))=if si more[k].2 (nP first (more.take k)).2 then more[k] else nP first (more.take k):=by
 unfold nP;rw[cF hk,AW];rfl
theorem s5 : ∀(more:List VL) (first:VL),nP first more=first∨nP first more∈more
 |[],first=>.inl rfl
 |x :: more,first=>by
  show nP (if si x.2 first.2=true then x else first) more=first∨nP (if si x.2 first.2=true then x else first) more∈x :: more
  by_cases hl:si x.2 first.2=true
  ·rw[if_pos hl];rcases s5 more x with h|h
   ·rw[h];exact .inr (by simp)
   ·exact .inr (eG _ h)
  ·rw[if_neg hl];rcases s5 more first with h|h
   ·exact .inl h
   ·exact .inr (eG _ h)
theorem Pv(first:VL)(more:List VL)(v:ak)(w:ar)(hf:rN w first)(hm : ∀r∈more,rN w r)(hv:Reads w v more.length (more.map (·.1))) :
  bp aq 120 #[.func (.func 121) #[] #[],first.1,v] w fun e w'=>e=aG (nP first more).1∧aC w.heap.size w w':=by
 have HSl:mf (∀r∈first :: more,∃p n c,r.1=ae p n c):=ai fun r hr=>by
  have h1:rN w r:=by
   rcases List.mem_cons.1 hr with rfl|h
   ·exact hf
   ·exact hm r h
  obtain⟨p,c,h2,_⟩:=aV h1;exact⟨p,_,c,h2⟩
 obtain⟨pf,nf,cf,Vt⟩:=HSl.out first (by simp)
 rcases hv with⟨rfl,hn,_⟩|⟨g,off,cap,rfl,hn,hg,hc⟩
 ·obtain rfl:=aZ hn;clear hn;show bp aq 120 #[.func (.func 121) #[] #[],first.1,ae none 0 0] w fun e w'=>e=aG first.1∧aC w.heap.size w w'
  rw[Vt];clear Vt
  go_enter Tryz.func120,Tryz.ntmps120
  go_wp2
  go_loopw [1,11] (fun b i wr=>i=ah ag 0∧b=ae pf nf cf∧aC w.heap.size w wr) (fun _ _ _=>0)
  case atStart=>exact⟨rfl,rfl,aw _ _⟩
  case round=>
   obtain⟨rfl,rfl,eA⟩:=hrel;go_wp2
   go_ret
   exact⟨rfl,eA⟩
 ·have HC:=ai hc;have HM:=ai hm;have HF:=ai hf;clear hc hm hf;generalize hL:more.length=L at *;have HL:=ai hL;clear hL;have HFv:=ai Vt;rw[Vt];clear Vt
  go_enter Tryz.func120,Tryz.ntmps120
  go_wp2
  go_loopw [1,8,11] (fun b _ i wr=>∃k:Nat,k≤L∧i=ah ag k∧b=(nP first (more.take k)).1∧aC w.heap.size w wr) (fun _ _ i _=>L - (intOf i).toNat)
  case atStart=>exact⟨0,by omega,rfl,HFv.out.symm,aw _ _⟩
  case round=>
   obtain⟨k,hk,rfl,Tb,eA⟩:=hrel
   by_cases hlt:k<L
   ·have kH:k<more.length:=by rw[HL.out];exact hlt
    have hcell:wr.cell? ⟨g,off+k,none⟩=some more[k].1:=(eA.cell (p:=⟨g,off+k,none⟩) hg).trans (HC.out k _ (by simp[kH]));have hx:=HM.out more[k] (cz kH);have hst:=MF first more k kH
    have Xy:rN w (nP first (more.take k)):=by
     rcases s5 (more.take k) first with h|h
     ·rw[h];exact HF.out
     ·exact HM.out _ (fZ h)
    generalize more[k]=x at *;generalize nP first (more.take k)=bst at *
    obtain⟨p1,c1,e1,_⟩:=aV hx;obtain⟨p2,c2,e2,_⟩:=aV Xy;rw[e2] at Tb;subst Tb;have hB:=OG x.2 bst.2 x.1 bst.1 wr (hx.below eA) (Xy.below eA);rw[e1] at hcell;rw[e1,e2] at hB;have hsz:=eA.size;have E1:=ai e1;have E2:=ai e2;clear hx Xy e1 e2;cases hr:si x.2 bst.2
    all_goals
     rw[hr] at hst hB;have HR:=ai hr;have HST:=ai hst;clear hr hst
     go_wp2_with (go_at_call 121;refine hB.mono ?_;rintro e w2 ⟨rfl,rfl⟩)
     go_roundw
     case rel=>exact⟨k+1,by omega,by go_num,by rw[HST.out];first|exact E1.out.symm|exact E2.out.symm,eA⟩
     case measure=>simp[intOf];omega
   ·obtain rfl:k=L:=by omega
    have tR:more.take k=more:=dg (by rw[HL.out];exact ay _);rw[tR] at Tb;have HBv:=ai Tb
    obtain⟨p1,n1,c1,e1⟩:=HSl.out (nP first more) (by
     rcases s5 more first with h|h
     ·rw[h];simp
     ·exact eG _ h)
    rw[e1] at Tb;subst Tb;have E1:=ai e1;clear e1 tR;go_wp2
    go_ret
    exact⟨congrArg Ending.returned E1.out.symm,eA⟩
def eh(n mask:Nat):List Nat:=(bf n).filter fun i=>mask.testBit i
def zb(n mask:Nat):List Int:=(eh n mask).map fun(i:Nat)=>(i:Int)
theorem yu{W:ar}{b1 b2:Nat}{e1 e2:bg}{s1 s2:Nat}{v1 v2:ak}{n1 n2:Nat}{x1 x2:List ak}(h1:W.ownsRow b1 e1 s1 v1 n1 x1)(h2:W.ownsRow b2 e2 s2 v2 n2 x2)(he:e1≠e2){g:Nat}(hg:v1.ownBlock=some g):some g≠v2.ownBlock:=by
 intro h;rcases h1.2 with⟨rfl,_⟩|⟨g1,c1,q1,rfl,_,a1,_⟩
 ·cases hg
 ·rcases h2.2 with⟨rfl,_⟩|⟨g2,c2,q2,rfl,_,a2,_⟩
  ·cases h
  ·obtain rfl:g1=g:=bt hg;obtain rfl:g1=g2:=bt h;rw[a1] at a2;cases a2;exact he rfl
theorem mX{W:ar}{b1:Nat}{e1 t:bg}{s1:Nat}{v1:ak}{n1:Nat}{x1:List ak}{B:Nat}{cs:Array ak}(h1:W.ownsRow b1 e1 s1 v1 n1 x1)(hB:W.heap[B]?=some (au cs t (0,0)))(he:t≠e1):some B≠v1.ownBlock:=by
 intro h;rcases h1.2 with⟨rfl,_⟩|⟨g1,c1,q1,rfl,_,a1,_⟩
 ·cases h
 ·obtain rfl:B=g1:=bt h;rw[hB] at a1;cases a1;exact he rfl
theorem rh(n mask:Nat):eh (n+1) mask=eh n mask ++ if mask.testBit n then[n] else[]:=by
 unfold eh;rw[List.range_succ,List.filter_append];cases h:mask.testBit n<;>simp[h]
theorem qD(n mask:Nat):(eh n mask).length≤n:=by
 have:=List.length_filter_le (fun i=>mask.testBit i) (bf n);simpa [eh] using this
end Go.Proofs.YtffladgmkiimjaaGreatDoor
namespace Go.Lag
open Go Go.RowKit
theorem Yields.ED{P:Program}{o:cU}{ev:cB→ak}{w:ar}{R:ak→ar→Prop}(s x:cB)(t:bg)(ho:o.op=.call { callee:=.builtin .append,args:=#[s,x],argTypes:=#[t,t] })
  (base:Nat) (e:bg) (i:TypeInfo) (z:ak) (size rR:Nat) (ht:P.underlying t=some (.slice e)) (hi:P.info? e=some i) (hz:i.zero=some z) (hsize:i.size=size) (hby:i.bytes=rR) (hzs:z.cells.size=size) (hsz:0<size)
  (v:ak) (n:Nat) (xs:List ak) (hs:ev s=v) (hown:w.ownsRow base e size v n xs) (ad:Addr) (m c:Nat) (news:List ak) (hx:ev x=.slice (some ad) m c) (hl:news.length=m*size) (hnews : ∀j u,news[j]?=some u→w.cell? (ad.add j)=some u) (h1 : ∀u∈news,u.oneCell'=true)
  (h63:n+m≤kQ) (hbytes:(n+m)*rR≤140737488355328) (hbase:base≤w.heap.size)
  (h : ∀v' w',w'.ownsRow base e size v' (n+m) (xs ++ news)→w.grownBy w' v.ownBlock→(v'=.slice none 0 0↔v=.slice none 0 0∧m=0)→R v' w'):Lag.Yields P o ev w R:=by
 obtain⟨v',w',hr,h2,h3,h4⟩:=run_append_own (P:=P) w base t o.type e i z size rR ht hi hz hsize hby hzs hsz v n xs hown ad m c news hl hnews h1 h63 hbytes hbase;refine Lag.Yields.value (v:=v') (w':=w') ?_ (h v' w' h2 h3 h4);unfold execOp;simp only[ho,resolve,invoke,builtin,Sem.run_bind,Sem.run_pure,AU,List.map_toArray,di,fW,hs,hx,hr]
def Src(w:ar)(sv:ak)(m:Nat)(news:List ak):Prop:=
 (sv=.slice none 0 0∧m=0∧news=[])∨∃ad c,sv=.slice (some ad) m c∧∀j u,news[j]?=some u→w.cell? (ad.add j)=some u
section
variable{P:Program}{o:cU}{ev:cB→ak}{w:ar}{R:ak→ar→Prop}
theorem Dj(base:Nat)(t ty e:bg)(i:TypeInfo)(z:ak)(size rR:Nat)(ht:P.underlying t=some (.slice e))(hi:P.info? e=some i)(hz:i.zero=some z)
  (hsize:i.size=size) (hby:i.bytes=rR) (hzs:z.cells.size=size) (hsz:0<size)
  (v:ak) (n:Nat) (xs:List ak) (hown:w.ownsRow base e size v n xs) (sv:ak) (m:Nat) (news:List ak) (hl:news.length=m*size) (DR:Src w sv m news) (h1 : ∀u∈news,u.oneCell'=true)
  (h63:n+m≤kQ) (hbytes:(n+m)*rR≤140737488355328) (hbase:base≤w.heap.size) :
  ∃v' w',(kC #[t,t] ty #[v,sv]).run P w=.ok v' w'∧w'.ownsRow base e size v' (n+m) (xs ++ news)∧w.grownBy w' v.ownBlock:=by
 rcases DR with⟨rfl,rfl,rfl⟩|⟨ad,c,rfl,hnews⟩
 ·refine⟨v,w,run_append_owned_none w base t ty e i size ht hi v n xs hown,by simpa using hown,rfl,rfl,rfl,ay _,fun _ _ _=>rfl⟩
 ·obtain⟨v',w',h2,h3,h4,_⟩:=run_append_own (P:=P) w base t ty e i z size rR ht hi hz hsize hby hzs hsz v n xs hown ad m c news hl hnews h1 h63 hbytes hbase;exact⟨v',w',h2,h3,h4⟩
theorem IL{w':ar}{v':ak}(base:Nat)(t ty e:bg)(i:TypeInfo)(z:ak)(size rR:Nat)(ht:P.underlying t=some (.slice e))(hi:P.info? e=some i)(hz:i.zero=some z)(hsize:i.size=size)(hby:i.bytes=rR)
  (v:ak) (n:Nat) (xs:List ak) (hown:w.ownsRow base e size v n xs) (sv:ak) (m:Nat) (news:List ak) (hl:news.length=m*size) (DR:Src w sv m news) (h1 : ∀u∈news,u.oneCell'=true)
  (h63:n+m≤kQ) (hbytes:(n+m)*rR≤140737488355328) (hr:(kC #[t,t] ty #[v,sv]).run P w=.ok v' w') :
  ∀ {b2:Nat} {u:ak} {n2:Nat} {ys:List ak},n2≤n→w.ownsRow b2 e size u n2 ys→w'.ownsRow b2 e size u n2 ys:=by
 intro b2 u n2 ys xw hu;subst hsize;subst hby;have WO:n+m≤9223372036854775807:=by simp only[kQ] at h63;omega
 rcases DR with⟨rfl,rfl,rfl⟩|⟨ad,c,rfl,hnews⟩
 ·have h2:=run_append_owned_none w base t ty e i i.size ht hi v n xs hown;rw[h2] at hr;cases hr;exact hu
 have grow : ∀(o:Obj),(w.drew.alloc o).ownsRow b2 e i.size u n2 ys:=fun o=>by
  refine⟨hu.1,?_⟩;rcases hu.2 with h|⟨g,cap,cur,h2,h3,h4,h5⟩
  ·exact .inl h
  ·exact .inr ⟨g,cap,cur,h2,h3,(aX w.drew o g (aj.1 h4).1).trans h4,h5⟩
 rcases hown.2 with⟨rfl,rfl⟩|⟨g,cap,cur,rfl,hbg,hg,Fa,hcm,hcs,Rk⟩
 ·by_cases hm:m=0
  ·subst hm;have hn:news=[]:=aZ (by simpa using hl);subst hn
   have h2:(kC #[t,t] ty #[.slice none 0 0,.slice (some ad) 0 c]).run P w=.ok (.slice none 0 0) w:=by
    simp[kC,run_underlying ht,sizeOf,typeInfo,hi,Builtin.lenOf,Builtin.firstCells,loadCells,loadCellsFrom]
   rw[h2] at hr;cases hr;exact hu
  ·have h2:=run_append_nil (P:=P) w t ty e i z ht hi hz ad m c news hl hnews (by omega) (by omega) (by have hb:=hbytes;simp only[eo] at hb;omega);rw[h2] at hr;cases hr;exact grow _
 ·by_cases hroom:n+m≤cap
  ·have Rx:n*i.size+news.length≤cur.size:=by rw[hl,hcs,←Nat.add_mul];exact Nat.mul_le_mul_right _ hroom
   have h2:=run_append_room (P:=P) w t ty e i ht hi g n cap cur hg ad m c news hl hnews h1 hroom Rx;rw[h2] at hr;cases hr;refine⟨hu.1,?_⟩;rcases hu.2 with h|⟨g2,Ye,aeA,k2,h3,h4,h5,h6,h7,h8⟩
   ·exact .inl h
   ·refine .inr ?_
    by_cases DY:g2=g
    ·subst DY;rw[hg] at h4;cases h4;refine⟨g2,Ye,_,k2,h3,setRow_heap w g2 cur _ e _ hg,h5,h6,?_,?_⟩
     ·rw[←h7];simp only[jI,List.length_append,List.length_take,List.length_drop,Array.length_toList];omega
     ·rw[←h8];have hle:n2*i.size≤n*i.size:=Nat.mul_le_mul_right _ xw;simp only[List.append_assoc];rw[List.take_append_of_le_length (by rw[List.length_take,Array.length_toList];omega),List.take_take,Nat.min_eq_left hle]
    ·exact⟨g2,Ye,aeA,k2,h3,(setRow_other w g g2 _ DY).trans h4,h5,h6,h7,h8⟩
  ·have holds : ∀j u,xs[j]?=some u→w.cell? ((⟨g,0,none⟩:Addr).add j)=some u:=hown.cells (g:=g) rfl;have h2:=run_append_grow (P:=P) w t ty e i z ht hi hz ⟨g,0,none⟩ n cap xs hown.1 holds ad m c news hl hnews (by omega) (by omega) (growslice_fits (by omega) hbytes);rw[h2] at hr;cases hr;exact grow _
theorem Yields.MH(s x:cB)(t:bg)(ho:o.op=.call { callee:=.builtin .append,args:=#[s,x],argTypes:=#[t,t] })
  (base:Nat) (e:bg) (i:TypeInfo) (z:ak) (size rR:Nat) (ht:P.underlying t=some (.slice e)) (hi:P.info? e=some i) (hz:i.zero=some z) (hsize:i.size=size) (hby:i.bytes=rR) (hzs:z.cells.size=size) (hsz:0<size)
  (v:ak) (n:Nat) (xs:List ak) (hs:ev s=v) (hown:w.ownsRow base e size v n xs) (sv:ak) (m:Nat) (news:List ak) (hx:ev x=sv) (hl:news.length=m*size) (DR:Src w sv m news) (h1 : ∀u∈news,u.oneCell'=true)
  (h63:n+m≤kQ) (hbytes:(n+m)*rR≤140737488355328) (hbase:base≤w.heap.size)
  (h : ∀v' w',w'.ownsRow base e size v' (n+m) (xs ++ news)→w.grownBy w' v.ownBlock→(∀ {b2:Nat} {u:ak} {n2:Nat} {ys:List ak},n2≤n→w.ownsRow b2 e size u n2 ys→w'.ownsRow b2 e size u n2 ys)→R v' w'):Lag.Yields P o ev w R:=by
 obtain⟨v',w',hr,h2,h3⟩:=Dj (P:=P) (w:=w) base t o.type e i z size rR ht hi hz hsize hby hzs hsz v n xs hown sv m news hl DR h1 h63 hbytes hbase;refine Lag.Yields.value (v:=v') (w':=w') ?_ (h v' w' h2 h3 (IL base t o.type e i z size rR ht hi hz hsize hby v n xs hown sv m news hl DR h1 h63 hbytes hr));unfold execOp;simp only[ho,resolve,invoke,builtin,Sem.run_bind,Sem.run_pure,AU,List.map_toArray,di,fW,hs,hx,hr]
theorem zR(base:Nat)(t ty e:bg)(i:TypeInfo)(z:ak)(size rR:Nat)(ht:P.underlying t=some (.slice e))(hi:P.info? e=some i)(hz:i.zero=some z)
  (hsize:i.size=size) (hby:i.bytes=rR) (hzs:z.cells.size=size) (hsz:0<size) (q:Nat) (hq:w.heap[q]?=some (.cells #[] e (0,0))) (hbq:base≤q)
  (sv:ak) (m:Nat) (news:List ak) (hl:news.length=m*size) (DR:Src w sv m news) (h1 : ∀u∈news,u.oneCell'=true) (h63:m≤kQ) (hbytes:m*rR≤140737488355328) :
  ∃v' w',(kC #[t,t] ty #[.slice (some ⟨q,0,none⟩) 0 0,sv]).run P w=.ok v' w'∧w'.ownsRow base e size v' m news∧aC w.heap.size w w'∧(m=0→v'=.slice (some ⟨q,0,none⟩) 0 0):=by
 have hql:=(aj.1 hq).1;have hown:w.ownsRow base e size (.slice (some ⟨q,0,none⟩) 0 0) 0 []:=⟨by simp,.inr ⟨q,0,#[],rfl,hbq,hq,ay _,Nat.zero_le _,by simp,by simp⟩⟩
 by_cases hm:m=0
 ·subst hm;have hn:news=[]:=aZ (by simpa using hl);subst hn;rcases DR with⟨rfl,_,_⟩|⟨ad,c,rfl,hnews⟩
  ·exact⟨_,w,run_append_owned_none w base t ty e i size ht hi _ 0 [] hown,hown,aw _ _,fun _=>rfl⟩
  ·have hr:=run_append_room (P:=P) w t ty e i ht hi q 0 0 #[] hq ad 0 c [] (by simp) hnews h1 (by omega) (by simp)
   have hk : ∀k,(w.setRow q (((#[]:Array ak).toList.take (0*i.size) ++ [] ++ (#[]:Array ak).toList.drop (0*i.size+([]:List ak).length)).toArray)).heap[k]?=w.heap[k]?:=fun k=>by
    by_cases hkq:k=q
    ·subst hkq;rw[setRow_heap w k #[] _ e (0,0) hq,hq];simp
    ·exact setRow_other w q k _ hkq
   refine⟨_,_,hr,⟨by simp,.inr ⟨q,0,#[],rfl,hbq,(hk q).trans hq,ay _,Nat.zero_le _,by simp,by simp⟩⟩,⟨rfl,rfl,rfl,by simp,fun k _=>hk k⟩,fun _=>rfl⟩
 ·rcases DR with⟨_,h0,_⟩|⟨ad,c,rfl,hnews⟩
  ·exact absurd h0 hm
  ·subst hsize;subst hby;have hr:=run_append_grow (P:=P) w t ty e i z ht hi hz ⟨q,0,none⟩ 0 0 [] (by simp) (fun j u hj=>by simp at hj) ad m c news hl hnews (by omega) (by simp only[kQ] at h63;omega) (growslice_fits (by omega) (by simpa using hbytes));have hge:=grownCap_ge w (0+m) 0 e;have hcm:grownCap w (0+m) 0 e≤maxLen:=grownCap_le_maxLen w (0+m) 0 e (by omega);simp only[eo] at hr hge hcm;refine⟨_,_,hr,⟨by simpa using hl,.inr ⟨w.heap.size,grownCap w m 0 e,_,rfl,by omega,heap_alloc_new w.drew _,by omega,hcm,?_,?_⟩⟩,?_,fun h=>absurd h hm⟩
   ·simp only[Array.size_append,jI,size_zeroCells,hzs,hl,List.length_nil,eo];rw[←Nat.add_mul]
    congr 1
    omega
   ·simp only[Array.toList_append,List.nil_append];rw[show m*i.size=news.length from hl.symm];exact List.take_left
   ·exact(aw _ _).drew.alloc (ay _) _
theorem Yields.append_empty(s x:cB)(t:bg)(ho:o.op=.call { callee:=.builtin .append,args:=#[s,x],argTypes:=#[t,t] })
  (base:Nat) (e:bg) (i:TypeInfo) (z:ak) (size rR:Nat) (ht:P.underlying t=some (.slice e)) (hi:P.info? e=some i) (hz:i.zero=some z) (hsize:i.size=size) (hby:i.bytes=rR) (hzs:z.cells.size=size) (hsz:0<size)
  (q:Nat) (hs:ev s=.slice (some ⟨q,0,none⟩) 0 0) (hq:w.heap[q]?=some (.cells #[] e (0,0))) (hbq:base≤q) (sv:ak) (m:Nat) (news:List ak) (hx:ev x=sv) (hl:news.length=m*size) (DR:Src w sv m news) (h1 : ∀u∈news,u.oneCell'=true)
  (h63:m≤kQ) (hbytes:m*rR≤140737488355328) (h : ∀v' w',w'.ownsRow base e size v' m news→aC w.heap.size w w'→(m=0→v'=.slice (some ⟨q,0,none⟩) 0 0)→R v' w'):Lag.Yields P o ev w R:=by
 obtain⟨v',w',hr,h2,h3,h4⟩:=zR (P:=P) (w:=w) base t o.type e i z size rR ht hi hz hsize hby hzs hsz q hq hbq sv m news hl DR h1 h63 hbytes;refine Lag.Yields.value (v:=v') (w':=w') ?_ (h v' w' h2 h3 h4);unfold execOp;simp only[ho,resolve,invoke,builtin,Sem.run_bind,Sem.run_pure,AU,List.map_toArray,di,fW,hs,hx,hr]
end
end Go.Lag
