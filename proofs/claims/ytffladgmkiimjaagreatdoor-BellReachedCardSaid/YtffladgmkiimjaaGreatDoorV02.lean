/- LONE WALKS: comparisons of numbers, of lists, of plans; the best one.  .. -/
import Derived.Test.YtffladgmkiimjaaGreatDoorV01
set_option linter.all false
set_option maxHeartbeats 0
set_option maxRecDepth 1000000
open Go.Lag.Yields renaming value -> F5,skip -> yva
open Array renaming getElem?_eq_some_iff -> ah
open Go renaming bodyPost_ret -> a8,TypeId -> aZ,Calls -> a_,Value -> aj,World -> ak,undef -> ar,Operand -> bI,results_tmp -> bR,wp_cond_split -> cF,Addr -> cJ,run_loadVar_row -> eF,wpList_store_row -> gH,wpList_append_own -> iM,maxLen -> kW,info_parts -> mN,wpList_load_row -> oC,bytes -> sA
open Go.Addr renaming add -> mg
open Go.Builtin renaming append_ -> kz
open Go.Ending renaming returned -> aU,returned -> bw
open Go.IntKind renaming i64 -> af
open Go.Lib renaming hid -> ai
open Go.Obj renaming cells -> au
open Go.Operand renaming tmp -> aI
open Go.Proofs.Tryz renaming underlying26 -> Bz,prog -> aq,underlying28 -> bL,underlying122 -> fS,underlying25 -> gO
open Go.Result renaming andThen_ok -> jF
open Go.RowKit renaming Hid -> mQ
open Go.RowKit.Below renaming heap_alloc -> aW,refl -> ay,heap_setCell -> bp
open Go.Sem renaming run_bind -> qT
open Go.Value renaming bool -> aA,int -> aD,agg -> aN,slice -> ae,int -> ag,tuple -> bB,oneCell' -> bK,pointer -> dB,slice -> gK,ownBlock -> ji
open Go.World renaming alloc_heap_new -> ax,size_alloc -> dQ,ownsRow_nil -> eD,cell?_alloc_lt -> en
open List renaming foldl_append -> BA,range -> aQ,eq_nil_of_length_eq_zero -> aX,getElem_mem -> bG,mem_append -> bJ,mem_range -> bQ,take_succ_eq_append_getElem -> bV,mem_cons_of_mem -> bY,length_pos_iff -> cB,map_cons -> cP,take_of_length_le -> cU,drop_eq_getElem_cons -> dO,map_append -> eG,mem_of_mem_take -> fH,length_map -> fM,map_nil -> fW,getD_cons_zero -> f_,getD_cons_succ -> gb,size_toArray -> jG,mem_flatMap -> jq,mem_singleton -> kh,length_append -> mP,map -> nQ
open List.range renaming loop -> cg
open Nat renaming le_trans -> aG,le_refl -> aJ,lt_of_lt_of_le -> bD,reduceEqDiff -> bq,zero_add -> cO,zero_le -> iq
open Option.some renaming inj -> a7
open Or renaming inl -> cz
namespace Go.Proofs.YtffladgmkiimjaaGreatDoor
open Go.RowKit Go.Lag
def zW(x y:Int):Int:=if x<y then -1 else if y<x then 1 else 0
def Je(x:Int)(w:ak):a_ aq 179 #[ag af x] w fun e w'=>e=aU (aA false)/\w=w':=by
 go_enter Tryz.func179,Tryz.ntmps179
 go_wp2
 go_ret
 exact⟨rfl,rfl⟩
def wG(x y:Int)(w:ak):a_ aq 161 #[ag af x,ag af y] w fun e w'=>e=aU (ag af (zW x y))/\w=w':=by
 rcases Int.lt_trichotomy x y with h|h|h
 .have e:zW x y = -1:=by unfold zW;rw[if_pos h]
  rw[e];clear e
  go_enter Tryz.func161,Tryz.ntmps161
  go_wp2_with (go_at_call 179;refine(Je _ _).mono ?_;rintro e w' ⟨rfl,rfl⟩)
  go_ret
  exact⟨rfl,rfl⟩
 .subst h;have e:zW x x=0:=by unfold zW;simp
  rw[e];clear e
  go_enter Tryz.func161,Tryz.ntmps161
  go_wp2_with (go_at_call 179;refine(Je _ _).mono ?_;rintro e w' ⟨rfl,rfl⟩)
  go_ret
  exact⟨rfl,rfl⟩
 have e:zW x y=1:=by unfold zW;rw[if_neg oM,if_pos h]
 have h2:¬x<y:=oM;rw[e];clear e
 go_enter Tryz.func161,Tryz.ntmps161
 go_wp2_with (go_at_call 179;refine(Je _ _).mono ?_;rintro e w' ⟨rfl,rfl⟩)
 go_ret
 exact⟨rfl,rfl⟩
def j9:List Int->List Int->Int
 |[],[]=>0
 |[],_::_=>-1
 |_::_,[]=>1
 |x::xs,y::ys=>if zW x y≠0 then zW x y else j9 xs ys
def Dq:∀(xs ys:List Int),-1<=j9 xs ys/\j9 xs ys<=1
 |[],[]=>by simp[j9]
 |[],_::_=>by simp[j9]
 |_::_,[]=>by simp[j9]
 |x::xs,y::ys=>by
  have:=Dq xs ys;unfold j9
  by_cases h:zW x y≠0
  .rw[if_pos h];unfold zW
   by_cases h1:x<y
   .rw[if_pos h1];omega
   rw[if_neg h1]
   by_cases h2:y<x
   .rw[if_pos h2];omega
   rw[if_neg h2];omega
  rw[if_neg h];exact this
def RX(xs ys:List Int)(k:Nat)(hx:k<xs.length)(hy:k<ys.length):j9 (xs.drop k) (ys.drop k)=if zW xs[k] ys[k]≠0 then zW xs[k] ys[k] else j9 (xs.drop (k+1)) (ys.drop (k+1)):=by
 rw[dO hx,dO hy];rfl
def RV(xs ys:List Int)(k:Nat)(hx:k<xs.length)(hy:ys.length<=k):j9 (xs.drop k) (ys.drop k)=1:=by
 rw[dO hx,List.drop_eq_nil_of_le hy];rfl
def Fi(xs ys:List Int)(k:Nat)(hx:xs.length<=k)(hk:k<=ys.length):j9 (xs.drop k) (ys.drop k)=if k<ys.length then -1 else 0:=by
 rw[List.drop_eq_nil_of_le hx]
 by_cases h:k<ys.length
 .rw[dO h,if_pos h];rfl
 rw[List.drop_eq_nil_of_le oM,if_neg h];rfl
def Ot(w:ak):a_ aq 98 #[(ae none 0 0),(ae none 0 0)] w fun e w'=>e=aU (ag af (j9 [] []))/\w=w':=by
 go_enter Tryz.func98,Tryz.ntmps98
 go_wp2
 go_loop [11] (fun i=>i=ag af 0) (fun _=>0)
 case atStart=>exact rfl
 case round=>
  obtain rfl:=hrel;go_wp2
  go_ret
  exact⟨rfl,rfl⟩
def Oq(w:ak)(ys:List Int)(g2 o2 L2 c2:Nat)(hL2:ys.length=L2)(yN:L2<=4294967296)(hc2:∀j u,(ys.map (aD af))[j]?=some u->w.cell? ⟨g2,o2+j,none⟩=some u):a_ aq 98 #[(ae none 0 0),(ae (some ⟨g2,o2,none⟩) L2 c2)] w fun e w'=>e=aU (ag af (j9 [] ys))/\w=w':=by
 have Kg:=ai hL2;have HC2:=ai hc2;clear hL2 hc2
 go_enter Tryz.func98,Tryz.ntmps98
 go_wp2
 go_loop [11] (fun i=>i=ag af 0) (fun _=>0)
 case atStart=>exact rfl
 case round=>
  obtain rfl:=hrel
  by_cases h0:0<L2
  .have HE:mQ (j9 [] ys = -1):=by have:=Fi [] ys 0 sM oM;rw[Kg.out,if_pos h0] at this;exact ai (by simpa using this)
   go_wp2
   go_ret
   exact⟨ij HE.out.symm,rfl⟩
  have HE:mQ (j9 [] ys=0):=by have:=Fi [] ys 0 sM oM;rw[Kg.out,if_neg h0] at this;exact ai (by simpa using this)
  go_wp2
  go_ret
  exact⟨ij HE.out.symm,rfl⟩
def Oo(w:ak)(xs:List Int)(g1 o1 L1 c1:Nat)(hL1:xs.length=L1)(uB:L1<=4294967296)(hc1:∀j u,(xs.map (aD af))[j]?=some u->w.cell? ⟨g1,o1+j,none⟩=some u):a_ aq 98 #[(ae (some ⟨g1,o1,none⟩) L1 c1),(ae none 0 0)] w fun e w'=>e=aU (ag af (j9 xs []))/\w=w':=by
 have HL1:=ai hL1;have Qf:=ai hc1;clear hL1 hc1
 go_enter Tryz.func98,Tryz.ntmps98
 go_wp2
 go_loop [5,6,7,8,11] (fun _ _ _ _ i=>∃k:Nat,k<=L1/\i=ag af k/\j9 xs []=j9 (xs.drop k) []) (fun _ _ _ _ i=>L1-(intOf i).toNat)
 case atStart=>exact⟨0,oM,rfl,sM⟩
 case round=>
  obtain⟨k,pP,rfl,N4⟩:=hrel;have Qe:=ai N4;clear N4
  by_cases hlt:k<L1
  .have jT:k<xs.length:=by rw[HL1.out];exact hlt
   have aaA:w.cell? ⟨g1,o1+k,none⟩=some (ag af xs[k]):=Qf.out k _ (by simp[jT]);have HE:mQ (j9 xs []=1):=by have h1:=Qe.out;rw[dO jT] at h1;rw[h1];rfl
   generalize xs[k]=x at *
   go_wp2_with (go_at_call 161;refine(wG _ _ _).mono ?_;rintro e w' ⟨rfl,rfl⟩)
   go_ret
   exact⟨ij HE.out.symm,rfl⟩
  obtain rfl:k=L1:=oM;have HE:mQ (j9 xs []=0):=by rw[Qe.out,List.drop_eq_nil_of_le (by rw[HL1.out];exact aJ _)];rfl
  go_wp2_with (go_at_call 161;refine(wG _ _ _).mono ?_;rintro e w' ⟨rfl,rfl⟩)
  go_ret
  exact⟨ij HE.out.symm,rfl⟩
def Om(w:ak)(xs:List Int)(g1 o1 L1 c1:Nat)(hL1:xs.length=L1)(uB:L1<=4294967296)(hc1:∀j u,(xs.map (aD af))[j]?=some u->w.cell? ⟨g1,o1+j,none⟩=some u)(ys:List Int)(g2 o2 L2 c2:Nat)(hL2:ys.length=L2)(yN:L2<=4294967296)(hc2:∀j u,(ys.map (aD af))[j]?=some u->w.cell? ⟨g2,o2+j,none⟩=some u):a_ aq 98 #[(ae (some ⟨g1,o1,none⟩) L1 c1),(ae (some ⟨g2,o2,none⟩) L2 c2)] w fun e w'=>e=aU (ag af (j9 xs ys))/\w=w':=by
 have HL1:=ai hL1;have Qf:=ai hc1;clear hL1 hc1;have Kg:=ai hL2;have HC2:=ai hc2;clear hL2 hc2
 go_enter Tryz.func98,Tryz.ntmps98
 go_wp2
 go_loop [5,6,7,8,11] (fun _ _ _ _ i=>∃k:Nat,k<=L1/\k<=L2/\i=ag af k/\j9 xs ys=j9 (xs.drop k) (ys.drop k)) (fun _ _ _ _ i=>L1-(intOf i).toNat)
 case atStart=>exact⟨0,oM,oM,rfl,sM⟩
 case round=>
  obtain⟨k,pP,hk2,rfl,N4⟩:=hrel;have Qe:=ai N4;clear N4
  by_cases hlt:k<L1
  .have jT:k<xs.length:=by rw[HL1.out];exact hlt
   have aaA:w.cell? ⟨g1,o1+k,none⟩=some (ag af xs[k]):=Qf.out k _ (by simp[jT])
   by_cases hlt2:k<L2
   .have hky:k<ys.length:=by rw[Kg.out];exact hlt2
    have JB:w.cell? ⟨g2,o2+k,none⟩=some (ag af ys[k]):=HC2.out k _ (by simp[hky]);have hst:=RX xs ys k jT hky;generalize xs[k]=x at *;generalize ys[k]=y at *;have hC:=wG x y;obtain⟨c,hc⟩:∃c,zW x y=c:=⟨_,rfl⟩
    rw[hc] at hst hC;have HCC:=ai hc;clear hc
    by_cases hz:c=0
    .subst hz;rw[if_neg sM] at hst;have HST:=ai hst;clear hst
     go_wp2_with (go_at_call 161;refine(hC _).mono ?_;rintro e w' ⟨rfl,rfl⟩)
     go_round
     case rel=>exact⟨k+1,oM,oM,by go_num,Qe.out.trans HST.out⟩
     case measure=>simp[intOf];omega
    have hb:(c==0)=false:=by simpa using hz
    have hb2:(c !=0)=true:=by simpa using hz
    rw[if_pos hz] at hst;have HST:=ai hst;have HZ:=ai hz;clear hst hz
    go_wp2_with (go_at_call 161;refine(hC _).mono ?_;rintro e w' ⟨rfl,rfl⟩)
    go_ret
    exact⟨ij (Qe.out.trans HST.out).symm,rfl⟩
   have HE:mQ (j9 xs ys=1):=Qe.out.trans (RV xs ys k jT (by rw[Kg.out];omega));generalize xs[k]=x at *
   go_wp2_with (go_at_call 161;refine(wG _ _ _).mono ?_;rintro e w' ⟨rfl,rfl⟩)
   go_ret
   exact⟨ij HE.out.symm,rfl⟩
  obtain rfl:k=L1:=oM;have hend:=Fi xs ys k (by rw[HL1.out];exact aJ _) (by rw[Kg.out];exact hk2);rw[Kg.out] at hend
  by_cases h0:k<L2
  .rw[if_pos h0] at hend;have HE:mQ (j9 xs ys = -1):=Qe.out.trans hend;clear hend
   go_wp2_with (go_at_call 161;refine(wG _ _ _).mono ?_;rintro e w' ⟨rfl,rfl⟩)
   go_ret
   exact⟨ij HE.out.symm,rfl⟩
  rw[if_neg h0] at hend;have HE:mQ (j9 xs ys=0):=Qe.out.trans hend;clear hend
  go_wp2_with (go_at_call 161;refine(wG _ _ _).mono ?_;rintro e w' ⟨rfl,rfl⟩)
  go_ret
  exact⟨ij HE.out.symm,rfl⟩
def rJ(xs ys:List Int)(v1 v2:aj)(w:ak)(h1:Reads w v1 xs.length (xs.map (aD af)))(h2:Reads w v2 ys.length (ys.map (aD af))) :
  a_ aq 98 #[v1,v2] w fun e w'=>e=aU (ag af (j9 xs ys))/\w=w':=by
 rcases h1 with⟨rfl,hn,_⟩|⟨g1,o1,c1,rfl,uB,_,hc1⟩
 .obtain rfl:=aX hn;rcases h2 with⟨rfl,hn,_⟩|⟨g2,o2,c2,rfl,yN,_,hc2⟩
  .obtain rfl:=aX hn;exact Ot w
  exact Oq w ys g2 o2 _ c2 rfl yN.1 hc2
 rcases h2 with⟨rfl,hn,_⟩|⟨g2,o2,c2,rfl,yN,_,hc2⟩
 .obtain rfl:=aX hn;exact Oo w xs g1 o1 _ c1 rfl uB.1 hc1
 exact Om w xs g1 o1 _ c1 rfl uB.1 hc1 ys g2 o2 _ c2 rfl yN.1 hc2
def gY(p:Nat):List Int:=(upTo p 8).map fun(m:Nat)=>(m:Int)
def Q5(p:Nat):(gY p).length=(upTo p 8).length:=by simp[gY]
def sT(p:Nat)(hp:p<512)(w:ak):a_ aq 99 #[ag af p] w fun e w'=>∃v,e=aU v/\Reads w' v (gY p).length ((gY p).map (aD af))/\Bw w w':=by
 refine(Ld p hp w).mono ?_;rintro e w' ⟨v,rfl,hown,hb⟩;have hle:=vZ p 8;refine⟨v,rfl,?_,hb⟩;have:=Reads.jL hown oM sM;rw[Q5];simpa [gY,Function.comp_def] using this
def sW(a b:Nat):Bool:=decide ((upTo a 8).length<(upTo b 8).length)||(decide ((upTo a 8).length=(upTo b 8).length)&&decide (j9 (gY a) (gY b)<0))
def sU(a b:Nat):Bool:=decide ((upTo a 8).length<(upTo b 8).length)||(decide ((upTo a 8).length=(upTo b 8).length)&&decide (0<j9 (gY a) (gY b)))
def Q_(a b:Nat)(ha:a<512)(hb:b<512)(w:ak):a_ aq 96 #[ag af a,ag af b] w (Rt w (aA (sW a b))):=by
 have hA:=tq a ha;have hB:=tq b hb;have lA:=sT a ha;have lB:=sT b hb;have ag1:=vZ a 8;have ag0:=vZ b 8;have hL:sW a b=(decide ((upTo a 8).length<(upTo b 8).length)||(decide ((upTo a 8).length=(upTo b 8).length)&&decide (j9 (gY a) (gY b)<0))):=rfl;have zH:=Dq (gY a) (gY b);generalize (upTo a 8).length=na at *;generalize (upTo b 8).length=nb at *;obtain⟨c,hc⟩:∃c,j9 (gY a) (gY b)=c:=⟨_,rfl⟩
 rw[hc] at hL zH;have hC:=rJ (gY a) (gY b);rw[hc] at hC;generalize sW a b=r at *;have HL:=ai hL;clear hL hc
 have K:∀w,a_ aq 96 #[ag af a,ag af b] w (Rt w (aA (decide (na<nb)||(decide (na=nb)&&decide (c<0))))):=by
  clear HL;intro w
  by_cases h1:na<nb
  .have e1:decide (na<nb)=true:=sO;have er:(decide (na<nb)||(decide (na=nb)&&decide (c<0)))=true:=by rw[decide_eq_true h1];rfl
   rw[er];have H1:=ai h1;clear h1 er
   go_enter Tryz.func96,Tryz.ntmps96
   go_wp2_with fail
   refine(hA _).mono ?_;rintro e w1 ⟨rfl,hb1⟩
   go_wp2_with fail
   refine(hB _).mono ?_;rintro e w2 ⟨rfl,hb2⟩;go_wp2
   go_ret
   exact⟨rfl,hb1.trans (hb2.mono hb1.size)⟩
  have e1:decide (na<nb)=false:=sO
  by_cases h2:na=nb
  .subst h2;have er:(decide (na<na)||(decide (na=na)&&decide (c<0)))=decide (c<0):=sM;rw[er];clear h1 er e1;have e1:decide (na<na)=false:=sM;have e9:(na==na)=true:=sM
   go_enter Tryz.func96,Tryz.ntmps96
   go_wp2_with fail
   refine(hA _).mono ?_;rintro e w1 ⟨rfl,hb1⟩
   go_wp2_with fail
   refine(hB _).mono ?_;rintro e w2 ⟨rfl,hb2⟩
   go_wp2_with fail
   refine(hA _).mono ?_;rintro e w3 ⟨rfl,hb3⟩
   go_wp2_with fail
   refine(hB _).mono ?_;rintro e w4 ⟨rfl,hb4⟩
   go_wp2_with fail
   refine(lA _).mono ?_;rintro e w5 ⟨v5,rfl,hr5,hb5⟩
   go_wp2_with fail
   refine(lB _).mono ?_;rintro e w6 ⟨v6,rfl,hr6,hb6⟩;have Uf:=hr5.below hb6
   go_wp2_with fail
   refine(hC v5 v6 _ Uf hr6).mono ?_;rintro e w7 ⟨rfl,rfl⟩;clear hr5 Uf hr6;go_wp2
   go_ret
   exact⟨rfl,hb1.trans ((hb2.trans ((hb3.trans ((hb4.trans ((hb5.trans (hb6.mono hb5.size)).mono hb4.size)).mono hb3.size)).mono hb2.size)).mono hb1.size)⟩
  have e2:decide ((na:Int)=(nb:Int))=false:=sO;have e3:((na:Int)==(nb:Int))=false:=sO;have e4:(na==nb)=false:=sO;have er:(decide (na<nb)||(decide (na=nb)&&decide (c<0)))=false:=by rw[decide_eq_false h1,decide_eq_false h2];rfl
  rw[er];have H1:=ai h1;have H2:=ai h2;clear h1 h2 er
  go_enter Tryz.func96,Tryz.ntmps96
  go_wp2_with fail
  refine(hA _).mono ?_;rintro e w1 ⟨rfl,hb1⟩
  go_wp2_with fail
  refine(hB _).mono ?_;rintro e w2 ⟨rfl,hb2⟩
  go_wp2_with fail
  refine(hA _).mono ?_;rintro e w3 ⟨rfl,hb3⟩
  go_wp2_with fail
  refine(hB _).mono ?_;rintro e w4 ⟨rfl,hb4⟩;go_wp2
  go_ret
  exact⟨rfl,hb1.trans ((hb2.trans ((hb3.trans (hb4.mono hb3.size)).mono hb2.size)).mono hb1.size)⟩
 rw[HL.out];exact K w
def Q9(a b:Nat)(ha:a<512)(hb:b<512)(w:ak):a_ aq 102 #[ag af a,ag af b] w (Rt w (aA (sU a b))):=by
 have hA:=tq a ha;have hB:=tq b hb;have lA:=sT a ha;have lB:=sT b hb;have ag1:=vZ a 8;have ag0:=vZ b 8;have hL:sU a b=(decide ((upTo a 8).length<(upTo b 8).length)||(decide ((upTo a 8).length=(upTo b 8).length)&&decide (0<j9 (gY a) (gY b)))):=rfl;have zH:=Dq (gY a) (gY b);generalize (upTo a 8).length=na at *;generalize (upTo b 8).length=nb at *;obtain⟨c,hc⟩:∃c,j9 (gY a) (gY b)=c:=⟨_,rfl⟩
 rw[hc] at hL zH;have hC:=rJ (gY a) (gY b);rw[hc] at hC;generalize sU a b=r at *;have HL:=ai hL;clear hL hc
 have K:∀w,a_ aq 102 #[ag af a,ag af b] w (Rt w (aA (decide (na<nb)||(decide (na=nb)&&decide (0<c))))):=by
  clear HL;intro w
  by_cases h1:na<nb
  .have e1:decide (na<nb)=true:=sO;have er:(decide (na<nb)||(decide (na=nb)&&decide (0<c)))=true:=by rw[decide_eq_true h1];rfl
   rw[er];have H1:=ai h1;clear h1 er
   go_enter Tryz.func102,Tryz.ntmps102
   go_wp2_with fail
   refine(hA _).mono ?_;rintro e w1 ⟨rfl,hb1⟩
   go_wp2_with fail
   refine(hB _).mono ?_;rintro e w2 ⟨rfl,hb2⟩;go_wp2
   go_ret
   exact⟨rfl,hb1.trans (hb2.mono hb1.size)⟩
  have e1:decide (na<nb)=false:=sO
  by_cases h2:na=nb
  .subst h2;have er:(decide (na<na)||(decide (na=na)&&decide (0<c)))=decide (0<c):=sM;rw[er];clear h1 er e1;have e1:decide (na<na)=false:=sM;have e9:(na==na)=true:=sM
   go_enter Tryz.func102,Tryz.ntmps102
   go_wp2_with fail
   refine(hA _).mono ?_;rintro e w1 ⟨rfl,hb1⟩
   go_wp2_with fail
   refine(hB _).mono ?_;rintro e w2 ⟨rfl,hb2⟩
   go_wp2_with fail
   refine(hA _).mono ?_;rintro e w3 ⟨rfl,hb3⟩
   go_wp2_with fail
   refine(hB _).mono ?_;rintro e w4 ⟨rfl,hb4⟩
   go_wp2_with fail
   refine(lA _).mono ?_;rintro e w5 ⟨v5,rfl,hr5,hb5⟩
   go_wp2_with fail
   refine(lB _).mono ?_;rintro e w6 ⟨v6,rfl,hr6,hb6⟩;have Uf:=hr5.below hb6
   go_wp2_with fail
   refine(hC v5 v6 _ Uf hr6).mono ?_;rintro e w7 ⟨rfl,rfl⟩;clear hr5 Uf hr6;go_wp2
   go_ret
   exact⟨rfl,hb1.trans ((hb2.trans ((hb3.trans ((hb4.trans ((hb5.trans (hb6.mono hb5.size)).mono hb4.size)).mono hb3.size)).mono hb2.size)).mono hb1.size)⟩
  have e2:decide ((na:Int)=(nb:Int))=false:=sO;have e3:((na:Int)==(nb:Int))=false:=sO;have e4:(na==nb)=false:=sO;have er:(decide (na<nb)||(decide (na=nb)&&decide (0<c)))=false:=by rw[decide_eq_false h1,decide_eq_false h2];rfl
  rw[er];have H1:=ai h1;have H2:=ai h2;clear h1 h2 er
  go_enter Tryz.func102,Tryz.ntmps102
  go_wp2_with fail
  refine(hA _).mono ?_;rintro e w1 ⟨rfl,hb1⟩
  go_wp2_with fail
  refine(hB _).mono ?_;rintro e w2 ⟨rfl,hb2⟩
  go_wp2_with fail
  refine(hA _).mono ?_;rintro e w3 ⟨rfl,hb3⟩
  go_wp2_with fail
  refine(hB _).mono ?_;rintro e w4 ⟨rfl,hb4⟩;go_wp2
  go_ret
  exact⟨rfl,hb1.trans ((hb2.trans ((hb3.trans (hb4.mono hb3.size)).mono hb2.size)).mono hb1.size)⟩
 rw[HL.out];exact K w
def jJ(lt:Nat->Nat->Bool)(first:Nat)(more:List Nat):Nat:=more.foldl (fun b x=>if lt x b then x else b) first
def FD(lt:Nat->Nat->Bool)(first:Nat)(more:List Nat)(k:Nat)(hk:k<more.length):jJ lt first (more.take (k+1))=if lt more[k] (jJ lt first (more.take k)) then more[k] else jJ lt first (more.take k):=by
 unfold jJ;rw[bV hk,BA];rfl
def Ai(lt:Nat->Nat->Bool):∀(more:List Nat) (first:Nat),first<512->(∀x∈more,x<512)->jJ lt first more<512
 |[],first,h,_=>h
 |x::more,first,h,hx=>by
  refine Ai lt more _ ?_ (fun y hy=>hx y (by simp[hy]));show(if lt x first=true then x else first)<512
  by_cases hl:lt x first=true
  .rw[if_pos hl];exact hx x sM
  rw[if_neg hl];exact h
def Sb(first:Nat)(hf:first<512)(more:List Nat)(hm:∀x∈more,x<512)(v:aj)(w:ak)(hv:Reads w v more.length (more.map fun(p:Nat)=>aD af (p:Int))) :
  a_ aq 160 #[.func (.func 96) #[] #[],ag af first,v] w (Rt w (ag af (jJ sW first more:Nat))):=by
 rcases hv with⟨rfl,hn,_⟩|⟨g,off,cap,rfl,hn,hg,hc⟩
 .obtain rfl:=aX hn;clear hn
  go_enter Tryz.func160,Tryz.ntmps160
  go_wp2
  go_loopw [1,11] (fun b i wr=>i=ag af 0/\b=ag af first/\Bw w wr) (fun _ _ _=>0)
  case atStart=>exact⟨rfl,rfl,ay _ _⟩
  case round=>
   obtain⟨rfl,rfl,eb⟩:=hrel;go_wp2
   go_ret
   exact⟨rfl,eb⟩
 have HC:=ai hc;have HM:=ai hm;clear hc hm;generalize hL:more.length=L at *;have HL:=ai hL;clear hL
 go_enter Tryz.func160,Tryz.ntmps160
 go_wp2
 go_loopw [1,8,11] (fun b _ i wr=>∃k:Nat,k<=L/\i=ag af k/\b=ag af (jJ sW first (more.take k):Nat)/\Bw w wr) (fun _ _ i _=>L-(intOf i).toNat)
 case atStart=>exact⟨0,oM,rfl,rfl,ay _ _⟩
 case round=>
  obtain⟨k,hk,rfl,rfl,eb⟩:=hrel;have hbl:=Ai sW (more.take k) first hf (fun x hx=>HM.out x (fH hx))
  by_cases hlt:k<L
  .have jT:k<more.length:=by rw[HL.out];exact hlt
   have hcell:wr.cell? ⟨g,off+k,none⟩=some (ag af (more[k]:Nat)):=(eb.cell (p:=⟨g,off+k,none⟩) hg).trans (HC.out k _ (by simp[jT]));have hx:=HM.out more[k] (bG jT);have hst:=FD sW first more k jT
   generalize more[k]=x at *;generalize jJ sW first (more.take k)=bst at *
   have hB:=Q_ x bst hx hbl;have hsz:=eb.size;cases hr:sW x bst
   all_goals
    rw[hr] at hst hB;have HR:=ai hr;have HST:=ai hst;clear hr hst
    go_wp2_with (go_at_call 96;refine(hB _).mono ?_;rintro e w2 ⟨rfl,hb2⟩)
    go_roundw
    case rel=>exact⟨k+1,oM,by go_num,by rw[HST.out];rfl,eb.trans (hb2.mono hsz)⟩
    case measure=>simp[intOf];omega
  obtain rfl:k=L:=oM;have su:more.take k=more:=cU (by rw[HL.out];exact aJ _);rw[su];clear su;go_wp2
  go_ret
  exact⟨rfl,eb⟩
def R_(first:Nat)(hf:first<512)(more:List Nat)(hm:∀x∈more,x<512)(v:aj)(w:ak)(hv:Reads w v more.length (more.map fun(p:Nat)=>aD af (p:Int))) :
  a_ aq 160 #[.func (.func 102) #[] #[],ag af first,v] w (Rt w (ag af (jJ sU first more:Nat))):=by
 rcases hv with⟨rfl,hn,_⟩|⟨g,off,cap,rfl,hn,hg,hc⟩
 .obtain rfl:=aX hn;clear hn
  go_enter Tryz.func160,Tryz.ntmps160
  go_wp2
  go_loopw [1,11] (fun b i wr=>i=ag af 0/\b=ag af first/\Bw w wr) (fun _ _ _=>0)
  case atStart=>exact⟨rfl,rfl,ay _ _⟩
  case round=>
   obtain⟨rfl,rfl,eb⟩:=hrel;go_wp2
   go_ret
   exact⟨rfl,eb⟩
 have HC:=ai hc;have HM:=ai hm;clear hc hm;generalize hL:more.length=L at *;have HL:=ai hL;clear hL
 go_enter Tryz.func160,Tryz.ntmps160
 go_wp2
 go_loopw [1,8,11] (fun b _ i wr=>∃k:Nat,k<=L/\i=ag af k/\b=ag af (jJ sU first (more.take k):Nat)/\Bw w wr) (fun _ _ i _=>L-(intOf i).toNat)
 case atStart=>exact⟨0,oM,rfl,rfl,ay _ _⟩
 case round=>
  obtain⟨k,hk,rfl,rfl,eb⟩:=hrel;have hbl:=Ai sU (more.take k) first hf (fun x hx=>HM.out x (fH hx))
  by_cases hlt:k<L
  .have jT:k<more.length:=by rw[HL.out];exact hlt
   have hcell:wr.cell? ⟨g,off+k,none⟩=some (ag af (more[k]:Nat)):=(eb.cell (p:=⟨g,off+k,none⟩) hg).trans (HC.out k _ (by simp[jT]));have hx:=HM.out more[k] (bG jT);have hst:=FD sU first more k jT
   generalize more[k]=x at *;generalize jJ sU first (more.take k)=bst at *
   have hB:=Q9 x bst hx hbl;have hsz:=eb.size;cases hr:sU x bst
   all_goals
    rw[hr] at hst hB;have HR:=ai hr;have HST:=ai hst;clear hr hst
    go_wp2_with (go_at_call 102;refine(hB _).mono ?_;rintro e w2 ⟨rfl,hb2⟩)
    go_roundw
    case rel=>exact⟨k+1,oM,by go_num,by rw[HST.out];rfl,eb.trans (hb2.mono hsz)⟩
    case measure=>simp[intOf];omega
  obtain rfl:k=L:=oM;have su:more.take k=more:=cU (by rw[HL.out];exact aJ _);rw[su];clear su;go_wp2
  go_ret
  exact⟨rfl,eb⟩
def WI(b:BB)(bm aH az:aj)(ml:List Mn)(ss:List Int)(ms:List Mk)(w:ak)(hL:Laid w)(hB:bW b bm aH az ml ss ms w)(hne:aT b ml ss ms≠[])(cp:Nat)
  (hown:∀W,Bw w W->a_ aq 126 #[aN (b.cells bm aH az),pv cp 0] W fun e W'=>e=aU (ag af 0)/\Bw W W') :
  a_ aq 103 #[aN (b.cells bm aH az),.func (.func 126) #[] #[pv cp 0]] w fun e w'=>∃v,e=aU (bB #[aN (b.open bm aH az v),ag af 0])/\ie w' w.heap.size v (aT b ml ss ms)/\Bw w w':=by
 have ql:mQ (∀W,Bw w W->a_ aq 71 #[aN (b.cells bm aH az)] W fun e w'=>e=aU (ag af 0)/\Bw W w'):=ai fun W hb=>dI b bm aH az ml ss ms W (hL.below hb) (hB.below hb);have MO:mQ (∀W,Bw w W->a_ aq 116 #[.func (.func 117) #[aN (b.cells bm aH az)] #[]] W fun e w'=>∃v,e=aU v/\ie w' W.heap.size v (aT b ml ss ms)/\Bw W w'):=ai fun W hb=>lQ b bm aH az ml ss ms W (hB.below hb);have MK:=ai hown;obtain⟨pm,cm,rfl,_⟩:=aR hB.rm;obtain⟨pn,cn,rfl,_⟩:=aR hB.rs;obtain⟨pk,ck,rfl,_⟩:=aR hB.rk;have jS:0<(aT b ml ss ms).length:=cB.2 hne;clear hL hB hne hown;generalize aT b ml ss ms=all at *;generalize ml.length=lm at *;generalize ss.length=ln at *;generalize ms.length=lk at *;have b0:Bw w ((w.alloc (au (b.sl pm lm cm pn ln cn pk lk ck) 28)).alloc (au eO 122)):=cY.alloc sM _;have HT:mQ (Two w (b.sl pm lm cm pn ln cn pk lk ck) 28 eO 122 ((w.alloc (au (b.sl pm lm cm pn ln cn pk lk ck) 28)).alloc (au eO 122))):=ai ⟨(Two.mk' w _ _ _ _).one,(Two.mk' w _ _ _ _).two,b0,sM⟩;have Iq:=ai b0;clear b0
 go_enter Tryz.func103,Tryz.ntmps103
 go_wp2_with (first
  |(refine oC rfl 122 _ rfl _ rfl 122 _ (0,0) _ HL7.out fS rfl kQ ?_)
  |(refine gH rfl 122 _ _ rfl _ _ rfl rfl 122 _ OV.out kQ rfl (by simp[bK]) ?_)
  |(go_at_call 71;refine(ql.out _ Iq.out).mono ?_;clear ql;rintro e w1 ⟨rfl,hb1⟩
    have sw:=HT.out.next hb1;have o7:=ai sw
    obtain⟨x0,x1,x2,x3,x4,x5,x6,x7,x8,x9,qo,qm,rj,qX,q7⟩:=bU sw.one
    clear sw hb1)
  |(go_at_call 126;refine(MK.out _ (o7.out.below.alloc (by have:=o7.out.size;omega) _)).mono ?_;clear MK;rintro e w2 ⟨rfl,hb2⟩
    have CS:=(o7.out.next ((ay _ _).alloc (aJ _) (au (b.open (ae pm lm cm) (ae pn ln cn) (ae pk lk ck) (ae none 0 0)) 122))).next hb2;have GM:=ai CS
    have hk2:=(hb2.block w1.heap.size sM).trans (ax w1 _);have GQ:=ai hk2;have hs1:=o7.out.size;have hs2:=hb2.size;obtain⟨y0,y1,y2,y3,y4,y5,y6,y7,y8,y9,M7,O3,OZ,OY,Ki,Iw⟩:=jy hk2
    clear CS hk2 hb2)
  |(go_at_call 116;refine(MO.out _ GM.out.below).mono ?_;clear MO;rintro e w3 ⟨v,rfl,iH,hb3⟩
    have FX:=GM.out.next hb3;have Qd:=ai FX;have ML:=ai iH
    simp only[dQ] at hs2;have hk3:=(hb3.block w1.heap.size oM).trans GQ.out;have HK3:=ai hk3;have hs3:=hb3.size;clear y0 y1 y2 y3 y4 y5 y6 y7 y8 y9 M7 O3 OZ OY Ki Iw;have Iw:=aK hk3 15 _ rfl;have f7:=cQ hk3 15;have o8:=ai hb3
    obtain⟨gv,oV,rfl,EJ⟩:∃gv oV,v=ae (some ⟨gv,0,none⟩) all.length oV/\w2.heap.size<=gv:=by
     rcases iH.1.2 with⟨_,h0⟩|⟨g,cap,cur,rfl,hg,_⟩
     .omega
     exact⟨g,cap,rfl,hg⟩
    have HL7:mQ ((w3.setCell ⟨w1.heap.size,15,none⟩ (ae (some ⟨gv,0,none⟩) all.length oV)).heap[w1.heap.size]?=some (au (b.open (ae pm lm cm) (ae pn ln cn) (ae pk lk ck) (ae (some ⟨gv,0,none⟩) all.length oV)) 122 (0,0))):=ai (cX _ hk3);have OV:mQ ((w3.setCell ⟨w1.heap.size,15,none⟩ (ae (some ⟨gv,0,none⟩) all.length oV)).heap[w.heap.size+1]?=some (au eO 122 (0,0))):=ai ((bp _ _ _ _ (by show w.heap.size+1≠w1.heap.size;omega)).trans FX.two)
    clear FX hk3 hb3 iH))
 refine a8 (results_cell_tmp (g:=w.heap.size+1) rfl rfl (eF _ _ 122 122 _ (0,0) _ (bX OV.out) fS rfl kQ)) rfl ⟨_,rfl,?_,?_⟩
 .have hs1:=o7.out.size;refine(ML.out.at_ fun g hg=>?_).base oM;have EM:g=gv:=by simpa [ji] using hg.symm
  subst EM;exact(setRow_other oM).trans (bp _ _ _ _ (by show g≠w1.heap.size;omega))
 have hs1:=o7.out.size;exact cS (Qd.out.below.setCell (p:=⟨w1.heap.size,15,none⟩) (by show _<=w1.heap.size;omega) _) oM
def Jp:(Tryz.prog.info? 81).map (fun i=>(i.zero,i.size,i.bytes))=some (some (aN #[ag af 0,ag af 0,ag af 0]),3,24):=kQ
def ZV:(Tryz.prog.info? 79).map (fun i=>(i.zero,i.size,i.bytes))=some (some (aN #[.string ⟨#[]⟩,ag af 0,ag af 0]),3,32):=kQ
def Ov(v:aj)(n:Nat)(xs:List aj)(hl:xs.length=n*3)(h1:∀u∈xs,u.oneCell'=true)(hn:n<=1000)(w:ak)(hv:Reads w v n xs) :
  a_ aq 149 #[v] w fun e w'=>∃v',e=aU v'/\w'.ownsRow w.heap.size 81 3 v' n xs/\Bw w w':=by
 obtain⟨i0,hi,hz0,hz1,hz2⟩:=mN Jp;rcases hv with⟨rfl,rfl,rfl⟩|⟨g,off,cap,rfl,LG,hg,hc⟩
 .have hq:∀w,(binOp BinOp.eql 26 (gK none 0 0) (gK none 0 0)).run aq w=.ok (aA true) w:=fun w=>by kernel_rfl
  go_enter Tryz.func149,Tryz.ntmps149
  go_wp2
  go_ret
  exact⟨_,rfl,eD _ _ _ _,ay _ _⟩
 have Qf:mQ (∀j u,xs[j]?=some u->(w.alloc (au #[] 81)).cell? ((⟨g,off,none⟩:cJ).add j)=some u):=ai fun j u hj=>by
  have e:(⟨g,off,none⟩:cJ).add j=⟨g,off+j,none⟩:=by cases j<;>simp[mg]
  rw[e];exact(en _ _ _ hg).trans (hc j u hj)
 have HO:=ai h1;have HL:=ai hl;clear hc h1 hl;have hq:∀w,(binOp BinOp.eql 26 (gK (some ⟨g,off,none⟩) n cap) (gK none 0 0)).run aq w=.ok (aA false) w:=fun w=>by kernel_rfl
 go_enter Tryz.func149,Tryz.ntmps149
 go_wp2_with (at_builtin;refine iM _ rfl _ _ 26 rfl w.heap.size 81 i0 (aN #[ag af 0,ag af 0,ag af 0]) 3 24 Bz hi hz0 hz1 hz2 rfl dC _ _ _ rfl (World.ownsRow_made w #[] 0 (aJ _) (by unfold kW;omega) rfl) ⟨g,off,none⟩ n cap xs rfl HL.out Qf.out HO.out (by unfold kW;omega) oM sM ?_;intro v' w1 hown hgrow hnil)
 go_ret
 refine⟨_,rfl,by simpa using hown,?_⟩;exact((ay _ _).alloc (aJ _) (au #[] 81)).grown hgrow sM fun j hj=>by have h2:w.heap.size=j:=a7 hj;omega
def Mg(v:aj)(n:Nat)(xs:List aj)(hl:xs.length=n*3)(h1:∀u∈xs,u.oneCell'=true)(hn:n<=1000)(w:ak)(hv:Reads w v n xs) :
  a_ aq 154 #[v] w fun e w'=>∃v',e=aU v'/\w'.ownsRow w.heap.size 79 3 v' n xs/\Bw w w':=by
 obtain⟨i0,hi,hz0,hz1,hz2⟩:=mN ZV;rcases hv with⟨rfl,rfl,rfl⟩|⟨g,off,cap,rfl,LG,hg,hc⟩
 .have hq:∀w,(binOp BinOp.eql 24 (gK none 0 0) (gK none 0 0)).run aq w=.ok (aA true) w:=fun w=>by kernel_rfl
  go_enter Tryz.func154,Tryz.ntmps154
  go_wp2
  go_ret
  exact⟨_,rfl,eD _ _ _ _,ay _ _⟩
 have Qf:mQ (∀j u,xs[j]?=some u->(w.alloc (au #[] 79)).cell? ((⟨g,off,none⟩:cJ).add j)=some u):=ai fun j u hj=>by
  have e:(⟨g,off,none⟩:cJ).add j=⟨g,off+j,none⟩:=by cases j<;>simp[mg]
  rw[e];exact(en _ _ _ hg).trans (hc j u hj)
 have HO:=ai h1;have HL:=ai hl;clear hc h1 hl;have hq:∀w,(binOp BinOp.eql 24 (gK (some ⟨g,off,none⟩) n cap) (gK none 0 0)).run aq w=.ok (aA false) w:=fun w=>by kernel_rfl
 go_enter Tryz.func154,Tryz.ntmps154
 go_wp2_with (at_builtin;refine iM _ rfl _ _ 24 rfl w.heap.size 79 i0 (aN #[.string ⟨#[]⟩,ag af 0,ag af 0]) 3 32 Tryz.underlying24 hi hz0 hz1 hz2 rfl dC _ _ _ rfl (World.ownsRow_made w #[] 0 (aJ _) (by unfold kW;omega) rfl) ⟨g,off,none⟩ n cap xs rfl HL.out Qf.out HO.out (by unfold kW;omega) oM sM ?_;intro v' w1 hown hgrow hnil)
 go_ret
 refine⟨_,rfl,by simpa using hown,?_⟩;exact((ay _ _).alloc (aJ _) (au #[] 79)).grown hgrow sM fun j hj=>by have h2:w.heap.size=j:=a7 hj;omega
def RY(v:aj)(n:Nat)(xs:List aj)(hl:xs.length=n*1)(h1:∀u∈xs,u.oneCell'=true)(hn:n<=1000)(w:ak)(hv:Reads w v n xs) :
  a_ aq 156 #[v] w fun e w'=>∃v',e=aU v'/\w'.ownsRow w.heap.size 3 1 v' n xs/\Bw w w':=by
 obtain⟨i0,hi,hz0,hz1,hz2⟩:=mN info3;rcases hv with⟨rfl,rfl,rfl⟩|⟨g,off,cap,rfl,LG,hg,hc⟩
 .have hq:∀w,(binOp BinOp.eql 25 (gK none 0 0) (gK none 0 0)).run aq w=.ok (aA true) w:=fun w=>by kernel_rfl
  go_enter Tryz.func156,Tryz.ntmps156
  go_wp2
  go_ret
  exact⟨_,rfl,eD _ _ _ _,ay _ _⟩
 have Qf:mQ (∀j u,xs[j]?=some u->(w.alloc (au #[] 3)).cell? ((⟨g,off,none⟩:cJ).add j)=some u):=ai fun j u hj=>by
  have e:(⟨g,off,none⟩:cJ).add j=⟨g,off+j,none⟩:=by cases j<;>simp[mg]
  rw[e];exact(en _ _ _ hg).trans (hc j u hj)
 have HO:=ai h1;have HL:=ai hl;clear hc h1 hl;have hq:∀w,(binOp BinOp.eql 25 (gK (some ⟨g,off,none⟩) n cap) (gK none 0 0)).run aq w=.ok (aA false) w:=fun w=>by kernel_rfl
 go_enter Tryz.func156,Tryz.ntmps156
 go_wp2_with (at_builtin;refine iM _ rfl _ _ 25 rfl w.heap.size 3 i0 (ag af 0) 1 8 gO hi hz0 hz1 hz2 rfl dC _ _ _ rfl (World.ownsRow_made w #[] 0 (aJ _) (by unfold kW;omega) rfl) ⟨g,off,none⟩ n cap xs rfl HL.out Qf.out HO.out (by unfold kW;omega) oM sM ?_;intro v' w1 hown hgrow hnil)
 go_ret
 refine⟨_,rfl,by simpa using hown,?_⟩;exact((ay _ _).alloc (aJ _) (au #[] 3)).grown hgrow sM fun j hj=>by have h2:w.heap.size=j:=a7 hj;omega
def QV(l:List Mn):∀u∈eA l,u.oneCell'=true:=by
 intro u hu;simp only[eA,jq] at hu;obtain⟨m,_,hu⟩:=hu;simp at hu;rcases hu with rfl|rfl|rfl<;>rfl
def Ho(l:List Mk):∀u∈dM l,u.oneCell'=true:=by
 intro u hu;simp only[dM,jq] at hu;obtain⟨m,_,hu⟩:=hu;simp at hu;rcases hu with rfl|rfl|rfl<;>rfl
def TF(l:List Int):∀u∈l.map (aD af),u.oneCell'=true:=by
 intro u hu;simp at hu;obtain⟨x,_,rfl⟩:=hu;rfl
def dV{W:ak}{base:Nat}{e:aZ}{size:Nat}{v:aj}{n:Nat}{xs:List aj}(h:W.ownsRow base e size v n xs):∃p c,v=ae p n c:=by
 rcases h.2 with⟨rfl,rfl⟩|⟨g,cap,cur,rfl,_⟩
 .exact⟨_,_,rfl⟩
 exact⟨_,_,rfl⟩
structure px(n:Nat)(a b c:aj):Prop where
 one:∀g,a.ownBlock=some g->n<=g
 two:∀g,b.ownBlock=some g->n<=g
 three:∀g,c.ownBlock=some g->n<=g
def px.base{n m:Nat}{a b c:aj}(h:px n a b c)(hm:m<=n):px m a b c:=⟨fun g hg=>aG hm (h.one g hg),fun g hg=>aG hm (h.two g hg),fun g hg=>aG hm (h.three g hg)⟩
def Reads.at_{w w':ak}{v:aj}{n:Nat}{xs:List aj}(h:Reads w v n xs)(hs:w.heap.size<=w'.heap.size)(hk:∀g,v.ownBlock=some g->w'.heap[g]?=w.heap[g]?):Reads w' v n xs:=by
 rcases h with h|⟨g,off,cap,h1,h2,h3,h4⟩
 .exact cz h
 exact .inr ⟨g,off,cap,h1,h2,bD h3 hs,fun j u hj=>(World.cell?_of_block (a:=⟨g,off+j,none⟩) (hk g (by rw[h1];rfl))).trans (h4 j u hj)⟩
def bW.setRow{b:BB}{m s k:aj}{ml:List Mn}{ss:List Int}{ms:List Mk}{w:ak}{n B:Nat}{cs:Array aj}(h:bW b m s k ml ss ms w)(hf:px n m s k)(hB:B<n):bW b m s k ml ss ms (w.setRow B cs):=
 ⟨h.ok,h.eT,h.lH,h.jM,h.rm.at_ (by rw[setRow_size];exact aJ _) fun g hg=>setRow_other (by have:=hf.one g hg;omega),h.rs.at_ (by rw[setRow_size];exact aJ _) fun g hg=>setRow_other (by have:=hf.two g hg;omega),h.rk.at_ (by rw[setRow_size];exact aJ _) fun g hg=>setRow_other (by have:=hf.three g hg;omega)⟩
def Typed(w:ak)(v:aj)(t:aZ):Prop:=∀g,v.ownBlock=some g->∃cs,w.heap[g]?=some (au cs t (0,0))
structure fK(b:BB)(m s k:aj)(ml:List Mn)(ss:List Int)(ms:List Mk)(w:ak):Prop extends bW b m s k ml ss ms w where
 t1:Typed w m 79
 t2:Typed w s 3
 t3:Typed w k 81
def Typed.setRow{w:ak}{v:aj}{t:aZ}(h:Typed w v t){B:Nat}{cs:Array aj}(hB:∀g,v.ownBlock=some g->g≠B):Typed (w.setRow B cs) v t:=fun g hg=>by
 obtain⟨c,hc⟩:=h g hg;exact⟨c,(setRow_other (hB g hg)).trans hc⟩
def fK.setRow{b:BB}{m s k:aj}{ml:List Mn}{ss:List Int}{ms:List Mk}{w:ak}{n B:Nat}{cs:Array aj}(h:fK b m s k ml ss ms w)(hf:px n m s k)(hB:B<n):fK b m s k ml ss ms (w.setRow B cs):=
 ⟨h.tobW.setRow hf hB,h.t1.setRow fun g hg=>by have:=hf.one g hg;omega,h.t2.setRow fun g hg=>by have:=hf.two g hg;omega,h.t3.setRow fun g hg=>by have:=hf.three g hg;omega⟩
def rS{w:ak}{base:Nat}{e:aZ}{size:Nat}{v:aj}{n:Nat}{xs:List aj}(h:w.ownsRow base e size v n xs):Typed w v e:=fun g hg=>by
 rcases h.2 with⟨rfl,_⟩|⟨g',c,cur,rfl,_,h1,_⟩
 .cases hg
 obtain rfl:g'=g:=a7 hg;exact⟨cur,h1⟩
def dW{w1 w2:ak}{base:Nat}{e:aZ}{size:Nat}{v:aj}{n:Nat}{xs:List aj}(h:w1.ownsRow base e size v n xs)(hb:Bw w1 w2):w2.ownsRow base e size v n xs:=fV h fun g hg=>hb.block g (h.lt g hg).2
def dt{w1:ak}{base:Nat}{e t:aZ}{size B i:Nat}{v u:aj}{n:Nat}{xs:List aj}{cs:Array aj}(h:w1.ownsRow base e size v n xs)(hB:w1.heap[B]?=some (au cs t (0,0)))(ht:t≠e):(w1.setCell ⟨B,i,none⟩ u).ownsRow base e size v n xs:=by
 refine fV h fun g hg=>bp _ _ _ _ ?_;show g≠B;rintro rfl;rcases h.2 with⟨rfl,_⟩|⟨g',cap,cur,rfl,_,h1,_⟩
 .cases hg
 have h3:g'=g:=a7 hg;subst h3;rw[hB] at h1;cases h1;exact ht rfl
def GL(w:ak)(b:BB)(bm aH az:aj)(Z:Array aj)(A B C:Bool)(w9:ak):Prop:=
 ∃m s k,w9.heap[w.heap.size]?=some (au (b.cells m s k) 28 (0,0))/\(A=false->m=bm)/\(B=false->s=aH)/\(C=false->k=az)/\w9.heap[w.heap.size+1]?=some (au Z 28 (0,0))/\Bw w w9/\w.heap.size+2<=w9.heap.size
def GL.below{w:ak}{b:BB}{bm aH az:aj}{Z:Array aj}{A B C:Bool}{w9:ak}(h:GL w b bm aH az Z A B C w9):Bw w w9:=by obtain⟨_,_,_,_,_,_,_,_,h,_⟩:=h;exact h
def GL.zero{w:ak}{b:BB}{bm aH az:aj}{Z:Array aj}{A B C:Bool}{w9:ak}(h:GL w b bm aH az Z A B C w9):w9.heap[w.heap.size+1]?=some (au Z 28 (0,0)):=by obtain⟨_,_,_,_,_,_,_,h,_,_⟩:=h;exact h
def GL.size{w:ak}{b:BB}{bm aH az:aj}{Z:Array aj}{A B C:Bool}{w9:ak}(h:GL w b bm aH az Z A B C w9):w.heap.size+2<=w9.heap.size:=by obtain⟨_,_,_,_,_,_,_,_,_,h⟩:=h;exact h
def GL.next{w:ak}{b:BB}{bm aH az:aj}{Z:Array aj}{A B C A' B' C':Bool}{w1 w2:ak}(hA:A'=false->A=false)(hB:B'=false->B=false)(hC:C'=false->C=false)(h:GL w b bm aH az Z A B C w1)(hb:Bw w1 w2):GL w b bm aH az Z A' B' C' w2:=by
 obtain⟨m,s,k,h1,h2,h3,h4,h5,h6,h7⟩:=h;exact⟨m,s,k,(hb.block _ oM).trans h1,fun h=>h2 (hA h),fun h=>h3 (hB h),fun h=>h4 (hC h),(hb.block _ oM).trans h5,h6.trans (hb.mono oM),aG h7 hb.size⟩
def WG(b:BB)(bm aH az:aj)(ml:List Mn)(ss:List Int)(ms:List Mk)(w:ak)(hB:bW b bm aH az ml ss ms w) :
  a_ aq 157 #[aN (b.cells bm aH az)] w fun e w'=>∃m' s' k',e=aU (aN (b.cells m' s' k'))/\fK b m' s' k' ml ss ms w'/\px w.heap.size m' s' k'/\Bw w w':=by
 have NU:=hB.eT.len;have hk3:=hB.jM.len;have hs3:ss.length<=3:=by have:=hB.lH.len;have:=hB.ok.eN;omega
 obtain⟨pm,cm,rfl,_⟩:=aR hB.rm;obtain⟨pn,cn,rfl,_⟩:=aR hB.rs;obtain⟨pk,ck,rfl,_⟩:=aR hB.rk;have ht:=Two.mk' w (b.sl pm ml.length cm pn ss.length cn pk ms.length ck) 28 mF 28
 go_enter Tryz.func157,Tryz.ntmps157
 go_wp2
 refine Ph.cj kQ [
 pV (pv w.heap.size 12),
  pV (ae pm ml.length cm),
  fun v ds w9=>w9.ownsRow (w.heap.size+2) 79 3 v ml.length (eA ml),
  pV (pv w.heap.size 13),
  pV (ae pn ss.length cn),
  fun v ds w9=>w9.ownsRow (w.heap.size+2) 3 1 v ss.length (ss.map (aD af)),
  pV (pv w.heap.size 14),
  pV (ae pk ms.length ck),
  fun v ds w9=>w9.ownsRow (w.heap.size+2) 81 3 v ms.length (dM ms),
  pV (pv w.heap.size 12),
  fun v ds w9=>∃x s m,ds[1]?=some x/\w9.heap[w.heap.size]?=some (au (b.cells x s m) 28 (0,0)),
  pV (pv w.heap.size 13),
  fun v ds w9=>∃x y m,ds[5]?=some x/\ds[1]?=some y/\w9.heap[w.heap.size]?=some (au (b.cells x y m) 28 (0,0)),
  pV (pv w.heap.size 14),
  fun v ds w9=>∃x y z,ds[5]?=some x/\ds[8]?=some y/\ds[1]?=some z/\w9.heap[w.heap.size]?=some (au (b.cells x y z) 28 (0,0))]
  (fun L w9=>GL w b (ae pm ml.length cm) (ae pn ss.length cn) (ae pk ms.length ck) mF (L 10) (L 12) (L 14) w9) [(1,pv w.heap.size 0)] kQ ?rst (fun L L2 w1 w2 SN h hb=>h.next (SN 10) (SN 12) (SN 14) hb) (⟨_,_,_,ht.one,fun _=>rfl,fun _=>rfl,fun _=>rfl,ht.two,ht.below,ht.size⟩) ⟨rfl,trivial⟩ ?reach ?rfin
 case rst=>
  refine⟨Ph.sV,Ph.sV,?_,Ph.sV,Ph.sV,?_,Ph.sV,Ph.sV,?_,Ph.sV,?_,Ph.sV,?_,Ph.sV,?_,trivial⟩
  .rintro v ds L w1 w2 hS h hb;exact dW h hb
  .rintro v ds L w1 w2 hS h hb;exact dW h hb
  .rintro v ds L w1 w2 hS h hb;exact dW h hb
  .rintro v ds L w1 w2 hS ⟨x,s,m,h1,h2⟩ hb;exact⟨x,s,m,h1,(hb.block _ (ah.1 h2).1).trans h2⟩
  .rintro v ds L w1 w2 hS ⟨x,s,m,h1,h2,h3⟩ hb;exact⟨x,s,m,h1,h2,(hb.block _ (ah.1 h3).1).trans h3⟩
  rintro v ds L w1 w2 hS ⟨x,s,m,h1,h2,h3,h4⟩ hb;exact⟨x,s,m,h1,h2,h3,(hb.block _ (ah.1 h4).1).trans h4⟩
 case reach=>
  refine⟨?_,?_,?_,?_,?_,?_,?_,?_,?_,?_,?_,?_,?_,?_,?_,trivial⟩<;>rintro Lf ev w1 hn xr hS hc hg hf ⟨b1,-⟩ hd
  .exact Ph.tV
  .have d0:ev (aI 3)=_:=hd.1 rfl;obtain⟨m0,s0,k0,hb0,q1,q2,q3,_⟩:=hS;obtain rfl:=q1 (hn 10 kQ);have x:=aK hb0 12 _ rfl;exact Ph.tV
  .have d1:ev (aI 4)=_:=hd.1 rfl;refine Lag.Yields.call (f:=154) (args:=#[ae pm ml.length cm]) ?_ (Mg _ ml.length (eA ml) (by rw[pZ];omega) (QV ml) oM w1 (hB.rm.below hS.below)) ?_
   .go_simp
   rintro e w2 ⟨v',rfl,ho,hb⟩;exact⟨_,rfl,ownsRow_base ho hS.size,cz hb⟩
  .exact Ph.tV
  .have d3:ev (aI 6)=_:=hd.1 rfl;obtain⟨m0,s0,k0,hb0,q1,q2,q3,_⟩:=hS;obtain rfl:=q2 (hn 12 kQ);have x:=aK hb0 13 _ rfl;exact Ph.tV
  .have d4:ev (aI 7)=_:=hd.1 rfl;refine Lag.Yields.call (f:=156) (args:=#[ae pn ss.length cn]) ?_ (RY _ ss.length (ss.map (aD af)) sM (TF ss) oM w1 (hB.rs.below hS.below)) ?_
   .go_simp
   rintro e w2 ⟨v',rfl,ho,hb⟩;exact⟨_,rfl,ownsRow_base ho hS.size,cz hb⟩
  .exact Ph.tV
  .have d6:ev (aI 9)=_:=hd.1 rfl;obtain⟨m0,s0,k0,hb0,q1,q2,q3,_⟩:=hS;obtain rfl:=q3 (hn 14 kQ);have x:=aK hb0 14 _ rfl;exact Ph.tV
  .have d7:ev (aI 10)=_:=hd.1 rfl;refine Lag.Yields.call (f:=149) (args:=#[ae pk ms.length ck]) ?_ (Ov _ ms.length (dM ms) (by rw[p_];omega) (Ho ms) oM w1 (hB.rk.below hS.below)) ?_
   .go_simp
   rintro e w2 ⟨v',rfl,ho,hb⟩;exact⟨_,rfl,ownsRow_base ho hS.size,cz hb⟩
  .exact Ph.tV
  .have d9:ev (aI 12)=_:=hd.1 rfl;have d2:w1.ownsRow (w.heap.size+2) 79 3 (ev (aI 5)) ml.length (eA ml):=hd.2.1 rfl;obtain⟨p5,c5,e5⟩:=dV d2;have hb:=hS.below;have hz:=hS.zero;have hsz:=hS.size;obtain⟨m0,s0,k0,hb0,q1,q2,q3,_⟩:=hS;have c1:=aK hb0 12 _ rfl;have f1:=cQ hb0 12;refine yva (w':=w1.setCell ⟨w.heap.size,12,none⟩ (ev (aI 5))) ?_ ⟨⟨_,s0,k0,rfl,cX _ hb0⟩,.inr ⟨⟨_,s0,k0,cX _ hb0,(by intro h;simp[Ph.upd] at h),q2,q3,(bp _ _ _ _ (by show _≠w.heap.size;omega)).trans hz,hb.setCell (p:=⟨w.heap.size,12,none⟩) (aJ _) _,by simpa using hsz⟩,?_⟩⟩
   .rw[e5];go_simp
   .intro j u ds hj hL hp
    match j,hp with
    |0,hp|1,hp=>exact hp
    |2,hp=>exact dt hp hb0 dC
    |3,hp|4,hp=>exact hp
    |5,hp=>exact dt hp hb0 dC
    |6,hp|7,hp=>exact hp
    |8,hp=>exact dt hp hb0 dC
    |9,hp=>exact hp
    |10,_=>exact(hj rfl).elim
    |11,hp=>exact hp
    |12,_=>rw[hn 12 kQ] at hL;cases hL
    |13,hp=>exact hp
    |14,_=>rw[hn 14 kQ] at hL;cases hL
    |j+15,_=>trivial
  .exact Ph.tV
  .have d11:ev (aI 13)=_:=hd.1 rfl;have d5:w1.ownsRow (w.heap.size+2) 3 1 (ev (aI 8)) ss.length (ss.map (aD af)):=hd.2.1 rfl;have d10:∃x s m,(_:List aj)[1]?=some x/\w1.heap[w.heap.size]?=some (au (b.cells x s m) 28 (0,0)):=hd.2.2.1 rfl;have d1:ev (aI 4)=_:=hd.2.2.2.2.1 rfl;obtain⟨p5,c5,e8⟩:=dV d5;have hb:=hS.below;have hz:=hS.zero;have hsz:=hS.size;obtain⟨x,s,m,h1,h2⟩:=d10;obtain⟨m0,s0,k0,hb0,q1,q2,q3,_⟩:=hS;rw[hb0] at h2;cases h2;have c1:=aK hb0 13 _ rfl;have f1:=cQ hb0 13;refine yva (w':=w1.setCell ⟨w.heap.size,13,none⟩ (ev (aI 8))) ?_ ⟨⟨_,_,_,h1,rfl,cX _ hb0⟩,.inr ⟨⟨_,_,_,cX _ hb0,(fun h=>q1 (by simpa [Ph.upd] using h)),(by intro h;simp[Ph.upd] at h),q3,(bp _ _ _ _ (by show _≠w.heap.size;omega)).trans hz,hb.setCell (p:=⟨w.heap.size,13,none⟩) (aJ _) _,by simpa using hsz⟩,?_⟩⟩
   .rw[e8];go_simp
   .intro j u ds hj hL hp
    match j,hp with
    |0,hp|1,hp=>exact hp
    |2,hp=>exact dt hp hb0 dC
    |3,hp|4,hp=>exact hp
    |5,hp=>exact dt hp hb0 dC
    |6,hp|7,hp=>exact hp
    |8,hp=>exact dt hp hb0 dC
    |9,hp=>exact hp
    |10,⟨x,s,m,h1,h2⟩=>rw[hb0] at h2;cases h2;exact⟨_,_,_,h1,cX _ hb0⟩
    |11,hp=>exact hp
    |12,_=>exact(hj rfl).elim
    |13,hp=>exact hp
    |14,_=>rw[hn 14 kQ] at hL;cases hL
    |j+15,_=>trivial
  .exact Ph.tV
  have d13:ev (aI 14)=_:=hd.1 rfl;have d8:w1.ownsRow (w.heap.size+2) 81 3 (ev (aI 11)) ms.length (dM ms):=hd.2.1 rfl;have d12:∃x y m,(_:List aj)[5]?=some x/\(_:List aj)[1]?=some y/\w1.heap[w.heap.size]?=some (au (b.cells x y m) 28 (0,0)):=hd.2.2.1 rfl;have d1:ev (aI 4)=_:=hd.2.2.2.2.1 rfl;obtain⟨p5,c5,e11⟩:=dV d8;have hb:=hS.below;have hz:=hS.zero;have hsz:=hS.size;obtain⟨x,y,m,h1,h2,h3⟩:=d12;obtain⟨m0,s0,k0,hb0,q1,q2,q3,_⟩:=hS;rw[hb0] at h3;cases h3;have c1:=aK hb0 14 _ rfl;have f1:=cQ hb0 14;refine yva (w':=w1.setCell ⟨w.heap.size,14,none⟩ (ev (aI 11))) ?_ ⟨⟨_,_,_,h1,h2,rfl,cX _ hb0⟩,.inr ⟨⟨_,_,_,cX _ hb0,(fun h=>q1 (by simpa [Ph.upd] using h)),(fun h=>q2 (by simpa [Ph.upd] using h)),(by intro h;simp[Ph.upd] at h),(bp _ _ _ _ (by show _≠w.heap.size;omega)).trans hz,hb.setCell (p:=⟨w.heap.size,14,none⟩) (aJ _) _,by simpa using hsz⟩,?_⟩⟩
  .rw[e11];go_simp
  .intro j u ds hj hL hp
   match j,hp with
   |0,hp|1,hp=>exact hp
   |2,hp=>exact dt hp hb0 dC
   |3,hp|4,hp=>exact hp
   |5,hp=>exact dt hp hb0 dC
   |6,hp|7,hp=>exact hp
   |8,hp=>exact dt hp hb0 dC
   |9,hp=>exact hp
   |10,⟨x,s,m,h1,h2⟩=>rw[hb0] at h2;cases h2;exact⟨_,_,_,h1,cX _ hb0⟩
   |11,hp=>exact hp
   |12,⟨x,y,m,h1,h2,h3⟩=>rw[hb0] at h3;cases h3;exact⟨_,_,_,h1,h2,cX _ hb0⟩
   |13,hp=>exact hp
   |14,_=>exact(hj rfl).elim
   |j+15,_=>trivial
 case rfin=>
  intro a2 w2 hR;have hS:=hR.s;have e2:w2.ownsRow (w.heap.size+2) 79 3 (a2.tmps.getD 5 ar) ml.length (eA ml):=hR.val 2;have e5:w2.ownsRow (w.heap.size+2) 3 1 (a2.tmps.getD 8 ar) ss.length (ss.map (aD af)):=hR.val 5;have e8:w2.ownsRow (w.heap.size+2) 81 3 (a2.tmps.getD 11 ar) ms.length (dM ms):=hR.val 8;obtain⟨x,y,z,h5,h8,h11,lg⟩:=hR.val 14;have k1:a2.tmps.getD 1 ar=pv w.heap.size 0:=hR.kept kQ;have k2:a2.tmps.getD 2 ar=pv (w.heap.size+1) 0:=hR.kept kQ;have k0:a2.tmps.getD 0 ar=aN (b.sl pm ml.length cm pn ss.length cn pk ms.length ck):=hR.kept kQ;have ha:=hR.lits 16 rfl;simp only[aQ,cg,nQ] at ha;clear hR;have e5':a2.tmps.getD 5 ar=x:=a7 h5;have e8':a2.tmps.getD 8 ar=y:=a7 h8;have aez:a2.tmps.getD 11 ar=z:=a7 h11;rw[e5'] at e2;rw[e8'] at e5;rw[aez] at e8;rw[k0,k1,k2] at ha;generalize a2.tmps.getD=zz at ha;clear k0 k1 k2 h5 h8 h11 e5' e8' aez;obtain⟨p5,c5,rfl⟩:=dV e2;obtain⟨p8,c8,rfl⟩:=dV e5;obtain⟨VN,c11,rfl⟩:=dV e8;have HX:=ai lg;have HZ:=ai hS.zero;have FQ:=ai hS.below;have H2:=ai e2;have H5:=ai e5;have H8:=ai e8;have HB:=ai hB;clear lg hS e2 e5 e8 hB ht;subst ha
  go_wp2_with (first
   |(refine oC rfl 28 _ rfl _ rfl 28 _ (0,0) _ HX.out bL rfl kQ ?_)
   |(refine gH rfl 28 _ _ rfl _ _ rfl rfl 28 _ HZ.out kQ rfl (by simp[bK]) ?_))
  refine a8 (results_cell_row rfl _ _ (w.heap.size+1) 28 _ (0,0) _ rfl (bX HZ.out) bL rfl kQ) rfl ⟨_,_,_,rfl,?_,⟨fun g hg=>by have:=(H2.out.lt g hg).1;omega,fun g hg=>by have:=(H5.out.lt g hg).1;omega,fun g hg=>by have:=(H8.out.lt g hg).1;omega⟩,cS FQ.out oM⟩;have hz:=HZ.out;have ns:∀ {e size v n xs},w2.ownsRow (w.heap.size+2) e size v n xs->(w2.setRow (w.heap.size+1) (b.sl p5 ml.length c5 p8 ss.length c8 VN ms.length c11)).ownsRow (w.heap.size+2) e size v n xs:=fun h=>fV h fun g hg=>setRow_other (by have:=(h.lt g hg).1;omega);exact⟨⟨HB.out.ok,HB.out.eT,HB.out.lH,HB.out.jM,Reads.jL (ns H2.out) oM (by rw[pZ];omega),Reads.jL (ns H5.out) oM sM,Reads.jL (ns H8.out) oM (by rw[p_];omega)⟩,rS (ns H2.out),rS (ns H5.out),rS (ns H8.out)⟩
abbrev fP:Array Value:=mF
def Bp(b:BB)(bm aH az:aj)(ml:List Mn)(ss:List Int)(ms:List Mk)(w:ak)(hL:Laid w)(hB:bW b bm aH az ml ss ms w)(hne:aT b ml ss ms≠[]) :
  a_ aq 150 #[aN (b.cells bm aH az)] w fun e w'=>∃m' s' k',e=aU (bB #[aN (b.cells m' s' k'),ag af 0])/\fK b m' s' k' ml ss ms w'/\px w.heap.size m' s' k'/\Bw w w':=by
 obtain⟨pm,cm,rfl,_⟩:=aR hB.rm;obtain⟨pn,cn,rfl,_⟩:=aR hB.rs;obtain⟨pk,ck,rfl,_⟩:=aR hB.rk;have b0:Bw w ((w.alloc (au (b.sl pm ml.length cm pn ss.length cn pk ms.length ck) 28)).alloc (au fP 28)):=cY.alloc sM _;have HT:mQ (Two w (b.sl pm ml.length cm pn ss.length cn pk ms.length ck) 28 fP 28 ((w.alloc (au (b.sl pm ml.length cm pn ss.length cn pk ms.length ck) 28)).alloc (au fP 28))):=ai ⟨(Two.mk' w _ _ _ _).one,(Two.mk' w _ _ _ _).two,b0,sM⟩;have ql:=ai (dI b _ _ _ ml ss ms _ (hL.below b0) (hB.below b0))
 have HSo:mQ (∀W,Bw w W->a_ aq 119 #[aN (b.sl pm ml.length cm pn ss.length cn pk ms.length ck)] W fun e w'=>e=aU (aA true)/\Bw W w'):=ai fun W hb=>by
  have:=DG b _ _ _ ml ss ms W (hB.below hb);rw[decide_eq_true hne] at this;exact this
 have MK:mQ (∀W,Bw w W->a_ aq 157 #[aN (b.sl pm ml.length cm pn ss.length cn pk ms.length ck)] W fun e w'=>∃m' s' k',e=aU (aN (b.cells m' s' k'))/\fK b m' s' k' ml ss ms w'/\px W.heap.size m' s' k'/\Bw W w'):=ai fun W hb=>WG b _ _ _ ml ss ms W (hB.below hb);have HML:=ai hB.eT;clear hL hB hne b0
 go_enter Tryz.func150,Tryz.ntmps150
 go_wp2_with (first
  |(refine gH rfl 28 _ _ rfl _ _ rfl rfl 28 _ HZ.out kQ rfl (by simp[bK]) ?_)
  |(go_at_call 71;refine ql.out.mono ?_;clear ql;rintro e w1 ⟨rfl,hb1⟩
    have sw:=HT.out.next hb1;have o7:=ai sw
    obtain⟨x0,x1,x2,x3,x4,x5,x6,x7,x8,x9,qo,qm,rj,qX,q7⟩:=bU sw.one
    clear sw hb1)
  |(go_at_call 119;refine(HSo.out _ o7.out.below).mono ?_;clear HSo;rintro e w2 ⟨rfl,hb2⟩
    have CS:=o7.out.next hb2;have GM:=ai CS
    clear x0 x1 x2 x3 x4 x5 x6 x7 x8 x9 qo qm rj qX q7;obtain⟨x0,x1,x2,x3,x4,x5,x6,x7,x8,x9,qo,qm,rj,qX,q7⟩:=bU CS.one
    clear CS hb2)
  |(go_at_call 157;refine(MK.out _ GM.out.below).mono ?_;clear MK;rintro e w3 ⟨m',s',k',rfl,PQ,hf3,hb3⟩
    have Qd:=ai (GM.out.next hb3);have HZ:=ai Qd.out.two;obtain⟨p5,c5,rfl,_⟩:=aR PQ.rm;obtain⟨p8,c8,rfl,_⟩:=aR PQ.rs;obtain⟨VN,c11,rfl,_⟩:=aR PQ.rk;have o8:=ai PQ;have VB:mQ (fK b (ae p5 ml.length c5) (ae p8 ss.length c8) (ae VN ms.length c11) ml ss ms (w3.setRow (w.heap.size+1) (b.sl p5 ml.length c5 p8 ss.length c8 VN ms.length c11))):=ai (PQ.setRow hf3 (by have:=GM.out.size;omega));have HF3:=ai (hf3.base GM.out.below.size)
    clear PQ hb3 hf3))
 refine a8 (results_cell_tmp (g:=w.heap.size+1) rfl rfl (eF _ _ 28 28 _ (0,0) _ (bX HZ.out) bL rfl kQ)) rfl ⟨_,_,_,rfl,VB.out,HF3.out,cS Qd.out.below oM⟩
def zq(a1 a2 b1 b2 m1 m2:Int)(w:ak)(a:Act)(h4:a.tmps.getD 4 ar=dB (some ⟨w.heap.size+1+1,0,none⟩))(h5:a.tmps.getD 5 ar=aA (decide (m1<=m2)))(hd:a.defers=[]) :
  bodyPost aq Tryz.f153 (fun e w'=>e=aU (bB #[aN #[ag af m1,ag af m2],aA (decide (m1<=m2))])/\Bw w w') Exit.ret a
   ((((w.alloc (au #[ag af a1,ag af a2] 23)).alloc (au #[ag af b1,ag af b2] 23)).alloc (au #[ag af m1,ag af m2] 23)).alloc (au #[ag af m1,ag af m2] 23)).drew:=by
 have b0:=(((((ay w.heap.size w).alloc (aJ _) (au #[ag af a1,ag af a2] 23)).alloc sM (au #[ag af b1,ag af b2] 23)).alloc sO (au #[ag af m1,ag af m2] 23)).alloc sO (au #[ag af m1,ag af m2] 23)).drew;have hk:=(oG w #[ag af a1,ag af a2] #[ag af b1,ag af b2] #[ag af m1,ag af m2] 23 23 23).2.2;have hk2:=(aW _ (au #[ag af m1,ag af m2] 23) _ (ah.1 hk).1).trans hk;refine a8 (results_cell_tmp (g:=w.heap.size+1+1) rfl h4 (eF _ _ 23 23 _ (0,0) _ hk2 Tryz.underlying23 rfl kQ)) hd ⟨by rw[h5],b0⟩
def zr(a1 a2 b1 b2:Int)(w:ak) :
  a_ aq 153 #[aN #[ag af a1,ag af a2],aN #[ag af b1,ag af b2]] w (Rt w (bB #[aN #[ag af (max a1 b1),ag af (min a2 b2)],aA (decide (max a1 b1<=min a2 b2))])):=by
 have key:∀(m1 m2:Int),max a1 b1=m1->min a2 b2=m2->a_ aq 153 #[aN #[ag af a1,ag af a2],aN #[ag af b1,ag af b2]] w (Rt w (bB #[aN #[ag af m1,ag af m2],aA (decide (m1<=m2))])):=by
  intro m1 m2 h1 h2
  go_enter Tryz.func153,Tryz.ntmps153
  rcases Int.lt_or_le a1 b1 with q1|q1<;>rcases Int.lt_or_le b2 a2 with q2|q2
  .obtain rfl:m1=b1:=oM;obtain rfl:m2=b2:=oM;clear h1 h2;go_wp2
   go_region
   go_wp2;exact zq a1 a2 m1 m2 m1 m2 w _ rfl rfl rfl
  .obtain rfl:m1=b1:=oM;obtain rfl:m2=a2:=oM;clear h1 h2;go_wp2
   go_region
   go_wp2;exact zq a1 m2 m1 b2 m1 m2 w _ rfl rfl rfl
  .obtain rfl:m1=a1:=oM;obtain rfl:m2=b2:=oM;clear h1 h2;go_wp2
   go_region
   go_wp2;exact zq m1 a2 b1 m2 m1 m2 w _ rfl rfl rfl
  obtain rfl:m1=a1:=oM;obtain rfl:m2=a2:=oM;clear h1 h2;go_wp2
  go_region
  go_wp2;exact zq m1 m2 b1 b2 m1 m2 w _ rfl rfl rfl
 exact key _ _ rfl rfl
def BB.lk(b:BB)(l m:Int):BB:={ b with ll:=l,lm:=m }
def BB.ade{b:BB}(h:b.Ok){l m:Int}(h0:0<=l)(h1:l<=m)(h2:m<=99)(h3:m-l<3):(b.lk l m).Ok:=⟨h.room,h.depth,h.least,h.minutes,h.cM,h.jX,h.eN,h.jK,⟨h0,h1,h2,h3⟩,h.Nt⟩
def bW.lk{b:BB}{bm aH az:aj}{ml:List Mn}{ss:List Int}{ms:List Mk}{w:ak}(h:bW b bm aH az ml ss ms w){l m:Int}(h0:0<=l)(h1:l<=m)(h2:m<=99)(h3:m-l<3):bW (b.lk l m) bm aH az ml ss ms w:=
 ⟨BB.ade h.ok h0 h1 h2 h3,h.eT,⟨h.lH.mem,h.lH.asc,h.lH.len⟩,⟨h.jM.mem,h.jM.len⟩,h.rm,h.rs,h.rk⟩
def VM(b:BB)(bm aH az:aj)(ml:List Mn)(ss:List Int)(ms:List Mk)(w:ak)(hL:Laid w)(hB:bW b bm aH az ml ss ms w)(lo hi:Int)(h0:0<=lo)(h1:lo<=hi)(h2:hi<=99)(z1 z2:Int)(hz1:max b.ll lo=z1)(hz2:min b.lm hi=z2)(hz:z1<=z2)
  (hne:aT (b.lk z1 z2) ml ss ms≠[]) :
  a_ aq 80 #[aN (b.cells bm aH az),aN #[ag af lo,ag af hi]] w fun e w'=>∃m' s' k',e=aU (bB #[aN ((b.lk z1 z2).cells m' s' k'),ag af 0])/\fK (b.lk z1 z2) m' s' k' ml ss ms w'/\Bw w w':=by
 have hlk:=hB.ok.leak;obtain⟨pm,cm,rfl,_⟩:=aR hB.rm;obtain⟨pn,cn,rfl,_⟩:=aR hB.rs;obtain⟨pk,ck,rfl,_⟩:=aR hB.rk;have Ux:=oG w (b.sl pm ml.length cm pn ss.length cn pk ms.length ck) #[ag af lo,ag af hi] fP 28 23 28;have b0:Bw w (((w.alloc (au (b.sl pm ml.length cm pn ss.length cn pk ms.length ck) 28)).alloc (au #[ag af lo,ag af hi] 23)).alloc (au fP 28)):=(cY.alloc sM _).alloc sO _;have HT:mQ (Two w (b.sl pm ml.length cm pn ss.length cn pk ms.length ck) 28 #[ag af lo,ag af hi] 23 (((w.alloc (au (b.sl pm ml.length cm pn ss.length cn pk ms.length ck) 28)).alloc (au #[ag af lo,ag af hi] 23)).alloc (au fP 28))):=ai ⟨Ux.1,Ux.2.1,b0,sM⟩;have HZ0:=ai Ux.2.2;have ql:=ai (dI b _ _ _ ml ss ms _ (hL.below b0) (hB.below b0))
 have HAg:mQ (∀W,Bw w W->a_ aq 150 #[aN ((b.lk z1 z2).cells (ae pm ml.length cm) (ae pn ss.length cn) (ae pk ms.length ck))] W fun e w'=>∃m' s' k',e=aU (bB #[aN ((b.lk z1 z2).cells m' s' k'),ag af 0])/\fK (b.lk z1 z2) m' s' k' ml ss ms w'/\px W.heap.size m' s' k'/\Bw W w'):=ai fun W hb=>
  Bp (b.lk z1 z2) _ _ _ ml ss ms W (hL.below hb) ((hB.below hb).lk oM hz oM oM) hne
 have hmt:=fun W=>zr b.ll b.lm lo hi W;rw[hz1,hz2,decide_eq_true hz] at hmt;have HMt:=ai hmt;clear hL hB hne b0 Ux hmt hz1 hz2
 go_enter Tryz.func80,Tryz.ntmps80
 go_wp2_with (first
  |(refine oC rfl 28 _ rfl _ rfl 28 _ (0,0) _ HK4.out bL rfl kQ ?_)
  |(refine gH rfl 28 _ _ rfl _ _ rfl rfl 28 _ HZ5.out kQ rfl (by simp[bK]) ?_)
  |(go_at_call 71;refine ql.out.mono ?_;clear ql;rintro e w1 ⟨rfl,hb1⟩
    have sw:=HT.out.next hb1;have o7:=ai sw
    have Yk:=ai ((hb1.block (w.heap.size+2) sM).trans HZ0.out);have y0:=aK sw.two 0 _ rfl;have y1:=aK sw.two 1 _ rfl
    clear sw hb1)
  |(go_at_call 152;refine(m9 lo hi 0 99 _ h0 h1 h2).mono ?_;rintro e w2 ⟨rfl,hb2⟩
    have CS:=o7.out.next hb2;have GM:=ai CS
    have HZ2:=ai ((hb2.block _ (ah.1 Yk.out).1).trans Yk.out);have x8:=aK CS.one 8 _ rfl;have x9:=aK CS.one 9 _ rfl;have v0:=aK CS.two 0 _ rfl;have v1:=aK CS.two 1 _ rfl
    clear CS hb2)
  |(go_at_call 153;refine(HMt.out _).mono ?_;rintro e w3 ⟨rfl,hb3⟩
    have FX:=GM.out.next hb3;have Qd:=ai FX
    have HZ3:=ai ((hb3.block _ (ah.1 HZ2.out).1).trans HZ2.out);have hx3:=(aW w3 (au #[ag af z1,ag af z2] 23) _ (ah.1 FX.one).1).trans FX.one;have u8:=aK hx3 8 _ rfl;have u9:=aK hx3 9 _ rfl;have f8:=cQ hx3 8;have f9:=cQ hx3 9;have HK4:mQ ((((w3.alloc (au #[ag af z1,ag af z2] 23)).setCell ⟨w.heap.size,8,none⟩ (ag af z1)).setCell ⟨w.heap.size,9,none⟩ (ag af z2)).heap[w.heap.size]?=some (au ((b.lk z1 z2).cells (ae pm ml.length cm) (ae pn ss.length cn) (ae pk ms.length ck)) 28 (0,0))):=ai (cX _ (cX _ hx3));have HB4:mQ (Bw w (((w3.alloc (au #[ag af z1,ag af z2] 23)).setCell ⟨w.heap.size,8,none⟩ (ag af z1)).setCell ⟨w.heap.size,9,none⟩ (ag af z2))):=ai (((FX.below.alloc FX.below.size _).setCell (p:=⟨w.heap.size,8,none⟩) (aJ _) _).setCell (p:=⟨w.heap.size,9,none⟩) (aJ _) _);have OV:mQ ((((w3.alloc (au #[ag af z1,ag af z2] 23)).setCell ⟨w.heap.size,8,none⟩ (ag af z1)).setCell ⟨w.heap.size,9,none⟩ (ag af z2)).heap[w.heap.size+2]?=some (au fP 28 (0,0))):=ai ((bp _ _ _ _ (by show w.heap.size+2≠w.heap.size;omega)).trans ((bp _ _ _ _ (by show w.heap.size+2≠w.heap.size;omega)).trans ((aW _ _ _ (ah.1 HZ3.out).1).trans HZ3.out)))
    clear FX hb3 hx3)
  |(go_at_call 150;refine(HAg.out _ HB4.out).mono ?_;clear HAg;rintro e w5 ⟨m',s',k',rfl,UH,hf5,hb5⟩
    have HZ5:=ai ((hb5.block _ (ah.1 OV.out).1).trans OV.out);obtain⟨p5,c5,rfl,_⟩:=aR UH.rm;obtain⟨p8,c8,rfl,_⟩:=aR UH.rs;obtain⟨VN,c11,rfl,_⟩:=aR UH.rk;have VB:mQ (fK (b.lk z1 z2) (ae p5 ml.length c5) (ae p8 ss.length c8) (ae VN ms.length c11) ml ss ms (w5.setRow (w.heap.size+2) ((b.lk z1 z2).cells (ae p5 ml.length c5) (ae p8 ss.length c8) (ae VN ms.length c11)))):=ai (UH.setRow hf5 (ah.1 OV.out).1);have HB5:=ai (HB4.out.trans (hb5.mono HB4.out.size))
    clear UH hb5 hf5))
 refine a8 (results_cell_tmp (g:=w.heap.size+2) rfl rfl (eF _ _ 28 28 _ (0,0) _ (bX HZ5.out) bL rfl kQ)) rfl ⟨_,_,_,rfl,VB.out,cS HB5.out oM⟩
def dT(n mask:Nat):List Nat:=(aQ n).filter fun i=>mask.testBit i
def uD(n mask:Nat):List Int:=(dT n mask).map fun(i:Nat)=>(i:Int)
def zh{W:ak}{b1 b2:Nat}{e1 e2:aZ}{s1 s2:Nat}{v1 v2:aj}{n1 n2:Nat}{x1 x2:List aj}(h1:W.ownsRow b1 e1 s1 v1 n1 x1)(h2:W.ownsRow b2 e2 s2 v2 n2 x2)(he:e1≠e2){g:Nat}(hg:v1.ownBlock=some g):some g≠v2.ownBlock:=by
 intro h;rcases h1.2 with⟨rfl,_⟩|⟨g1,c1,q1,rfl,_,a1,_⟩
 .cases hg
 rcases h2.2 with⟨rfl,_⟩|⟨g2,c2,q2,rfl,_,a2,_⟩
 .cases h
 obtain rfl:g1=g:=a7 hg;obtain rfl:g1=g2:=a7 h;rw[a1] at a2;cases a2;exact he rfl
def lN{W:ak}{b1:Nat}{e1 t:aZ}{s1:Nat}{v1:aj}{n1:Nat}{x1:List aj}{B:Nat}{cs:Array aj}(h1:W.ownsRow b1 e1 s1 v1 n1 x1)(hB:W.heap[B]?=some (au cs t (0,0)))(he:t≠e1):some B≠v1.ownBlock:=by
 intro h;rcases h1.2 with⟨rfl,_⟩|⟨g1,c1,q1,rfl,_,a1,_⟩
 .cases h
 obtain rfl:B=g1:=a7 h;rw[hB] at a1;cases a1;exact he rfl
def rH(n mask:Nat):dT (n+1) mask=dT n mask++if mask.testBit n then[n] else[]:=by
 unfold dT;rw[List.range_succ,List.filter_append];cases h:mask.testBit n<;>simp[h]
def qI(n mask:Nat):(dT n mask).length<=n:=by
 have:=List.length_filter_le (fun i=>mask.testBit i) (aQ n);simpa [dT] using this
end Go.Proofs.YtffladgmkiimjaaGreatDoor
namespace Go.Lag
open Go Go.RowKit
def Yields.FK{P:Program}{o:Oper}{ev:bI->aj}{w:ak}{R:aj->ak->Prop}(s x:bI)(t:aZ)(ho:o.op=.call { callee:=.builtin .append,args:=#[s,x],argTypes:=#[t,t] })
  (base:Nat) (e:aZ) (i:TypeInfo) (z:aj) (size sA:Nat) (ht:P.underlying t=some (.slice e)) (hi:P.info? e=some i) (hz:i.zero=some z) (hsize:i.size=size) (hby:i.bytes=sA) (hzs:z.cells.size=size) (hsz:0<size)
  (v:aj) (n:Nat) (xs:List aj) (hs:ev s=v) (hown:w.ownsRow base e size v n xs) (ad:cJ) (m c:Nat) (news:List aj) (hx:ev x=.slice (some ad) m c) (hl:news.length=m*size) (hnews:∀j u,news[j]?=some u->w.cell? (ad.add j)=some u) (h1:∀u∈news,u.oneCell'=true)
  (h63:n+m<=kW) (hbytes:(n+m)*sA<=140737488355328) (hbase:base<=w.heap.size)
  (h:∀v' w',w'.ownsRow base e size v' (n+m) (xs++news)->w.grownBy w' v.ownBlock->(v'=.slice none 0 0↔v=.slice none 0 0/\m=0)->R v' w'):Lag.Yields P o ev w R:=by
 obtain⟨v',w',hr,h2,h3,h4⟩:=run_append_own (P:=P) w base t o.type e i z size sA ht hi hz hsize hby hzs hsz v n xs hown ad m c news hl hnews h1 h63 hbytes hbase;refine F5 (v:=v') (w':=w') ?_ (h v' w' h2 h3 h4);unfold execOp;simp only[ho,resolve,invoke,builtin,qT,Sem.run_pure,jF,List.map_toArray,cP,fW,hs,hx,hr]
def Src(w:ak)(sv:aj)(m:Nat)(news:List aj):Prop:=
 (sv=.slice none 0 0/\m=0/\news=[])\/∃ad c,sv=.slice (some ad) m c/\∀j u,news[j]?=some u->w.cell? (ad.add j)=some u
section
variable{P:Program}{o:Oper}{ev:bI->aj}{w:ak}{R:aj->ak->Prop}
theorem D5(base:Nat)(t ty e:aZ)(i:TypeInfo)(z:aj)(size sA:Nat)(ht:P.underlying t=some (.slice e))(hi:P.info? e=some i)(hz:i.zero=some z)
  (hsize:i.size=size) (hby:i.bytes=sA) (hzs:z.cells.size=size) (hsz:0<size)
  (v:aj) (n:Nat) (xs:List aj) (hown:w.ownsRow base e size v n xs) (sv:aj) (m:Nat) (news:List aj) (hl:news.length=m*size) (ED:Src w sv m news) (h1:∀u∈news,u.oneCell'=true)
  (h63:n+m<=kW) (hbytes:(n+m)*sA<=140737488355328) (hbase:base<=w.heap.size) :
  ∃v' w',(kz #[t,t] ty #[v,sv]).run P w=.ok v' w'/\w'.ownsRow base e size v' (n+m) (xs++news)/\w.grownBy w' v.ownBlock:=by
 rcases ED with⟨rfl,rfl,rfl⟩|⟨ad,c,rfl,hnews⟩
 .refine⟨v,w,run_append_owned_none w base t ty e i size ht hi v n xs hown,by simpa using hown,rfl,rfl,rfl,aJ _,fun _ _ _=>rfl⟩
 obtain⟨v',w',h2,h3,h4,_⟩:=run_append_own (P:=P) w base t ty e i z size sA ht hi hz hsize hby hzs hsz v n xs hown ad m c news hl hnews h1 h63 hbytes hbase;exact⟨v',w',h2,h3,h4⟩
theorem J0{w':ak}{v':aj}(base:Nat)(t ty e:aZ)(i:TypeInfo)(z:aj)(size sA:Nat)(ht:P.underlying t=some (.slice e))(hi:P.info? e=some i)(hz:i.zero=some z)(hsize:i.size=size)(hby:i.bytes=sA)
  (v:aj) (n:Nat) (xs:List aj) (hown:w.ownsRow base e size v n xs) (sv:aj) (m:Nat) (news:List aj) (hl:news.length=m*size) (ED:Src w sv m news) (h1:∀u∈news,u.oneCell'=true)
  (h63:n+m<=kW) (hbytes:(n+m)*sA<=140737488355328) (hr:(kz #[t,t] ty #[v,sv]).run P w=.ok v' w') :
  ∀ {b2:Nat} {u:aj} {n2:Nat} {ys:List aj},n2<=n->w.ownsRow b2 e size u n2 ys->w'.ownsRow b2 e size u n2 ys:=by
 intro b2 u n2 ys yN hu;subst hsize;subst hby;have Z7:n+m<=9223372036854775807:=by simp only[kW] at h63;omega
 rcases ED with⟨rfl,rfl,rfl⟩|⟨ad,c,rfl,hnews⟩
 .have h2:=run_append_owned_none w base t ty e i i.size ht hi v n xs hown;rw[h2] at hr;cases hr;exact hu
 have grow:∀(o:Obj),(w.drew.alloc o).ownsRow b2 e i.size u n2 ys:=fun o=>by
  refine⟨hu.1,?_⟩;rcases hu.2 with h|⟨g,cap,cur,h2,h3,h4,h5⟩
  .exact .inl h
  exact .inr ⟨g,cap,cur,h2,h3,(aW w.drew o g (ah.1 h4).1).trans h4,h5⟩
 rcases hown.2 with⟨rfl,rfl⟩|⟨g,cap,cur,rfl,hbg,hg,uP,hcm,hcs,EB⟩
 .by_cases hm:m=0
  .subst hm;have hn:news=[]:=aX (by simpa using hl);subst hn
   have h2:(kz #[t,t] ty #[.slice none 0 0,.slice (some ad) 0 c]).run P w=.ok (.slice none 0 0) w:=by
    simp[kz,run_underlying ht,sizeOf,typeInfo,hi,Builtin.lenOf,Builtin.firstCells,loadCells,loadCellsFrom]
   rw[h2] at hr;cases hr;exact hu
  have h2:=run_append_nil (P:=P) w t ty e i z ht hi hz ad m c news hl hnews (by omega) (by omega) (by have hb:=hbytes;simp only[cO] at hb;omega);rw[h2] at hr;cases hr;exact grow _
 by_cases hroom:n+m<=cap
 .have NZ:n*i.size+news.length<=cur.size:=by rw[hl,hcs,<-Nat.add_mul];exact Nat.mul_le_mul_right _ hroom
  have h2:=run_append_room (P:=P) w t ty e i ht hi g n cap cur hg ad m c news hl hnews h1 hroom NZ;rw[h2] at hr;cases hr;refine⟨hu.1,?_⟩;rcases hu.2 with h|⟨g2,abp,aid,k2,h3,h4,h5,h6,h7,h8⟩
  .exact .inl h
  refine .inr ?_
  by_cases EM:g2=g
  .subst EM;rw[hg] at h4;cases h4;refine⟨g2,abp,_,k2,h3,setRow_heap w g2 cur _ e _ hg,h5,h6,?_,?_⟩
   .rw[<-h7];simp only[jG,mP,List.length_take,List.length_drop,Array.length_toList];omega
   rw[<-h8];have hle:n2*i.size<=n*i.size:=Nat.mul_le_mul_right _ yN;simp only[List.append_assoc];rw[List.take_append_of_le_length (by rw[List.length_take,Array.length_toList];omega),List.take_take,Nat.min_eq_left hle]
  exact⟨g2,abp,aid,k2,h3,(setRow_other w g g2 _ EM).trans h4,h5,h6,h7,h8⟩
 have holds:∀j u,xs[j]?=some u->w.cell? ((⟨g,0,none⟩:cJ).add j)=some u:=hown.cells (g:=g) rfl;have h2:=run_append_grow (P:=P) w t ty e i z ht hi hz ⟨g,0,none⟩ n cap xs hown.1 holds ad m c news hl hnews (by omega) (by omega) (growslice_fits (by omega) hbytes);rw[h2] at hr;cases hr;exact grow _
theorem Yields.OG(s x:bI)(t:aZ)(ho:o.op=.call { callee:=.builtin .append,args:=#[s,x],argTypes:=#[t,t] })
  (base:Nat) (e:aZ) (i:TypeInfo) (z:aj) (size sA:Nat) (ht:P.underlying t=some (.slice e)) (hi:P.info? e=some i) (hz:i.zero=some z) (hsize:i.size=size) (hby:i.bytes=sA) (hzs:z.cells.size=size) (hsz:0<size)
  (v:aj) (n:Nat) (xs:List aj) (hs:ev s=v) (hown:w.ownsRow base e size v n xs) (sv:aj) (m:Nat) (news:List aj) (hx:ev x=sv) (hl:news.length=m*size) (ED:Src w sv m news) (h1:∀u∈news,u.oneCell'=true)
  (h63:n+m<=kW) (hbytes:(n+m)*sA<=140737488355328) (hbase:base<=w.heap.size)
  (h:∀v' w',w'.ownsRow base e size v' (n+m) (xs++news)->w.grownBy w' v.ownBlock->(∀ {b2:Nat} {u:aj} {n2:Nat} {ys:List aj},n2<=n->w.ownsRow b2 e size u n2 ys->w'.ownsRow b2 e size u n2 ys)->R v' w'):Lag.Yields P o ev w R:=by
 obtain⟨v',w',hr,h2,h3⟩:=D5 (P:=P) (w:=w) base t o.type e i z size sA ht hi hz hsize hby hzs hsz v n xs hown sv m news hl ED h1 h63 hbytes hbase;refine F5 (v:=v') (w':=w') ?_ (h v' w' h2 h3 (J0 base t o.type e i z size sA ht hi hz hsize hby v n xs hown sv m news hl ED h1 h63 hbytes hr));unfold execOp;simp only[ho,resolve,invoke,builtin,qT,Sem.run_pure,jF,List.map_toArray,cP,fW,hs,hx,hr]
theorem AA(base:Nat)(t ty e:aZ)(i:TypeInfo)(z:aj)(size sA:Nat)(ht:P.underlying t=some (.slice e))(hi:P.info? e=some i)(hz:i.zero=some z)
  (hsize:i.size=size) (hby:i.bytes=sA) (hzs:z.cells.size=size) (hsz:0<size) (q:Nat) (hq:w.heap[q]?=some (.cells #[] e (0,0))) (hbq:base<=q)
  (sv:aj) (m:Nat) (news:List aj) (hl:news.length=m*size) (ED:Src w sv m news) (h1:∀u∈news,u.oneCell'=true) (h63:m<=kW) (hbytes:m*sA<=140737488355328) :
  ∃v' w',(kz #[t,t] ty #[.slice (some ⟨q,0,none⟩) 0 0,sv]).run P w=.ok v' w'/\w'.ownsRow base e size v' m news/\Bw w w'/\(m=0->v'=.slice (some ⟨q,0,none⟩) 0 0):=by
 have hql:=(ah.1 hq).1;have hown:w.ownsRow base e size (.slice (some ⟨q,0,none⟩) 0 0) 0 []:=⟨by simp,.inr ⟨q,0,#[],rfl,hbq,hq,aJ _,iq _,by simp,by simp⟩⟩
 by_cases hm:m=0
 .subst hm;have hn:news=[]:=aX (by simpa using hl);subst hn;rcases ED with⟨rfl,_,_⟩|⟨ad,c,rfl,hnews⟩
  .exact⟨_,w,run_append_owned_none w base t ty e i size ht hi _ 0 [] hown,hown,ay _ _,fun _=>rfl⟩
  have hr:=run_append_room (P:=P) w t ty e i ht hi q 0 0 #[] hq ad 0 c [] (by simp) hnews h1 (by omega) (by simp)
  have hk:∀k,(w.setRow q (((#[]:Array aj).toList.take (0*i.size)++[]++(#[]:Array aj).toList.drop (0*i.size+([]:List aj).length)).toArray)).heap[k]?=w.heap[k]?:=fun k=>by
   by_cases hkq:k=q
   .subst hkq;rw[setRow_heap w k #[] _ e (0,0) hq,hq];simp
   exact setRow_other w q k _ hkq
  refine⟨_,_,hr,⟨by simp,.inr ⟨q,0,#[],rfl,hbq,(hk q).trans hq,aJ _,iq _,by simp,by simp⟩⟩,⟨rfl,rfl,rfl,by simp,fun k _=>hk k⟩,fun _=>rfl⟩
 rcases ED with⟨_,h0,_⟩|⟨ad,c,rfl,hnews⟩
 .exact absurd h0 hm
 subst hsize;subst hby;have hr:=run_append_grow (P:=P) w t ty e i z ht hi hz ⟨q,0,none⟩ 0 0 [] (by simp) (fun j u hj=>by simp at hj) ad m c news hl hnews (by omega) (by simp only[kW] at h63;omega) (growslice_fits (by omega) (by simpa using hbytes));have hge:=grownCap_ge w (0+m) 0 e;have hcm:grownCap w (0+m) 0 e<=maxLen:=grownCap_le_maxLen w (0+m) 0 e (by omega);simp only[cO] at hr hge hcm;refine⟨_,_,hr,⟨by simpa using hl,.inr ⟨w.heap.size,grownCap w m 0 e,_,rfl,by omega,heap_alloc_new w.drew _,by omega,hcm,?_,?_⟩⟩,?_,fun h=>absurd h hm⟩
 .simp only[Array.size_append,jG,size_zeroCells,hzs,hl,List.length_nil,cO];rw[<-Nat.add_mul]
  congr 1
  omega
 .simp only[Array.toList_append,List.nil_append];rw[show m*i.size=news.length from hl.symm];exact List.take_left
 exact(ay _ _).drew.alloc (aJ _) _
theorem Yields.append_empty(s x:bI)(t:aZ)(ho:o.op=.call { callee:=.builtin .append,args:=#[s,x],argTypes:=#[t,t] })
  (base:Nat) (e:aZ) (i:TypeInfo) (z:aj) (size sA:Nat) (ht:P.underlying t=some (.slice e)) (hi:P.info? e=some i) (hz:i.zero=some z) (hsize:i.size=size) (hby:i.bytes=sA) (hzs:z.cells.size=size) (hsz:0<size)
  (q:Nat) (hs:ev s=.slice (some ⟨q,0,none⟩) 0 0) (hq:w.heap[q]?=some (.cells #[] e (0,0))) (hbq:base<=q) (sv:aj) (m:Nat) (news:List aj) (hx:ev x=sv) (hl:news.length=m*size) (ED:Src w sv m news) (h1:∀u∈news,u.oneCell'=true)
  (h63:m<=kW) (hbytes:m*sA<=140737488355328) (h:∀v' w',w'.ownsRow base e size v' m news->Bw w w'->(m=0->v'=.slice (some ⟨q,0,none⟩) 0 0)->R v' w'):Lag.Yields P o ev w R:=by
 obtain⟨v',w',hr,h2,h3,h4⟩:=AA (P:=P) (w:=w) base t o.type e i z size sA ht hi hz hsize hby hzs hsz q hq hbq sv m news hl ED h1 h63 hbytes;refine F5 (v:=v') (w':=w') ?_ (h v' w' h2 h3 h4);unfold execOp;simp only[ho,resolve,invoke,builtin,qT,Sem.run_pure,jF,List.map_toArray,cP,fW,hs,hx,hr]
end
end Go.Lag
namespace Go.Proofs.YtffladgmkiimjaaGreatDoor
open Go.RowKit Go.Lag
def QF(l:List Mk)(m:Mk):dM (l++[m])=dM l++m.cells.toList:=by simp[dM]
def Reads.src{w:ak}{v:aj}{n:Nat}{xs:List aj}(h:Reads w v n xs):Src w v n xs:=by
 rcases h with⟨h1,h2,h3⟩|⟨g,off,cap,h1,_,_,h4⟩
 .exact cz ⟨h1,h2,h3⟩
 exact .inr ⟨⟨g,off,none⟩,cap,h1,fun j u hj=>by
  have:=h4 j u hj
  cases j<;>simpa [mg] using this⟩
structure Qc(k:Nat)(bk mk:Array aj)(w0:ak)(C:Bool)(w:ak):Prop where
 one:w.heap[k]?=some (au bk 28 (0,0))
 two:w.heap[k+1]?=some (au mk 81 (0,0))
 three:w.heap[k+2]?=some (au mF 28 (0,0))
 four:C=false->w.heap[k+3]?=some (au bk 28 (0,0))
 below:Below k w0 w
 size:k+4<=w.heap.size
section
variable{k:Nat}{bk mk:Array aj}{w0 w1 w2:ak}{C C':Bool}
theorem Qc.next(hC:C'=false->C=false)(h:Qc k bk mk w0 C w1)(hb:Bw w1 w2):Qc k bk mk w0 C' w2:=by
 have hs:=h.size;exact⟨(hb.block _ oM).trans h.one,(hb.block _ oM).trans h.two,(hb.block _ oM).trans h.three,fun e=>(hb.block _ oM).trans (h.four (hC e)),h.below.trans (hb.mono oM),aG hs hb.size⟩
theorem Qc.grown{row:Option Nat}(hC:C'=C)(h:Qc k bk mk w0 C w1)(g:w1.grownBy w2 row)(hr:∀q,row=some q->k+4<=q):Qc k bk mk w0 C' w2:=by
 subst hC;have hs:=h.size;have hn:∀q,q<k+4->some q≠row:=fun q hq e=>by have:=hr q e.symm;omega
 exact⟨(g.block _ oM (hn _ oM)).trans h.one,(g.block _ oM (hn _ oM)).trans h.two,(g.block _ oM (hn _ oM)).trans h.three,fun e=>(g.block _ oM (hn _ oM)).trans (h.four e),h.below.grown g oM (fun q hq=>by have:=hr q hq;omega),aG hs g.size⟩
theorem Qc.put(h:Qc k bk mk w0 C w1)(u:aj)(i:Nat):Qc k bk mk w0 true (w1.setCell ⟨k+3,i,none⟩ u):=by
 have hn:∀q,q≠k+3->(w1.setCell ⟨k+3,i,none⟩ u).heap[q]?=w1.heap[q]?:=fun q hq=>bp _ _ _ _ hq;exact⟨(hn _ oM).trans h.one,(hn _ oM).trans h.two,(hn _ oM).trans h.three,fun e=>(by cases e),h.below.setCell (p:=⟨k+3,i,none⟩) (by show k<=k+3;omega) _,by simpa using h.size⟩
theorem Qc.drew(h:Qc k bk mk w0 C w1):Qc k bk mk w0 C w1.drew:=⟨h.one,h.two,h.three,h.four,h.below.drew,h.size⟩
end
def OQ(b:BB)(bm aH az:aj)(hv:(∃p n c,bm=ae p n c)/\(∃p n c,aH=ae p n c))(ms:List Mk)(hlen:ms.length<=20)(m:Mk)(w:ak)(hk:Reads w az ms.length (dM ms)) :
  a_ aq 88 #[aN (b.cells bm aH az),aN m.cells] w fun e w'=>∃k',e=aU (aN (b.cells bm aH k'))/\Reads w' k' (ms++[m]).length (dM (ms++[m]))/\(∃g,k'.ownBlock=some g/\w.heap.size<=g/\∃cs,w'.heap[g]?=some (au cs 81 (0,0)))/\Bw w w':=by
 obtain⟨i1,Ck,SD,hy1,hy2⟩:=mN Jp;obtain⟨⟨pm,nm,cm,rfl⟩,⟨pn,nn,cn,rfl⟩⟩:=hv;obtain⟨pk,ck,rfl,_⟩:=aR hk;have HL:=ai (p_ ms);have pw:(((w.alloc (au (b.sl pm nm cm pn nn cn pk ms.length ck) 28)).alloc (au m.cells 81)).alloc (au mF 28)).heap.size=w.heap.size+3:=sM;have hb3:Bw w (((w.alloc (au (b.sl pm nm cm pn nn cn pk ms.length ck) 28)).alloc (au m.cells 81)).alloc (au mF 28)):=(cY.alloc sM _).alloc sO _;have h0:(((w.alloc (au (b.sl pm nm cm pn nn cn pk ms.length ck) 28)).alloc (au m.cells 81)).alloc (au mF 28)).heap[w.heap.size]?=some (au (b.sl pm nm cm pn nn cn pk ms.length ck) 28 (0,0)):=(aW _ _ _ sO).trans ((aW _ _ _ sM).trans (ax w _));have h1:(((w.alloc (au (b.sl pm nm cm pn nn cn pk ms.length ck) 28)).alloc (au m.cells 81)).alloc (au mF 28)).heap[w.heap.size+1]?=some (au m.cells 81 (0,0)):=(aW _ _ _ sM).trans (by have:=ax (w.alloc (au (b.sl pm nm cm pn nn cn pk ms.length ck) 28)) (au m.cells 81);simpa using this);have h2:(((w.alloc (au (b.sl pm nm cm pn nn cn pk ms.length ck) 28)).alloc (au m.cells 81)).alloc (au mF 28)).heap[w.heap.size+2]?=some (au mF 28 (0,0)):=by have:=ax ((w.alloc (au (b.sl pm nm cm pn nn cn pk ms.length ck) 28)).alloc (au m.cells 81)) (au mF 28);simpa using this
 have h3:((((w.alloc (au (b.sl pm nm cm pn nn cn pk ms.length ck) 28)).alloc (au m.cells 81)).alloc (au mF 28)).alloc (au (b.sl pm nm cm pn nn cn pk ms.length ck) 28)).heap[w.heap.size+3]?=some (au (b.sl pm nm cm pn nn cn pk ms.length ck) 28 (0,0)):=by have:=ax (((w.alloc (au (b.sl pm nm cm pn nn cn pk ms.length ck) 28)).alloc (au m.cells 81)).alloc (au mF 28)) (au (b.sl pm nm cm pn nn cn pk ms.length ck) 28);rw[pw] at this;exact this
 have HS0:mQ (Qc w.heap.size (b.sl pm nm cm pn nn cn pk ms.length ck) m.cells w false ((((w.alloc (au (b.sl pm nm cm pn nn cn pk ms.length ck) 28)).alloc (au m.cells 81)).alloc (au mF 28)).alloc (au (b.sl pm nm cm pn nn cn pk ms.length ck) 28))):=
  ai ⟨(aW _ _ _ (by rw[pw];omega)).trans h0,(aW _ _ _ (by rw[pw];omega)).trans h1,(aW _ _ _ (by rw[pw];omega)).trans h2,fun _=>h3,hb3.alloc (by rw[pw];omega) _,sM⟩
 have HRk:mQ (∀w9,Bw w w9->Src w9 (ae pk ms.length ck) ms.length (dM ms)):=ai fun w9 h9=>(hk.below h9).src;clear h0 h1 h2 h3 hb3 hk pw
 go_enter Tryz.func88,Tryz.ntmps88
 go_wp2
 refine Ph.cj kQ [
 fun v ds w9=>∃q,v=ae (some ⟨q,0,none⟩) 0 0/\w9.ownsRow (w.heap.size+4) 81 3 v 0 [],
  pV (dB (some ⟨w.heap.size,14,none⟩)),
  pV (ae pk ms.length ck),
  fun v ds w9=>∃p c,v=ae p ms.length c/\w9.ownsRow (w.heap.size+4) 81 3 v ms.length (dM ms)/\(ms.length=0->c=0),
  pV (aN m.cells),
  fun v ds w9=>∃q,v=ae (some ⟨q,0,none⟩) 1 1/\w9.ownsRow (w.heap.size+4) 81 3 v 1 m.cells.toList,
  fun v ds w9=>∃p c,v=ae p (ms.length+1) c/\w9.ownsRow (w.heap.size+4) 81 3 v (ms.length+1) (dM ms++m.cells.toList),
  pV (dB (some ⟨w.heap.size+1+1+1,14,none⟩)),
  fun v ds w9=>∃x,ds[1]?=some x/\w9.heap[w.heap.size+3]?=some (au (b.cells (ae pm nm cm) (ae pn nn cn) x) 28 (0,0))]
  (fun L w9=>Qc w.heap.size (b.sl pm nm cm pn nn cn pk ms.length ck) m.cells w (L 8) w9) [(2,dB (some ⟨w.heap.size,0,none⟩)),(3,dB (some ⟨w.heap.size+1,0,none⟩)),(5,dB (some ⟨w.heap.size+1+1+1,0,none⟩))] kQ ?rst (fun L L2 w1 w2 SN h hb=>h.next (SN 8) hb) (HS0.out.drew) ⟨rfl,rfl,rfl,trivial⟩ ?reach ?rfin
 case rst=>
  refine⟨?_,Ph.sV,Ph.sV,?_,Ph.sV,?_,?_,Ph.sV,?_,trivial⟩
  .rintro v ds L w1 w2 hS ⟨q,h1,h2⟩ hb;exact⟨q,h1,dW h2 hb⟩
  .rintro v ds L w1 w2 hS ⟨p,c,h1,h2,h3⟩ hb;exact⟨p,c,h1,dW h2 hb,h3⟩
  .rintro v ds L w1 w2 hS ⟨q,h1,h2⟩ hb;exact⟨q,h1,dW h2 hb⟩
  .rintro v ds L w1 w2 hS ⟨p,c,h1,h2⟩ hb;exact⟨p,c,h1,dW h2 hb⟩
  rintro v ds L w1 w2 hS ⟨x,h1,h2⟩ hb;exact⟨x,h1,(hb.block _ (ah.1 h2).1).trans h2⟩
 case reach=>
  refine⟨?_,?_,?_,?_,?_,?_,?_,?_,?_,trivial⟩<;>rintro Lf ev w1 hn xr hS hc hg hf ⟨b2,b3,b5,-⟩ hd
  .have hs4:=hS.size;refine F5 (v:=ae (some ⟨w1.heap.size,0,none⟩) 0 0) (w':=w1.alloc (au #[] 81)) ?_ ⟨⟨_,rfl,⟨sM,.inr ⟨w1.heap.size,0,#[],rfl,hs4,ax _ _,aJ _,iq _,sM,sM⟩⟩⟩,cz cY⟩;go_simp
  .exact Ph.tV
  .have d1:ev (aI 8)=_:=hd.1 rfl;have c14:=aK hS.one 14 (ae pk ms.length ck) rfl;exact Ph.tV
  .have d0:∃q,(ev (aI 7))=ae (some ⟨q,0,none⟩) 0 0/\w1.ownsRow (w.heap.size+4) 81 3 (ev (aI 7)) 0 []:=hd.1 rfl;have d2:ev (aI 9)=_:=hd.2.1 rfl;obtain⟨q,e7,hq⟩:=d0;rw[e7] at hq;obtain⟨g,c,cur,h1,h2,h3,_,_,h4,_⟩:=hq.2.resolve_left sM;cases h1;obtain rfl:cur = #[]:=Array.eq_empty_of_size_eq_zero (by simpa using h4);refine Lag.Yields.append_empty (aI 7) (aI 9) 26 rfl (w.heap.size+4) 81 i1 (aN #[ag af 0,ag af 0,ag af 0]) 3 24 Bz Ck SD hy1 hy2 rfl dC q e7 h3 h2 (ae pk ms.length ck) ms.length (dM ms) d2 (by have:=HL.out;omega) (HRk.out w1 hS.below) (Ho ms) (by unfold kW;omega) oM ?_;intro v' w' hown' hb' hz;obtain⟨p',c',rfl⟩:=dV hown';exact⟨⟨p',c',rfl,hown',fun h0=>by have:=hz h0;simp at this;exact this.2.2⟩,cz hb'⟩
  .have q:w1.heap[w.heap.size+1]?=some (au m.cells 81 (0,0)):=hS.two;refine Lag.Yields.zw 81 _ rfl _ b3 81 _ (0,0) _ q Tryz.underlying81 rfl kQ ⟨rfl,cz (ay _ _)⟩
  .have d4:ev (aI 11)=_:=hd.1 rfl;have hs4:=hS.size;refine F5 (v:=ae (some ⟨w1.heap.size,0,none⟩) 1 1) (w':=w1.alloc (au m.cells 81)) ?_ ⟨⟨_,rfl,World.ownsRow_lit w1 m.cells 1 hs4 (by unfold kW;omega) rfl⟩,cz cY⟩;go_simp
  .have d3:∃p c,(ev (aI 10))=ae p ms.length c/\w1.ownsRow (w.heap.size+4) 81 3 (ev (aI 10)) ms.length (dM ms)/\(ms.length=0->c=0):=hd.1 rfl;have d5:∃q,(ev (aI 12))=ae (some ⟨q,0,none⟩) 1 1/\w1.ownsRow (w.heap.size+4) 81 3 (ev (aI 12)) 1 m.cells.toList:=hd.2.1 rfl;obtain⟨p,c,Oj,hown,hz⟩:=d3;obtain⟨q,Y7,hq⟩:=d5;have Ri:=HL.out;rw[Oj] at hown;have hown1:=hq;rw[Y7] at hq;obtain⟨g,c2,cur,h1,h2,h3,_,_,h4,h5⟩:=hq.2.resolve_left sM;cases h1
   have ahp:cur=m.cells:=by
    apply Array.ext';have h6:cur.toList.length=3:=by simpa using h4
    rw[cU oM] at h5;exact h5
   subst ahp;refine Lag.Yields.OG (aI 10) (aI 12) 26 rfl (w.heap.size+4) 81 i1 (aN #[ag af 0,ag af 0,ag af 0]) 3 24 Bz Ck SD hy1 hy2 rfl dC (ae p ms.length c) ms.length (dM ms) Oj hown (ae (some ⟨q,0,none⟩) 1 1) 1 m.cells.toList Y7 rfl (.inr ⟨_,_,rfl,?_⟩) (by simp[bK]) (by unfold kW;omega) oM hS.size ?_
   .intro n u hn;have h5:=aK h3 n u (by simpa using hn);have e:(⟨q,0,none⟩:cJ).add n=⟨q,n,none⟩:=by cases n<;>simp[mg]
    rw[e];exact h5
   intro v' w' hown' hgrow kK;obtain⟨p',c',rfl⟩:=dV hown';refine⟨⟨p',c',rfl,hown'⟩,.inr ⟨hS.grown (by simp[Ph.upd]) hgrow (fun q hq=>(hown.lt q hq).1),?_⟩⟩;intro t u ds hj hL hp
   match t,hp with
   |0,⟨q2,h1,h2⟩=>exact⟨q2,h1,kK (iq _) h2⟩
   |1,hp|2,hp=>exact hp
   |3,⟨p2,c2,h1,h2,h3⟩=>exact⟨p2,c2,h1,kK (aJ _) h2,h3⟩
   |4,hp=>exact hp
   |5,⟨q2,h1,h2⟩=>
    refine⟨q2,h1,?_⟩
    by_cases h0:ms.length=0
    .have hc:=hz h0;refine fV h2 fun g2 hg2=>hgrow.block g2 (h2.lt g2 hg2).2 fun EM=>?_;rw[h1] at h2;obtain⟨g3,c3,anj,k1,_,k3,_,_,k4,_⟩:=h2.2.resolve_left sM;cases k1;have e2:q2=g2:=by rw[h1] at hg2;exact a7 hg2
     subst e2;rcases hown.2 with⟨k5,_⟩|⟨g4,c4,ani,k5,_,k6,_,_,k7,_⟩
     .rw[k5] at EM;cases EM
     cases k5;have e4:q2=g4:=a7 EM;subst e4;rw[k3] at k6;cases k6;omega
    exact kK oM h2
   |6,_=>exact(hj rfl).elim
   |7,hp=>exact hp
   |8,_=>rw[hn 8 kQ] at hL;cases hL
   |t+9,_=>trivial
  .exact Ph.tV
  have d7:ev (aI 14)=_:=hd.1 rfl;have d6:∃p c,(ev (aI 13))=ae p (ms.length+1) c/\w1.ownsRow (w.heap.size+4) 81 3 (ev (aI 13)) (ms.length+1) (dM ms++m.cells.toList):=hd.2.1 rfl;obtain⟨p,c,h1,h2⟩:=d6;have zE:w1.heap[w.heap.size+1+1+1]?=some (au (b.sl pm nm cm pn nn cn pk ms.length ck) 28 (0,0)):=hS.four xr;have c1:=aK zE 14 (ae pk ms.length ck) rfl;have f1:=cQ zE 14;refine yva (w':=w1.setCell ⟨w.heap.size+1+1+1,14,none⟩ (ev (aI 13))) ?_ ⟨⟨_,rfl,cX _ zE⟩,.inr ⟨(hS.put (ev (aI 13)) 14),?_⟩⟩
  .rw[h1];go_simp
  .intro t u ds hj hL hp
   match t,hp with
   |0,⟨q2,g1,g2⟩=>exact⟨q2,g1,dt g2 zE dC⟩
   |1,hp|2,hp=>exact hp
   |3,⟨p2,c2,g1,g2,g3⟩=>exact⟨p2,c2,g1,dt g2 zE dC,g3⟩
   |4,hp=>exact hp
   |5,⟨q2,g1,g2⟩=>exact⟨q2,g1,dt g2 zE dC⟩
   |6,⟨p2,c2,g1,g2⟩=>exact⟨p2,c2,g1,dt g2 zE dC⟩
   |7,hp=>exact hp
   |8,_=>exact(hj rfl).elim
   |t+9,_=>trivial
 case rfin=>
  intro a3 w3 hR;have hS:=hR.s;have e6:∃p c,(a3.tmps.getD 13 ar)=ae p (ms.length+1) c/\w3.ownsRow (w.heap.size+4) 81 3 (a3.tmps.getD 13 ar) (ms.length+1) (dM ms++m.cells.toList):=hR.val 6;have e8:∃x,([a3.tmps.getD 14 ar,a3.tmps.getD 13 ar,a3.tmps.getD 13 ar,a3.tmps.getD 7 ar,a3.tmps.getD 8 ar,a3.tmps.getD 9 ar,a3.tmps.getD 10 ar,a3.tmps.getD 11 ar,a3.tmps.getD 12 ar,a3.tmps.getD 13 ar]:List aj)[1]?=some x/\w3.heap[w.heap.size+3]?=some (au (b.cells (ae pm nm cm) (ae pn nn cn) x) 28 (0,0)):=hR.val 8;have k4:a3.tmps.getD 4 ar=dB (some ⟨w.heap.size+1+1,0,none⟩):=hR.kept kQ;have k5:a3.tmps.getD 5 ar=dB (some ⟨w.heap.size+1+1+1,0,none⟩):=hR.kept kQ;have ha:=hR.lits 16 rfl;simp only[aQ,cg,nQ] at ha;clear hR;obtain⟨x,ex,zE⟩:=e8;have ex2:a3.tmps.getD 13 ar=x:=a7 ex;obtain⟨p13,c13,Ma,aag⟩:=e6;rw[Ma] at ex2 aag;subst ex2;rw[k4,k5] at ha;generalize a3.tmps.getD=zz at ha;have HOb:mQ (w3.heap[w.heap.size+1+1+1]?=some (au (b.sl pm nm cm pn nn cn p13 (ms.length+1) c13) 28 (0,0))):=ai zE;have HZ:mQ (w3.heap[w.heap.size+1+1]?=some (au mF 28 (0,0))):=ai hS.three;have HB:=ai hS.below;have MK:=ai aag;clear Ma ex zE aag hS k4 k5;subst ha
  go_wp2_with (first
   |(refine oC rfl 28 _ rfl _ rfl 28 _ (0,0) _ HOb.out bL rfl kQ ?_)
   |(refine gH rfl 28 _ _ rfl _ _ rfl rfl 28 _ HZ.out kQ rfl (by simp[bK]) ?_))
  have ho:(w3.setRow (w.heap.size+1+1) (b.sl pm nm cm pn nn cn p13 (ms.length+1) c13)).ownsRow (w.heap.size+4) 81 3 (ae p13 (ms.length+1) c13) (ms.length+1) (dM ms++m.cells.toList):=fV MK.out fun g hg=>setRow_other (by have:=(MK.out.lt g hg).1;omega);refine a8 (results_cell_row rfl _ _ (w.heap.size+1+1) 28 _ (0,0) _ rfl (bX HZ.out) bL rfl kQ) rfl ⟨_,rfl,?_,?_,cS HB.out oM⟩
  .rw[QF];exact Reads.jL ho sO (by have:=HL.out;simp;omega)
  obtain⟨g,cap,cur,h1,h2,h3,_⟩:=ho.2.resolve_left sM;exact⟨g,by rw[h1];rfl,oM,cur,h3⟩
def rT(ml:List Mn)(i:Nat)(x y:Int):List Mn:=ml.modify i fun m=>⟨m.name,x,y⟩
def nw(ml:List Mn)(i:Nat)(x y:Int):(rT ml i x y).length=ml.length:=by simp[rT]
def Td(ml:List Mn)(i:Nat)(hi:i<ml.length)(x y:Int)(j:Nat)(u:aj)(h:(eA (rT ml i x y))[j]?=some u) :
  (j=3*i+1/\u=ag af x)\/(j=3*i+2/\u=ag af y)\/(j≠3*i+1/\j≠3*i+2/\(eA ml)[j]?=some u):=by
 have hj:j<(eA (rT ml i x y)).length:=(List.getElem?_eq_some_iff.1 h).1;rw[pZ,nw] at hj;have hk:j / 3<ml.length:=oM;have e:j=3*(j / 3)+j % 3:=oM;have hk2:j / 3<(rT ml i x y).length:=by rw[nw];exact hk
 rw[e,iF _ _ _ hk2 oM] at h
 by_cases ye:j / 3=i
 .have h3:(rT ml i x y)[j / 3]=⟨(ml[j / 3]).name,x,y⟩:=by simp[rT,List.getElem_modify,ye]
  rw[h3] at h;have h5:j % 3=0\/j % 3=1\/j % 3=2:=oM;rcases h5 with h5|h5|h5
  .refine .inr (.inr ⟨oM,oM,?_⟩);rw[e,iF _ _ _ hk oM,h5];rw[h5] at h;simpa [Mn.cells] using h
  .rw[h5] at h;refine cz ⟨oM,?_⟩;simpa [Mn.cells,eq_comm] using h
  rw[h5] at h;refine .inr (cz ⟨oM,?_⟩);simpa [Mn.cells,eq_comm] using h
 have h3:(rT ml i x y)[j / 3]=ml[j / 3]:=by simp[rT,List.getElem_modify,Ne.symm ye]
 rw[h3] at h;refine .inr (.inr ⟨oM,oM,?_⟩);rw[e,iF _ _ _ hk oM];exact h
def R7(w:ak)(B o:Nat)(vs:List aj):SA B w (w.setCells B o vs):=by
 induction vs generalizing o w with
 |nil=>exact⟨rfl,rfl,rfl,rfl,fun _ _=>rfl⟩
 |cons v r ih=>
  have h:=ih (w.setCell ⟨B,o,none⟩ v) (o+1);exact⟨h.os,h.tape,h.output,h.size.trans sM,fun k hk=>(h.block k hk).trans (bp w ⟨B,o,none⟩ v k hk)⟩
def Yields.Qr{P:Program}{o:Oper}{ev:bI->aj}{w:ak}{R:aj->ak->Prop}(ty:aZ)(x y:bI)(ho:o.op=.store ty x y)(g f:Nat)(cells:Array aj)(hx:ev x=pv g f)(hy:ev y=aN cells)
  (ht:w.there g f cells.size) (hi:(P.info? ty).map (·.size)=some cells.size) (h1:cells.all (·.oneCell')=true) (h:R ar (w.setCells g f cells.toList)):Lag.Yields P o ev w R:=by
 refine yva (w':=w.setCells g f cells.toList) ?_ h;unfold execOp;simp only[ho,hx,hy,Instr.storeAt,Instr.sureAddr,qT,Sem.run_pure,jF,run_storeVar_mid w g f ty cells ht hi h1]
def Oa(b:BB)(p1 p2 p3:Option cJ)(n1 c1 n2 c2 n3 c3:Nat)(hbig:20<n1\/20<n2\/20<n3)(w:ak):a_ aq 18 #[aN (b.sl p1 n1 c1 p2 n2 c2 p3 n3 c3)] w (Rt w (aA true)):=by
 refine jV Tryz.func18 rfl rfl [(0,aN (b.sl p1 n1 c1 p2 n2 c2 p3 n3 c3))] ⟨iL rfl,trivial⟩ fun a W hF hw=>?_;refine iU (N:=2) rfl ?_;refine jd ⟨[],[],[],[]⟩ (some 1) (fun B=>pv B 0) (b.sl p1 n1 c1 p2 n2 c2 p3 n3 c3) 28 hF hF ?_;intro B1 W a G1 ho K1 hF;have aa7:=aG hw.size G1;replace hw:=hw.tr ho;rename ak=>W1;have h1:=ay W1.heap.size W1;refine dY 1 1 0 [(2,aA false)] hF ?_;intro a W ho hF;replace h1:=h1.tr ho;refine jf ?_;refine wp_seq ?_;refine rK ⟨[],[],[(B1,(b.sl p1 n1 c1 p2 n2 c2 p3 n3 c3))],[]⟩ [(19,aA (((decide ((n1:Int)>20))||(decide ((n2:Int)>20)))||(decide ((n3:Int)>20))))] hF hF ⟨fun w1 hS=>⟨_,_,aw K1 (h1.tr hS)⟩,trivial⟩ trivial ?_;intro a W ho hF;replace h1:=h1.tr ho;refine cF (t:=(((decide ((n1:Int)>20))||(decide ((n2:Int)>20)))||(decide ((n3:Int)>20)))) (hF.g 0 rfl) (fun N6=>?_) (fun N6=>?_)
 .replace hF:=hF.tl;replace hF:=hF.tl;refine fD [(2,aA true)] hF ?_;intro a W ho hF;replace h1:=h1.tr ho;refine wp_ret ?_;exact a8 (bR rfl _ _ _) hF.defers ⟨congrArg bw (hF.g 0 rfl),(hw.tr h1)⟩
 replace hF:=hF.tl;exfalso;simp at N6;omega
def UX(b:BB)(p1 p2 p3:Option cJ)(n1 c1 n2 c2 n3 c3:Nat)(hbig:20<n1\/20<n2\/20<n3)(w:ak):a_ aq 29 #[aN (b.sl p1 n1 c1 p2 n2 c2 p3 n3 c3)] w (Rt w (aA false)):=by
 refine jV Tryz.func29 rfl rfl [(0,aN (b.sl p1 n1 c1 p2 n2 c2 p3 n3 c3))] ⟨iL rfl,trivial⟩ fun a W hF hw=>?_;refine iU (N:=2) rfl ?_;refine jd ⟨[],[],[],[]⟩ (some 1) (fun B=>pv B 0) (b.sl p1 n1 c1 p2 n2 c2 p3 n3 c3) 28 hF hF ?_;intro B1 W a G1 ho K1 hF;have aa7:=aG hw.size G1;replace hw:=hw.tr ho;rename ak=>W1;have h1:=ay W1.heap.size W1;refine dY 1 1 0 [(2,aA false)] hF ?_;intro a W ho hF;replace h1:=h1.tr ho;refine jf ?_;replace hF:=hF.tl;refine rK ⟨[(6,false)],[(1,aA true)],[(B1,(b.sl p1 n1 c1 p2 n2 c2 p3 n3 c3))],[]⟩ [(2,aA false)] hF hF ⟨fun w1 hS=>⟨_,_,aw K1 (h1.tr hS)⟩,trivial⟩ ⟨fun w1 hS _=>gc (Oa b p1 p2 p3 n1 c1 n2 c2 n3 c3 hbig w1),trivial⟩ ?_;intro a W ho hF;replace h1:=h1.tr ho;refine wp_ret ?_;exact a8 (bR rfl _ _ _) hF.defers ⟨congrArg bw (hF.g 0 rfl),(hw.tr h1)⟩
structure akM(W:ak)(p:Option cJ)(n c:Nat)(pk:Nat->Nat):Prop where
 lt:∀k,pk k<65536
 out:∀k,n<=k->pk k=0
 at_:∀k,k<n->∃g off,p=some ⟨g,off,none⟩/\g<W.heap.size/\W.cell? ⟨g,off+k,none⟩=some (ag .u16 (pk k:Int))
def UA(p:Option cJ)(c:Nat)(xs:List Int)(hl:xs.length<=20)(v:Int)(w:ak)(hx:Reads w (ae p xs.length c) xs.length (xs.map (aD af))):a_ aq 34 #[ae p xs.length c,ag af v] w (Rt w (aA (decide (v∈xs)))):=by
 refine jV Tryz.func34 rfl rfl [(1,ag af v),(0,ae p xs.length c)] ⟨iL rfl,iL rfl,trivial⟩ fun a W hF hw=>?_;refine fD [(4,aA false)] hF ?_;intro a W ho hF;replace hw:=hw.tr ho;refine wp_seq ?_;refine fD [(5,ag af 0)] hF ?_;intro a W ho hF;replace hw:=hw.tr ho;refine wp_block ?_;rename ak=>WQ;have hQ:=ay WQ.heap.size WQ;refine wp_loop (fun a W=>∃k:Nat,(k<=xs.length/\v ∉ xs.take k)/\ik 18 a [(5,ag af (k:Int)),(4,aA false),(1,ag af v),(0,ae p xs.length c)]/\Bw WQ W) (fun a _=>xs.length-(intOf (a.eval (aI 5))).toNat) ⟨0,⟨iq _,sM⟩,⟨hF.size,hF.defers,hF.base⟩,hQ⟩ ?_;clear hF hQ;rintro a W ⟨k,⟨hkL,hno⟩,hF,hQ⟩;have rE:a.eval (aI 5)=ag af (k:Int):=(hF.g 0 rfl)
 refine wp_seq ?_;refine fD [(9,aA (decide ((k:Int)<(xs.length:Int))))] hF ?_;intro a W ho hF;replace hQ:=hQ.tr ho;refine cF (t:=(decide ((k:Int)<(xs.length:Int)))) (hF.g 0 rfl) (fun Rs=>?_) (fun Rs=>?_)
 .replace hF:=hF.tl;have hlt:k<xs.length:=by simpa using Rs
  obtain⟨x,NQ⟩:∃x,xs[k]=x:=⟨_,rfl⟩
  obtain⟨g,off,rfl,hcell⟩:∃g off,p=some ⟨g,off,none⟩/\∀w9,Bw w w9->w9.cell? ⟨g,off+k,none⟩=some (ag af x):=by
   rcases hx with⟨_,h0,_⟩|⟨g,off,cap,h0,_,hg,h4⟩
   .omega
   cases h0;exact⟨g,off,rfl,fun w9 h9=>(h9.cell (p:=⟨g,off+k,none⟩) hg).trans (h4 k _ (by rw[List.getElem?_map,List.getElem?_eq_getElem hlt,NQ];rfl))⟩
  refine wp_skip ?_;refine wp_seq ?_;refine wp_block ?_;refine rK ⟨[],[(2,pv g (off+k)),(3,ag af x)],[],[]⟩ [(17,aA (x==v))] hF hF trivial ⟨fun w1 hS _=>gs (Instr.indexAt 25 (ae (some ⟨g,off,none⟩) xs.length c) (ag af (k:Int))) (by have Ck:¬(xs.length<=k):=(by omega);go_simp),fun w1 hS _=>gl (hcell w1 (hw.tr (hQ.tr hS))),trivial⟩ ?_;intro a W ho hF;replace hQ:=hQ.tr ho;refine cF (t:=(x==v)) (hF.g 0 rfl) (fun JE=>?_) (fun JE=>?_)
  .replace hF:=hF.tl;have hd:decide (v∈xs)=true:=by simp at JE;rw[decide_eq_true_eq,<-JE,<-NQ];exact bG hlt
   replace hF:=hF.del 4;simp only[jn,fo,bq,reduceIte] at hF;refine fD [(4,aA true)] hF ?_;intro a W ho hF;replace hQ:=hQ.tr ho;refine wp_ret ?_;exact a8 (bR rfl _ _ _) hF.defers ⟨congrArg bw ((show a.eval (aI 4)=_ from(hF.g 0 rfl)).trans (by rw[hd])),(hw.tr hQ)⟩
  replace hF:=hF.tl;refine wp_skip ?_;have qF:=hF;replace hF:=hF.tl;refine M6 ⟨[],[(1,ag af ((k:Int)+1))],[],[]⟩ [(5,ag af ((k:Int)+1))] qF hF trivial ⟨fun w1 hS _=>ge (congrArg (aD af) (show IntKind.i64.wrap ((k:Int)+1)=((k:Int)+1) by rw[IntKind.wrap_i64];omega)),trivial⟩ ?_;intro a W ho hF;clear qF;replace hQ:=hQ.tr ho;refine⟨⟨k+1,⟨oM,?_⟩,⟨hF.size,hF.defers,hF.base⟩,hQ⟩,?_⟩
  .rw[bV hlt,bJ,NQ];simp at JE;simp only[kh];rintro(h|h);exact hno h;exact JE h.symm
  rw[show a.eval (aI 5)=ag af ((k:Int)+1) from(hF.g 0 rfl)];simp only[rE];simp[intOf];omega
 replace hF:=hF.tl;refine wp_exit ?_
 have hd:decide (v∈xs)=false:=by
  rw[decide_eq_false_iff_not];have:k=xs.length:=by simp at Rs;omega
  rwa [this,List.take_length] at hno
 replace hF:=hF.del 4;simp only[jn,fo,bq,reduceIte] at hF;refine fD [(4,aA false)] hF ?_;intro a W ho hF;replace hQ:=hQ.tr ho;refine wp_ret ?_;exact a8 (bR rfl _ _ _) hF.defers ⟨congrArg bw ((show a.eval (aI 4)=_ from(hF.g 0 rfl)).trans (by rw[hd])),(hw.tr hQ)⟩
def agd(n:Int)(h:0<=n/\n<=99)(w:ak):a_ aq 167 #[ag af n] w fun e w'=>e=aU (aA false)/\w=w':=by
 go_enter Tryz.func167,Tryz.ntmps167
 go_wp2_with (go_at_call 138;refine(je _ _ _ oM oM _).mono ?_;rintro e w' ⟨rfl,rfl⟩)
 go_ret
 exact⟨rfl,rfl⟩
def Xh(xs:List Int)(MU:∀x∈xs,0<=x/\x<=99)(v:aj)(w:ak)(hv:Reads w v xs.length (xs.map (aD af))) :
  a_ aq 170 #[v,.func (.func 167) #[] #[]] w fun e w'=>e=aU (ag af (-1))/\w=w':=by
 rcases hv with⟨rfl,hn,hx0⟩|⟨g,off,cap,rfl,hn,hg,hc⟩
 .obtain rfl:xs=[]:=by simpa using hx0
  clear hx0 hn
  go_enter Tryz.func170,Tryz.ntmps170
  go_wp2
  go_loopw [8] (fun i wr=>i=ag af 0/\wr=w) (fun _ _=>0)
  case atStart=>exact⟨rfl,rfl⟩
  case round=>
   obtain⟨rfl,rfl⟩:=hrel;go_wp2
   go_ret
   exact⟨rfl,rfl⟩
 have HC:=ai hc;clear hc;generalize hL:xs.length=L at *;have HL:=ai hL;clear hL
 go_enter Tryz.func170,Tryz.ntmps170
 go_wp2
 go_loopw [5,8] (fun _ i wr=>∃k:Nat,k<=L/\i=ag af k/\wr=w) (fun _ i _=>L-(intOf i).toNat)
 case atStart=>exact⟨0,oM,rfl,rfl⟩
 case round=>
  obtain⟨k,hk,rfl,rfl⟩:=hrel
  by_cases hlt:k<L
  .have jT:k<xs.length:=by rw[HL.out];exact hlt
   have hcell:wr.cell? ⟨g,off+k,none⟩=some (ag af xs[k]):=HC.out k _ (by simp[jT]);have hx:=MU xs[k] (bG jT);generalize xs[k]=x at *;clear MU
   go_wp2_with (go_at_call 167;refine(agd x hx _).mono ?_;rintro e w2 ⟨rfl,rfl⟩)
   go_roundw
   case rel=>exact⟨k+1,oM,sM⟩
   case measure=>(simp[intOf];try omega)
  obtain rfl:k=L:=oM;clear MU;go_wp2
  go_ret
  exact⟨rfl,rfl⟩
def Ol(xs:List Int)(MU:∀x∈xs,0<=x/\x<=99)(v:aj)(w:ak)(hv:Reads w v xs.length (xs.map (aD af))) :
  a_ aq 166 #[v,.func (.func 167) #[] #[]] w fun e w'=>e=aU (aA false)/\w=w':=by
 have H:=ai (Xh xs MU v w hv);clear MU hv
 go_enter Tryz.func166,Tryz.ntmps166
 go_wp2_with (go_at_call 170;refine H.out.mono ?_;rintro e w2 ⟨rfl,rfl⟩)
 go_ret
 exact⟨rfl,rfl⟩
def pG(lk:Int)(br:List Int):dS:=⟨lk,br.getD 0 0,br.getD 1 0,br.getD 2 0⟩
def MD(lk:Int):∀(br:List Int),br.length<=3->
  ((#[aD af lk,ag af 0,ag af 0,ag af 0]:Array aj).toList.take 1++br.map (aD af)++(#[aD af lk,ag af 0,ag af 0,ag af 0]:Array aj).toList.drop (1+(br.map (aD af)).length)).toArray=(pG lk br).cells
 |[],_=>rfl
 |[_],_=>rfl
 |[_,_],_=>rfl
 |[_,_,_],_=>rfl
 |_::_::_::_::_,h=>by simp at h
def LL(b:BB)(bm aH az:aj)(ml:List Mn)(NU:ml.length<=3)(lk:Int)(h0:0<=lk/\lk<=99)(br:List Int)(hbr:∀x∈br,0<=x/\x<=99)(hl:br.length=ml.length)(g off cap:Nat)(w:ak)(hm:Reads w bm ml.length (eA ml))
  (hg:g<w.heap.size) (LG:br.length<=cap) (hcc:∀j u,(br.map (aD af))[j]?=some u->w.cell? ⟨g,off+j,none⟩=some u) :
  a_ aq 112 #[aN (b.cells bm aH az),aN #[ag af lk,ae (some ⟨g,off,none⟩) br.length cap]] w (Rt w (bB #[aN (pG lk br).cells,ag af 0])):=by
 have hv:Reads w (ae (some ⟨g,off,none⟩) br.length cap) br.length (br.map (aD af)):=.inr ⟨g,off,cap,rfl,⟨oM,LG⟩,hg,hcc⟩;have hb3:Bw w (((w.alloc (au (b.cells bm aH az) 119)).alloc (au #[ag af lk,ae (some ⟨g,off,none⟩) br.length cap] 42)).alloc (au #[ag af 0,ag af 0,ag af 0,ag af 0] 134)):=(((ay _ w).alloc (aJ _) _).alloc sM _).alloc sO _;obtain⟨pm,cm,rfl,_⟩:=aR hm;have MN:=ai (Ol br hbr _ _ (hv.below hb3));have hb8:=((((ay _ w).alloc (aJ _) (au (b.cells (ae pm ml.length cm) aH az) 119)).alloc sM (au #[ag af lk,ae (some ⟨g,off,none⟩) br.length cap] 42)).alloc sO (au #[ag af lk,ag af 0,ag af 0,ag af 0] 134)).drew
 have hr8:((((w.alloc (au (b.cells (ae pm ml.length cm) aH az) 119)).alloc (au #[ag af lk,ae (some ⟨g,off,none⟩) br.length cap] 42)).alloc (au #[ag af lk,ag af 0,ag af 0,ag af 0] 134)).drew).heap[w.heap.size+1+1]?=some (au #[ag af lk,ag af 0,ag af 0,ag af 0] 134 (0,0)):=
  (oG w (b.cells (ae pm ml.length cm) aH az) #[ag af lk,ae (some ⟨g,off,none⟩) br.length cap] #[ag af lk,ag af 0,ag af 0,ag af 0] 119 42 134).2.2
 have wE:=run_copy_row (P:=aq) _ 25 25 3 3 (w.heap.size+1+1) 1 3 3 ⟨g,off,none⟩ br.length cap _ 134 (br.map (aD af)) gO kQ hr8 (by rw[fM];exact(Nat.min_eq_left oM).symm)
  (fun j u hj=>by
   have h1:=(hb8.cell (p:=⟨g,off+j,none⟩) hg).trans (hcc j u hj);have e:(⟨g,off,none⟩:cJ).add j=⟨g,off+j,none⟩:=by cases j<;>simp[mg]
   rw[e];exact h1) (by simp;try omega) (by intro u hu;simp at hu;obtain⟨x,_,rfl⟩:=hu;rfl)
 rw[MD lk br oM] at wE;have HR:mQ ((((((w.alloc (au (b.cells (ae pm ml.length cm) aH az) 119)).alloc (au #[ag af lk,ae (some ⟨g,off,none⟩) br.length cap] 42)).alloc (au #[ag af lk,ag af 0,ag af 0,ag af 0] 134)).drew).setRow (w.heap.size+1+1) (pG lk br).cells).heap[w.heap.size+1+1]?=some (au (pG lk br).cells 134 (0,0))):=ai (bX hr8);have HB:=ai hb8;have hbl:(br.map (aD af)).length=br.length:=fM _;rw[hbl] at wE;clear hb3 hcc hv hm hr8 hb8 hbl hbr;rw[<-hl] at *;generalize br.length=L at *;generalize pG lk br=A at *;have z1:IntKind.i64.wrap (L:Int)=L:=fC _ oM oM
 go_enter Tryz.func112,Tryz.ntmps112
 go_wp2_with (first
  |(go_at_call 138;refine(je _ _ _ oM oM _).mono ?_;rintro e w' ⟨rfl,rfl⟩)
  |(go_at_call 166;refine MN.out.mono ?_;rintro e w' ⟨rfl,rfl⟩))
 go_region
 all_goals
  go_wp2_with (first
   |(refine oC rfl 134 _ rfl _ rfl 134 _ (0,0) _ HR.out Tryz.underlying134 rfl kQ ?_)
   |(refine gH rfl 134 _ _ rfl _ _ rfl rfl 134 _ HR.out kQ rfl (by simp[bK]) ?_))
  refine a8 (results_cell_tmp (g:=w.heap.size+1+1) rfl rfl (eF _ _ 134 134 _ (0,0) _ (bX HR.out) Tryz.underlying134 rfl kQ)) rfl ⟨rfl,?_⟩;exact cS (cS HB.out oM) oM
def Df(b:BB)(bm aH az:aj)(ml:List Mn)(ss:List Int)(ms:List Mk)(w:ak)(hL:Laid w)(hB:bW b bm aH az ml ss ms w)(hne:aT b ml ss ms≠[])(cp:Nat)
  (hown:∀W,Bw w W->a_ aq 164 #[aN (b.cells bm aH az),pv cp 0] W fun e W'=>e=aU (ag af 0)/\Bw W W') :
  a_ aq 103 #[aN (b.cells bm aH az),.func (.func 164) #[] #[pv cp 0]] w fun e w'=>∃v,e=aU (bB #[aN (b.open bm aH az v),ag af 0])/\ie w' w.heap.size v (aT b ml ss ms)/\Bw w w':=by
 have ql:mQ (∀W,Bw w W->a_ aq 71 #[aN (b.cells bm aH az)] W fun e w'=>e=aU (ag af 0)/\Bw W w'):=ai fun W hb=>dI b bm aH az ml ss ms W (hL.below hb) (hB.below hb);have MO:mQ (∀W,Bw w W->a_ aq 116 #[.func (.func 117) #[aN (b.cells bm aH az)] #[]] W fun e w'=>∃v,e=aU v/\ie w' W.heap.size v (aT b ml ss ms)/\Bw W w'):=ai fun W hb=>lQ b bm aH az ml ss ms W (hB.below hb);have MK:=ai hown;obtain⟨pm,cm,rfl,_⟩:=aR hB.rm;obtain⟨pn,cn,rfl,_⟩:=aR hB.rs;obtain⟨pk,ck,rfl,_⟩:=aR hB.rk;have jS:0<(aT b ml ss ms).length:=cB.2 hne;clear hL hB hne hown;generalize aT b ml ss ms=all at *;generalize ml.length=lm at *;generalize ss.length=ln at *;generalize ms.length=lk at *;have b0:Bw w ((w.alloc (au (b.sl pm lm cm pn ln cn pk lk ck) 28)).alloc (au eO 122)):=cY.alloc sM _;have HT:mQ (Two w (b.sl pm lm cm pn ln cn pk lk ck) 28 eO 122 ((w.alloc (au (b.sl pm lm cm pn ln cn pk lk ck) 28)).alloc (au eO 122))):=ai ⟨(Two.mk' w _ _ _ _).one,(Two.mk' w _ _ _ _).two,b0,sM⟩;have Iq:=ai b0;clear b0
 go_enter Tryz.func103,Tryz.ntmps103
 go_wp2_with (first
  |(refine oC rfl 122 _ rfl _ rfl 122 _ (0,0) _ HL7.out fS rfl kQ ?_)
  |(refine gH rfl 122 _ _ rfl _ _ rfl rfl 122 _ OV.out kQ rfl (by simp[bK]) ?_)
  |(go_at_call 71;refine(ql.out _ Iq.out).mono ?_;clear ql;rintro e w1 ⟨rfl,hb1⟩
    have sw:=HT.out.next hb1;have o7:=ai sw
    obtain⟨x0,x1,x2,x3,x4,x5,x6,x7,x8,x9,qo,qm,rj,qX,q7⟩:=bU sw.one
    clear sw hb1)
  |(go_at_call 164;refine(MK.out _ (o7.out.below.alloc (by have:=o7.out.size;omega) _)).mono ?_;clear MK;rintro e w2 ⟨rfl,hb2⟩
    have CS:=(o7.out.next ((ay _ _).alloc (aJ _) (au (b.open (ae pm lm cm) (ae pn ln cn) (ae pk lk ck) (ae none 0 0)) 122))).next hb2;have GM:=ai CS
    have hk2:=(hb2.block w1.heap.size sM).trans (ax w1 _);have GQ:=ai hk2;have hs1:=o7.out.size;have hs2:=hb2.size;obtain⟨y0,y1,y2,y3,y4,y5,y6,y7,y8,y9,M7,O3,OZ,OY,Ki,Iw⟩:=jy hk2
    clear CS hk2 hb2)
  |(go_at_call 116;refine(MO.out _ GM.out.below).mono ?_;clear MO;rintro e w3 ⟨v,rfl,iH,hb3⟩
    have FX:=GM.out.next hb3;have Qd:=ai FX;have ML:=ai iH
    simp only[dQ] at hs2;have hk3:=(hb3.block w1.heap.size oM).trans GQ.out;have HK3:=ai hk3;have hs3:=hb3.size;clear y0 y1 y2 y3 y4 y5 y6 y7 y8 y9 M7 O3 OZ OY Ki Iw;have Iw:=aK hk3 15 _ rfl;have f7:=cQ hk3 15;have o8:=ai hb3
    obtain⟨gv,oV,rfl,EJ⟩:∃gv oV,v=ae (some ⟨gv,0,none⟩) all.length oV/\w2.heap.size<=gv:=by
     rcases iH.1.2 with⟨_,h0⟩|⟨g,cap,cur,rfl,hg,_⟩
     .omega
     exact⟨g,cap,rfl,hg⟩
    have HL7:mQ ((w3.setCell ⟨w1.heap.size,15,none⟩ (ae (some ⟨gv,0,none⟩) all.length oV)).heap[w1.heap.size]?=some (au (b.open (ae pm lm cm) (ae pn ln cn) (ae pk lk ck) (ae (some ⟨gv,0,none⟩) all.length oV)) 122 (0,0))):=ai (cX _ hk3);have OV:mQ ((w3.setCell ⟨w1.heap.size,15,none⟩ (ae (some ⟨gv,0,none⟩) all.length oV)).heap[w.heap.size+1]?=some (au eO 122 (0,0))):=ai ((bp _ _ _ _ (by show w.heap.size+1≠w1.heap.size;omega)).trans FX.two)
    clear FX hk3 hb3 iH))
 refine a8 (results_cell_tmp (g:=w.heap.size+1) rfl rfl (eF _ _ 122 122 _ (0,0) _ (bX OV.out) fS rfl kQ)) rfl ⟨_,rfl,?_,?_⟩
 .have hs1:=o7.out.size;refine(ML.out.at_ fun g hg=>?_).base oM;have EM:g=gv:=by simpa [ji] using hg.symm
  subst EM;exact(setRow_other oM).trans (bp _ _ _ _ (by show g≠w1.heap.size;omega))
 have hs1:=o7.out.size;exact cS (Qd.out.below.setCell (p:=⟨w1.heap.size,15,none⟩) (by show _<=w1.heap.size;omega) _) oM
def rB(a b:List Int):Bool:=decide (a.length<b.length)||(decide (a.length=b.length)&&decide (j9 a b<0))
def Q6(xs ys:List Int)(v1 v2:aj)(w:ak)(h1:Reads w v1 xs.length (xs.map (aD af)))(h2:Reads w v2 ys.length (ys.map (aD af))) :
  a_ aq 121 #[v1,v2] w fun e w'=>e=aU (aA (rB xs ys))/\w=w':=by
 obtain⟨p1,c1,rfl,_⟩:=aR h1;obtain⟨p2,c2,rfl,_⟩:=aR h2;have hC:=rJ xs ys _ _ w h1 h2;have hL:rB xs ys=(decide (xs.length<ys.length)||(decide (xs.length=ys.length)&&decide (j9 xs ys<0))):=rfl;have zH:=Dq xs ys;generalize j9 xs ys=c at *;generalize rB xs ys=r at *;generalize xs.length=na at *;generalize ys.length=nb at *;have HL:=ai hL;clear hL h1 h2
 by_cases h1:na<nb
 .have e1:decide (na<nb)=true:=sO;have er:r=true:=by rw[HL.out,decide_eq_true h1];rfl
  subst er;have H1:=ai h1;clear h1 hC
  go_enter Tryz.func121,Tryz.ntmps121
  go_wp2
  go_ret
  exact⟨rfl,rfl⟩
 by_cases h2:na=nb
 .subst h2;have er:r=decide (c<0):=by rw[HL.out];simp
  subst er;clear h1 HL;have e1:decide (na<na)=false:=sM;have e9:(na==na)=true:=sM
  go_enter Tryz.func121,Tryz.ntmps121
  go_wp2_with fail
  refine hC.mono ?_;rintro e w7 ⟨rfl,rfl⟩;go_wp2
  go_ret
  exact⟨rfl,rfl⟩
 have e1:decide (na<nb)=false:=sO;have e2:decide ((na:Int)=(nb:Int))=false:=sO;have e3:((na:Int)==(nb:Int))=false:=sO;have e4:(na==nb)=false:=sO;have er:r=false:=by rw[HL.out,decide_eq_false h1,decide_eq_false h2];rfl
 subst er;clear h1 h2 HL hC
 go_enter Tryz.func121,Tryz.ntmps121
 go_wp2
 go_ret
 exact⟨rfl,rfl⟩
abbrev VL:=aj × List Int
def sk(w:ak)(r:VL):Prop:=Reads w r.1 r.2.length (r.2.map (aD af))
def sk.below{w w':ak}{r:VL}(h:sk w r)(hb:Bw w w'):sk w' r:=Reads.below h hb
def nX(first:VL)(more:List VL):VL:=more.foldl (fun b x=>if rB x.2 b.2 then x else b) first
def OC(first:VL)(more:List VL)(k:Nat)(hk:k<more.length):nX first (more.take (k+1))=if rB more[k].2 (nX first (more.take k)).2 then more[k] else nX first (more.take k):=by
 unfold nX;rw[bV hk,BA];rfl
def tH:∀(more:List VL) (first:VL),nX first more=first\/nX first more∈more
 |[],first=>cz rfl
 |x::more,first=>by
  show nX (if rB x.2 first.2=true then x else first) more=first\/nX (if rB x.2 first.2=true then x else first) more∈x::more
  by_cases hl:rB x.2 first.2=true
  .rw[if_pos hl];rcases tH more x with h|h
   .rw[h];exact .inr sM
   exact .inr (bY _ h)
  rw[if_neg hl];rcases tH more first with h|h
  .exact cz h
  exact .inr (bY _ h)
def R9(first:VL)(more:List VL)(v:aj)(w:ak)(hf:sk w first)(hm:∀r∈more,sk w r)(hv:Reads w v more.length (more.map (·.1))) :
  a_ aq 120 #[.func (.func 121) #[] #[],first.1,v] w fun e w'=>e=aU (nX first more).1/\Bw w w':=by
 have HSl:mQ (∀r∈first::more,∃p n c,r.1=ae p n c):=ai fun r hr=>by
  have h1:sk w r:=by
   rcases List.mem_cons.1 hr with rfl|h
   .exact hf
   exact hm r h
  obtain⟨p,c,h2,_⟩:=aR h1;exact⟨p,_,c,h2⟩
 obtain⟨pf,nf,cf,YS⟩:=HSl.out first sM
 rcases hv with⟨rfl,hn,_⟩|⟨g,off,cap,rfl,hn,hg,hc⟩
 .obtain rfl:=aX hn;clear hn;show a_ aq 120 #[.func (.func 121) #[] #[],first.1,ae none 0 0] w fun e w'=>e=aU first.1/\Bw w w'
  rw[YS];clear YS
  go_enter Tryz.func120,Tryz.ntmps120
  go_wp2
  go_loopw [1,11] (fun b i wr=>i=ag af 0/\b=ae pf nf cf/\Bw w wr) (fun _ _ _=>0)
  case atStart=>exact⟨rfl,rfl,ay _ _⟩
  case round=>
   obtain⟨rfl,rfl,eb⟩:=hrel;go_wp2
   go_ret
   exact⟨rfl,eb⟩
 have HC:=ai hc;have HM:=ai hm;have HF:=ai hf;clear hc hm hf;generalize hL:more.length=L at *;have HL:=ai hL;clear hL;have HFv:=ai YS;rw[YS];clear YS
 go_enter Tryz.func120,Tryz.ntmps120
 go_wp2
 go_loopw [1,8,11] (fun b _ i wr=>∃k:Nat,k<=L/\i=ag af k/\b=(nX first (more.take k)).1/\Bw w wr) (fun _ _ i _=>L-(intOf i).toNat)
 case atStart=>exact⟨0,oM,rfl,HFv.out.symm,ay _ _⟩
 case round=>
  obtain⟨k,hk,rfl,VX,eb⟩:=hrel
  by_cases hlt:k<L
  .have jT:k<more.length:=by rw[HL.out];exact hlt
   have hcell:wr.cell? ⟨g,off+k,none⟩=some more[k].1:=(eb.cell (p:=⟨g,off+k,none⟩) hg).trans (HC.out k _ (by simp[jT]));have hx:=HM.out more[k] (bG jT);have hst:=OC first more k jT
   have Rw:sk w (nX first (more.take k)):=by
    rcases tH (more.take k) first with h|h
    .rw[h];exact HF.out
    exact HM.out _ (fH h)
   generalize more[k]=x at *;generalize nX first (more.take k)=bst at *
   obtain⟨p1,c1,e1,_⟩:=aR hx;obtain⟨p2,c2,e2,_⟩:=aR Rw;rw[e2] at VX;subst VX;have hB:=Q6 x.2 bst.2 x.1 bst.1 wr (hx.below eb) (Rw.below eb);rw[e1] at hcell;rw[e1,e2] at hB;have hsz:=eb.size;have E1:=ai e1;have E2:=ai e2;clear hx Rw e1 e2;cases hr:rB x.2 bst.2
   all_goals
    rw[hr] at hst hB;have HR:=ai hr;have HST:=ai hst;clear hr hst
    go_wp2_with (go_at_call 121;refine hB.mono ?_;rintro e w2 ⟨rfl,rfl⟩)
    go_roundw
    case rel=>exact⟨k+1,oM,by go_num,by rw[HST.out];first|exact E1.out.symm|exact E2.out.symm,eb⟩
    case measure=>simp[intOf];omega
  obtain rfl:k=L:=oM;have su:more.take k=more:=cU (by rw[HL.out];exact aJ _);rw[su] at VX;have HBv:=ai VX
  obtain⟨p1,n1,c1,e1⟩:=HSl.out (nX first more) (by
   rcases tH more first with h|h
   .rw[h];simp
   exact bY _ h)
  rw[e1] at VX;subst VX;have E1:=ai e1;clear e1 su;go_wp2
  go_ret
  exact⟨congrArg bw E1.out.symm,eb⟩
def nB(ms:List Mk)(l:List Nat):List Mk:=l.filterMap fun i=>ms[i]?
def QQ(ms:List Mk)(l:List Nat):(nB ms l).length<=l.length:=List.length_filterMap_le _ _
def QP{ms:List Mk}{l:List Nat}{m:Mk}(h:m∈nB ms l):m∈ms:=by
 obtain⟨i,_,hi⟩:=List.mem_filterMap.1 h;exact List.mem_of_getElem? hi
def Ny(ms:List Mk)(l:List Nat)(j:Nat)(hj:j<ms.length):nB ms (l++[j])=nB ms l++[ms[j]]:=by
 unfold nB;rw[List.filterMap_append];simp[hj]
def KS(ms:List Mk)(l:List Nat)(h:∀i∈l,i<ms.length):(nB ms l).length=l.length:=by
 induction l with
 |nil=>rfl
 |cons a l ih=>
  have ha:=h a sM;have:=ih fun i hi=>h i (by simp[hi])
  have e:nB ms (a::l)=ms[a]::nB ms l:=by
   unfold nB;rw[List.filterMap_cons];simp[ha]
  rw[e];simp[this]
def Tz{b:BB}{ms:List Mk}(h:l9 b ms){n mask:Nat}(hn:n<=ms.length):l9 b (nB ms (dT n mask)):=
 ⟨fun m hm=>h.mem m (QP hm),by have:=QQ ms (dT n mask);have:=qI n mask;have:=h.len;omega⟩
def mS(b:BB)(ml:List Mn)(ss:List Int)(ms:List Mk)(mask:Nat):Bool:=decide (aT b ml ss (nB ms (dT ms.length mask))=[])
def Eo(b:BB)(ml:List Mn)(ss:List Int)(ms:List Mk)(M:Nat):List (List Int):=((aQ M).filter (mS b ml ss ms)).map (uD ms.length)
def QX(b:BB)(ml:List Mn)(ss:List Int)(ms:List Mk)(M:Nat):Eo b ml ss ms (M+1)=Eo b ml ss ms M++if mS b ml ss ms M then[uD ms.length M] else[]:=by
 unfold Eo;rw[List.range_succ,List.filter_append,eG];cases h:mS b ml ss ms M<;>simp[h]
def Vj(first:List Int)(more:List (List Int)):List Int:=more.foldl (fun b x=>if rB x b then x else b) first
def Ie:∀(more:List VL) (first:VL),(nX first more).2=Vj first.2 (more.map (·.2))
 |[],_=>rfl
 |x::more,first=>by
  show(nX (if rB x.2 first.2=true then x else first) more).2=Vj (if rB x.2 first.2=true then x.2 else first.2) (more.map (·.2));rw[Ie more]
  by_cases h:rB x.2 first.2=true
  .rw[if_pos h,if_pos h]
  rw[if_neg h,if_neg h]
def qJ(b:BB)(ml:List Mn)(ss:List Int)(ms:List Mk):List Int:=
 if aT b ml ss ms≠[] then[] else match Eo b ml ss ms (2 ^ ms.length) with|[]=>[]|f::r=>Vj f r
def RU(n:Nat):dT n (2 ^ n-1)=aQ n:=by
 unfold dT;rw[List.filter_eq_self];intro i hi;rw[bQ] at hi;rw[Nat.testBit_two_pow_sub_one];simp[hi]
def QO(ms:List Mk):nB ms (aQ ms.length)=ms:=by
 unfold nB;apply List.ext_getElem?;intro i
 have key:∀k,k<=ms.length->(aQ k).filterMap (fun i=>ms[i]?)=ms.take k:=by
  intro k
  induction k with
  |zero=>simp
  |succ k ih=>
   intro hk;rw[List.range_succ,List.filterMap_append,ih oM,bV oM];simp[show k<ms.length by omega]
 rw[key _ (aJ _),List.take_length]
def ZJ{b:BB}{ml:List Mn}{ss:List Int}{ms:List Mk}(h:aT b ml ss ms=[]):Eo b ml ss ms (2 ^ ms.length)≠[]:=by
 unfold Eo;intro h2;have h3:=List.map_eq_nil_iff.1 h2
 have h4:2 ^ ms.length-1∈(aQ (2 ^ ms.length)).filter (mS b ml ss ms):=by
  rw[List.mem_filter];have:0<2 ^ ms.length:=Nat.two_pow_pos _;refine⟨bQ.2 oM,?_⟩;unfold mS;rw[RU,QO];simp[h]
 rw[h3] at h4;cases h4
def ZW:(Tryz.prog.info? 25).map (fun i=>(i.zero,i.size,i.bytes))=some (some (ae none 0 0),1,24):=kQ
def Np(l:List Mk)(m:Mk):dM (l++[m])=dM l++m.cells.toList:=by simp[dM]
structure MQ(ob mb:Nat)(bc:aj->Array aj)(V8 OM:aj)(k:Nat)(xs ys:List aj)(mc:Array aj)(wo:ak)(A B C:Bool)(w:ak):Prop where
 I8:A=false->w.ownsRow (ob+1) 3 1 V8 k xs
 zi:B=false->w.ownsRow (ob+1) 81 3 OM k ys
 ZK:C=false->w.heap[ob]?=some (au (bc OM) 119 (0,0))
 VO:w.heap[mb]?=some (au mc 81 (0,0))
 below:Below ob wo w
 size:ob+1<=w.heap.size
section
variable{ob mb:Nat}{bc:aj->Array aj}{V8 OM:aj}{k:Nat}{xs ys:List aj}{mc:Array aj}{wo w1 w2:ak}{A B C A' B' C':Bool}
theorem MQ.next(hA:A'=false->A=false)(hB:B'=false->B=false)(hC:C'=false->C=false)(h:MQ ob mb bc V8 OM k xs ys mc wo A B C w1)(hb:Bw w1 w2):MQ ob mb bc V8 OM k xs ys mc wo A' B' C' w2:=
 ⟨fun e=>dW (h.I8 (hA e)) hb,fun e=>dW (h.zi (hB e)) hb,fun e=>(hb.block _ (by have:=h.size;omega)).trans (h.ZK (hC e)),(hb.block _ (ah.1 h.VO).1).trans h.VO,h.below.trans (hb.mono (by have:=h.size;omega)),aG h.size hb.size⟩
theorem MQ.aiu(h:MQ ob mb bc V8 OM k xs ys mc wo A B C w1)(hA:A=false)(g:w1.grownBy w2 V8.ownBlock)(hB:B'=B)(hC:C'=C):MQ ob mb bc V8 OM k xs ys mc wo true B' C' w2:=by
 subst hB;subst hC;have h8:=h.I8 hA;have hm:=(ah.1 h.VO).1;refine⟨fun e=>(by cases e),fun e=>fV (h.zi e) fun q hq=>g.block q ((h.zi e).lt q hq).2 (zh (h.zi e) h8 dC hq),fun e=>(g.block ob (by have:=h.size;omega) fun hq=>?_).trans (h.ZK e),(g.block mb hm (lN h8 h.VO dC)).trans h.VO,h.below.grown g (by have:=h.size;omega) fun q hq=>by have:=(h8.lt q hq).1;omega,aG h.size g.size⟩;have:=(h8.lt ob hq.symm).1;omega
theorem MQ.aeL(h:MQ ob mb bc V8 OM k xs ys mc wo A B C w1)(hB:B=false)(g:w1.grownBy w2 OM.ownBlock)(hm:some mb≠OM.ownBlock)(hA:A'=A)(hC:C'=C):MQ ob mb bc V8 OM k xs ys mc wo A' true C' w2:=by
 subst hA;subst hC;have h14:=h.zi hB;have Um:=(ah.1 h.VO).1;refine⟨fun e=>fV (h.I8 e) fun q hq=>g.block q ((h.I8 e).lt q hq).2 (zh (h.I8 e) h14 dC hq),fun e=>(by cases e),fun e=>(g.block ob (by have:=h.size;omega) fun hq=>?_).trans (h.ZK e),(g.block mb Um hm).trans h.VO,h.below.grown g (by have:=h.size;omega) fun q hq=>by have:=(h14.lt q hq).1;omega,aG h.size g.size⟩;have:=(h14.lt ob hq.symm).1;omega
theorem MQ.drew(h:MQ ob mb bc V8 OM k xs ys mc wo A B C w1):MQ ob mb bc V8 OM k xs ys mc wo A B C w1.drew:=⟨h.I8,h.zi,h.ZK,h.VO,h.below.drew,h.size⟩
theorem Vi{w:ak}{a b:Nat}{x y:Array aj}{t u:aZ}(h1:w.heap[a]?=some (au x t (0,0)))(h2:w.heap[b]?=some (au y u (0,0)))(h:t≠u):a≠b:=by
 rintro rfl;rw[h1] at h2;cases h2;exact h rfl
theorem MQ.put(h:MQ ob mb bc V8 OM k xs ys mc wo A B C w1)(hC:C=false)(hm:mb≠ob)(u:aj)(hA:A'=A)(hB:B'=B):MQ ob mb bc V8 OM k xs ys mc wo A' B' true (w1.setCell ⟨ob,14,none⟩ u):=by
 subst hA;subst hB;have ho:=h.ZK hC;exact⟨fun e=>dt (h.I8 e) ho dC,fun e=>dt (h.zi e) ho dC,fun e=>(by cases e),(bp _ _ _ _ hm).trans h.VO,h.below.setCell (p:=⟨ob,14,none⟩) (aJ _) _,by simpa using h.size⟩
end
def VK(b:BB)(bm aH az:aj)(ml:List Mn)(ss:List Int)(ms:List Mk)(w:ak)(hL:Laid w)(hB:bW b bm aH az ml ss ms w) :
  a_ aq 50 #[aN (b.cells bm aH az)] w fun e w'=>∃v,e=aU (bB #[v,ag af 0])/\Reads w' v (qJ b ml ss ms).length ((qJ b ml ss ms).map (aD af))/\Bw w w':=by
 have cV:=hB.ok;have hk3:=hB.jM.len;obtain⟨i0,hi,hz0,hz1,hz2⟩:=mN info3;obtain⟨i1,Ck,SD,hy1,hy2⟩:=mN Jp;obtain⟨i2,hi2,hx0,hx1,hx2⟩:=mN ZW;obtain⟨pm,cm,rfl,_⟩:=aR hB.rm;obtain⟨pn,cn,rfl,_⟩:=aR hB.rs;obtain⟨pk,ck,rfl,_⟩:=aR hB.rk;have b1:Bw w (w.alloc (au (b.sl pm ml.length cm pn ss.length cn pk ms.length ck) 28)):=cY;have hk:=ax w (au (b.sl pm ml.length cm pn ss.length cn pk ms.length ck) 28);have ql:=ai (dI b _ _ _ ml ss ms _ (hL.below b1) (hB.below b1))
 have HSo:mQ (∀(k:aj) (l:List Mk) (r:Bool),decide (aT b ml ss l≠[])=r->l9 b l->∀W,Bw w W->Reads W k l.length (dM l)->a_ aq 119 #[aN (b.cells (ae pm ml.length cm) (ae pn ss.length cn) k)] W fun e w'=>e=aU (aA r)/\Bw W w'):=
  ai fun k l r hr hl W hW hk=>by
   have:=DG b _ _ k ml ss l W ⟨hB.ok,hB.eT,hB.lH,hl,hB.rm.below hW,hB.rs.below hW,hk⟩;rw[hr] at this;exact this
 obtain⟨r,hr⟩:∃r,decide (aT b ml ss ms≠[])=r:=⟨_,rfl⟩
 have HR0:=ai hr;clear hr;have HB:=ai hB;have vV:=ai b1;have HK:=ai hk;have HMo:=ai hB.jM;clear hL hB b1 hk;have HML:=ai (rfl:ml.length=ml.length);generalize ml.length=lm at *;generalize ss.length=ln at *;generalize hlk:ms.length=lk at *;have Sx:=ai hlk;clear hlk
 go_enter Tryz.func50,Tryz.ntmps50
 go_wp2_with (first
  |(go_at_call 71;refine ql.out.mono ?_;clear ql;rintro e w1 ⟨rfl,hb1⟩
    have pP:=(hb1.block w.heap.size sM).trans HK.out;obtain⟨x0,x1,x2,x3,x4,x5,x6,x7,x8,x9,qo,qm,rj,qX,q7⟩:=bU pP;have HK1:=ai pP;have hw1:w.heap.size<w1.heap.size:=(ah.1 pP).1;have nN:mQ (Bw w w1):=ai (vV.out.trans (hb1.mono sM))
    clear pP hb1)
  |(go_at_call 119;refine(HSo.out _ ms r HR0.out HMo.out _ (nN.out.alloc oM _) (HB.out.rk.below (nN.out.alloc oM _))).mono ?_;rintro e w2 ⟨rfl,hb2⟩
    have hs2:=hb2.size;simp only[dQ] at hs2;have hk2:=(hb2.block w.heap.size sO).trans ((aW w1 (au (b.sl pm lm cm pn ln cn pk lk ck) 119) _ hw1).trans HK1.out);have hx2:=(hb2.block w1.heap.size sM).trans (ax w1 (au (b.sl pm lm cm pn ln cn pk lk ck) 119));have GQ:=ai hk2;have HX2:=ai hx2;have o8:mQ (Bw w w2):=ai ((nN.out.alloc oM _).trans (hb2.mono sO));have z14:=aK hk2 14 (ae pk lk ck) rfl;have f14:=cQ hk2 14
    clear hk2 hx2 hb2 x0 x1 x2 x3 x4 x5 x6 x7 x8 x9 qo qm rj qX q7))
 .have hr1:r=true:=by assumption
  have HQ:mQ (qJ b ml ss ms=[]):=ai (by have:=HR0.out;rw[hr1] at this;unfold qJ;rw[if_pos (by simpa using this)]);go_ret2;exact⟨_,rfl,by rw[HQ.out];exact cz ⟨rfl,rfl,rfl⟩,o8.out⟩
 obtain rfl:r=false:=by assumption
 have HE:mQ (aT b ml ss ms=[]):=ai (by have:=HR0.out;simpa using this);obtain⟨N,hN0⟩:∃N,N=2 ^ lk:=⟨_,rfl⟩
 have hN8:N<=8:=by
  have:lk=0\/lk=1\/lk=2\/lk=3:=oM;rcases this with h|h|h|h<;>subst h<;>omega
 have hN:wrap64 (2 ^ lk)=(N:Int):=by
  have:lk=0\/lk=1\/lk=2\/lk=3:=oM;rcases this with h|h|h|h<;>subst h<;>subst hN0<;>simp[wrap64]
 have HN0:=ai hN0
 have HBk:mQ (∀w9,Bw w w9->∀(k:Nat) (hk:k<ms.length),∃g off,pk=some ⟨g,off,none⟩/\w9.cell? ⟨g,off+k*3,none⟩=some (ag af ms[k].minute)/\w9.cell? ⟨g,off+k*3+1,none⟩=some (ag af ms[k].lo)/\w9.cell? ⟨g,off+k*3+2,none⟩=some (ag af ms[k].hi)):=ai fun w9 h9 k hk=>by
  rcases HB.out.rk.below h9 with⟨_,h0,_⟩|⟨g,off,cap,h0,_,_,h1⟩
  .omega
  cases h0;exact⟨g,off,rfl,wC h1 k hk⟩
 rw[hN];clear hN hN0
 go_loopw [6,7,8,9,10,11,25,34] (fun v6 _ _ _ _ _ i _ wr=>∃(M:Nat) (rows:List VL),M<=N/\i=ag af M/\rows.map (·.2)=Eo b ml ss ms M/\wr.ownsRow w.heap.size 25 1 v6 rows.length (rows.map (·.1))/\(∀r∈rows,wr.ownsRow w.heap.size 3 1 r.1 r.2.length (r.2.map (aD af)))/\wr.heap[w.heap.size]?=some (au (b.sl pm lm cm pn ln cn pk lk ck) 28 (0,0))/\wr.heap[w1.heap.size]?=some (au (b.sl pm lm cm pn ln cn pk lk ck) 119 (0,0))/\Bw w wr) (fun _ _ _ _ _ _ i _ _=>N-(intOf i).toNat)
 case atStart=>exact⟨0,[],iq _,sM,rfl,eD _ _ _ _,sM,GQ.out,HX2.out,o8.out⟩
 case round=>
  obtain⟨M,rows,hM,rfl,EF,Lq,PI,hkw,hxw,eb⟩:=hrel;rename ak=>wo
  by_cases hlt:M<N
  .have HRw:=ai EF;have HO6:=ai Lq;have HOr:=ai PI;have HKw:=ai hkw;have HXw:=ai hxw;have xF:=ai eb;have Kb:=eb.size;have Xl:=(ah.1 hkw).1;have hwx:=(ah.1 hxw).1;obtain⟨x0,x1,x2,x3,x4,x5,x6,x7,x8,x9,qo,qm,rj,qX,q7⟩:=bU hxw;have g2:(wo.alloc (au #[ag af b.room,ag af b.depth,ag af b.least,ag af b.minutes,ag af b.cM,ag af b.jX,ag af b.eN,ag af b.jK,ag af b.ll,ag af b.lm,ag af b.pl,ag af b.pm,ae pm lm cm,ae pn ln cn,ae none 0 0] 119)).heap[w.heap.size]?=some (au (b.sl pm lm cm pn ln cn pk lk ck) 28 (0,0)):=(aW _ _ _ Xl).trans hkw;have z14:=aK g2 14 (ae pk lk ck) rfl;have ah6:=cQ g2 14;have hb2:Bw wo (wo.alloc (au #[ag af b.room,ag af b.depth,ag af b.least,ag af b.minutes,ag af b.cM,ag af b.jX,ag af b.eN,ag af b.jK,ag af b.ll,ag af b.lm,ag af b.pl,ag af b.pm,ae pm lm cm,ae pn ln cn,ae none 0 0] 119)):=cY;have ho2:=ax wo (au #[ag af b.room,ag af b.depth,ag af b.least,ag af b.minutes,ag af b.cM,ag af b.jX,ag af b.eN,ag af b.jK,ag af b.ll,ag af b.lm,ag af b.pl,ag af b.pm,ae pm lm cm,ae pn ln cn,ae none 0 0] 119);have ai0:=ai hb2;have aiQ:=ai ho2;have ado:(wo.alloc (au #[ag af b.room,ag af b.depth,ag af b.least,ag af b.minutes,ag af b.cM,ag af b.jX,ag af b.eN,ag af b.jK,ag af b.ll,ag af b.lm,ag af b.pl,ag af b.pm,ae pm lm cm,ae pn ln cn,ae none 0 0] 119)).heap.size=wo.heap.size+1:=sM;clear EF Lq PI hkw hxw eb f14 g2 hb2 ho2;go_wp2
   go_loopw [8,10,11,34] (fun v8 _ _ i wr=>∃(j:Nat) (v14:aj),j<=lk/\i=ag af j/\wr.ownsRow (wo.heap.size+1) 3 1 v8 (dT j M).length ((dT j M).map fun(i:Nat)=>aD af (i:Int))/\wr.ownsRow (wo.heap.size+1) 81 3 v14 (dT j M).length (dM (nB ms (dT j M)))/\wr.heap[wo.heap.size]?=some (au (b.cells (ae pm lm cm) (ae pn ln cn) v14) 119 (0,0))/\Bw wo wr) (fun _ _ _ i _=>lk-(intOf i).toNat)
   case atStart=>exact⟨0,ae none 0 0,iq _,sM,eD _ _ _ _,eD _ _ _ _,aiQ.out,ai0.out⟩
   case round=>
    obtain⟨j,v14,hj,rfl,Hy,AV,VT,yM⟩:=hrel;have Z9:=yM.size;have hcl:=qI j M;have hM5:M<512:=bD hlt (aG hN8 dC)
    by_cases MV:j<lk
    .have Rv:=wL M j hM5;have Jy:j<ms.length:=by rw[Sx.out];exact MV
     obtain⟨g,off,rfl,c0,c1,c2⟩:=HBk.out wr (xF.out.trans (yM.mono Kb)) j Jy;obtain⟨p8,c8,rfl⟩:=dV Hy;obtain⟨TA,c14,rfl⟩:=dV AV;have Xt:=Ny ms (dT j M) j Jy;have aeU:=ai Hy;have VA:=ai AV;have HOj:=ai VT;have Sw:=ai yM;have HPs:=ai Xt;have PG:=(ah.1 VT).1;clear Hy AV VT yM Xt;generalize hmk:ms[j]=mk at *;cases hb:M.testBit j
     .have e1:dT (j+1) M=dT j M:=by rw[rH,hb];simp
      rw[hb] at Rv;have H1:=ai e1;clear e1;go_wp2;go_roundw
      case rel=>exact⟨j+1,ae TA (dT j M).length c14,oM,sM,by rw[H1.out];exact aeU.out.alloc _,by rw[H1.out];exact VA.out.alloc _,(aW _ _ _ PG).trans HOj.out,Sw.out.alloc oM _⟩
      case measure=>simp[intOf];omega
     have e1:dT (j+1) M=dT j M++[j]:=by rw[rH,hb];simp
     rw[hb] at Rv;have H1:=ai e1;clear e1;have MU:∃xs,((dT j M).map fun(i:Nat)=>aD af (i:Int))=xs:=⟨_,rfl⟩
     have hys:∃ys,dM (nB ms (dT j M))=ys:=⟨_,rfl⟩
     obtain⟨xs,MU⟩:=MU;obtain⟨ys,hys⟩:=hys;have HXs:=ai MU;have HYs:=ai hys;generalize hk:(dT j M).length=k at *;have HKk:=ai hk;clear hk MU hys
     have HS0:mQ (MQ wo.heap.size wr.heap.size (fun v=>(b.cells (ae pm lm cm) (ae pn ln cn) v)) (ae p8 k c8) (ae TA k c14) k xs ys mk.cells wo false false false (wr.alloc (au mk.cells 81))):=
      ai ⟨fun _=>by have:=aeU.out.alloc (au mk.cells 81);rw[HXs.out] at this;exact this,fun _=>by have:=VA.out.alloc (au mk.cells 81);rw[HYs.out] at this;exact this,fun _=>(aW wr (au mk.cells 81) _ PG).trans HOj.out,ax _ _,Sw.out.alloc oM _,sO⟩
     have adD:some wr.heap.size≠(ae TA k c14:aj).ownBlock:=fun h=>by
      have:=(VA.out.lt _ h.symm).2;omega
     have agX:wr.heap.size≠wo.heap.size:=oM;go_wp2
     refine Ph.vd (late:=[(10,8,ae p8 k c8)]) (hlate:=⟨⟨rfl,rfl⟩,trivial⟩) kQ [
     pV (ae p8 k c8),
      pV (ag af j),
      fun v ds w9=>∃q,v=ae (some ⟨q,0,none⟩) 1 1/\w9.heap[q]?=some (au #[ag af j] 3 (0,0))/\some q≠(ae p8 k c8:aj).ownBlock,
      fun v ds w9=>∃p c,v=ae p (k+1) c/\w9.ownsRow (wo.heap.size+1) 3 1 v (k+1) (xs++[ag af j]),
      pV (dB (some ⟨wo.heap.size,0,none⟩)),
      pV (dB (some ⟨wo.heap.size,14,none⟩)),
      pV (ae TA k c14),
      pV (aN mk.cells),
      fun v ds w9=>∃q,v=ae (some ⟨q,0,none⟩) 1 1/\w9.heap[q]?=some (au mk.cells 81 (0,0))/\some q≠(ae TA k c14:aj).ownBlock,
      fun v ds w9=>∃p c,v=ae p (k+1) c/\w9.ownsRow (wo.heap.size+1) 81 3 v (k+1) (ys++mk.cells.toList),
      fun v ds w9=>∃p c,v=ae p (k+1) c/\w9.ownsRow (wo.heap.size+1) 3 1 v (k+1) (xs++[ag af j]),
      pV (dB (some ⟨wo.heap.size,0,none⟩)),
      pV (dB (some ⟨wo.heap.size,14,none⟩)),
      fun v ds w9=>∃x,ds[1]?=some x/\w9.heap[wo.heap.size]?=some (au (b.cells (ae pm lm cm) (ae pn ln cn) x) 119 (0,0))]
      (fun L w9=>MQ wo.heap.size wr.heap.size (fun v=>(b.cells (ae pm lm cm) (ae pn ln cn) v)) (ae p8 k c8) (ae TA k c14) k xs ys mk.cells wo (L 3) (L 9) (L 13) w9) [(9,pv wo.heap.size 0),(10,ag af j),(11,pv wr.heap.size 0)] kQ ?rst (fun L L2 w1 w2 SN h hb=>h.next (SN 3) (SN 9) (SN 13) hb) (HS0.out.drew) ⟨rfl,rfl,rfl,trivial⟩ ?reach ?rfin
     case rst=>
      refine⟨Ph.sV,Ph.sV,?_,?_,Ph.sV,Ph.sV,Ph.sV,Ph.sV,?_,?_,?_,Ph.sV,Ph.sV,?_,trivial⟩
      .rintro v ds L w1 w2 hS ⟨q,h1,h2,h3⟩ hb;exact⟨q,h1,(hb.block _ (ah.1 h2).1).trans h2,h3⟩
      .rintro v ds L w1 w2 hS ⟨p,c,h1,h2⟩ hb;exact⟨p,c,h1,dW h2 hb⟩
      .rintro v ds L w1 w2 hS ⟨q,h1,h2,h3⟩ hb;exact⟨q,h1,(hb.block _ (ah.1 h2).1).trans h2,h3⟩
      .rintro v ds L w1 w2 hS ⟨p,c,h1,h2⟩ hb;exact⟨p,c,h1,dW h2 hb⟩
      .rintro v ds L w1 w2 hS ⟨p,c,h1,h2⟩ hb;exact⟨p,c,h1,dW h2 hb⟩
      rintro v ds L w1 w2 hS ⟨x,h1,h2⟩ hb;exact⟨x,h1,(hb.block _ (ah.1 h2).1).trans h2⟩
     case reach=>
      refine⟨?_,?_,?_,?_,?_,?_,?_,?_,?_,?_,?_,?_,?_,?_,trivial⟩<;>rintro Lf ev w1 hn xr hS hc hg hf ⟨b9,Sp,b11,hlt⟩ hd
      .have b8:=hlt.1 (hn 10 kQ);exact Ph.tV
      .exact Ph.tV
      .have d1:ev (aI 45)=_:=hd.1 rfl;refine F5 (v:=ae (some ⟨w1.heap.size,0,none⟩) 1 1) (w':=w1.alloc (au #[ag af j] 3)) ?_ ⟨⟨_,rfl,ax _ _,fun h=>absurd ((hS.I8 (hn 3 kQ)).lt _ h.symm).2 (Nat.lt_irrefl _)⟩,cz cY⟩;go_simp
      .have d0:ev (aI 44)=_:=hd.1 rfl;obtain⟨q,e46,hq1,Xq⟩:=hd.2.1 rfl;replace e46:ev (aI 46)=_:=e46;have hown:=hS.I8 xr;refine Yields.FK (aI 44) (aI 46) 25 rfl (wo.heap.size+1) 3 i0 (ag af 0) 1 8 gO hi hz0 hz1 hz2 rfl dC (ae p8 k c8) k _ d0 hown ⟨q,0,none⟩ 1 1 [ag af j] e46 rfl ?_ (by simp[bK]) (by unfold kW;omega) oM hS.size ?_
       .intro n u hn;have h5:=aK hq1 n u (by simpa using hn);have e:(⟨q,0,none⟩:cJ).add n=⟨q,n,none⟩:=by cases n<;>simp[mg]
        rw[e];exact h5
       intro v' w' hown' hgrow hnil;obtain⟨p',c',rfl⟩:=dV hown';refine⟨⟨p',c',rfl,hown'⟩,.inr ⟨hS.aiu xr hgrow (by simp[Ph.upd]) (by simp[Ph.upd]),?_⟩⟩;intro t u ds hj hL hp
       match t,hp with
       |0,hp|1,hp=>exact hp
       |2,⟨q2,h1,h2,h3⟩=>exact⟨q2,h1,(hgrow.block q2 (ah.1 h2).1 h3).trans h2,h3⟩
       |3,_=>exact(hj rfl).elim
       |4,hp|5,hp|6,hp|7,hp=>exact hp
       |8,⟨q2,h1,h2,h3⟩=>exact⟨q2,h1,(hgrow.block q2 (ah.1 h2).1 (lN hown h2 dC)).trans h2,h3⟩
       |9,_=>rw[hn 9 kQ] at hL;cases hL
       |10,_=>rw[hn 10 kQ] at hL;cases hL
       |11,hp|12,hp=>exact hp
       |13,_=>rw[hn 13 kQ] at hL;cases hL
       |t+14,_=>trivial
      .exact Ph.tV
      .have d4:ev (aI 48)=_:=hd.1 rfl;exact Ph.tV
      .have d5:ev (aI 49)=_:=hd.1 rfl;have anl:=aK (hS.ZK (hn 13 kQ)) 14 (ae TA k c14) rfl;exact Ph.tV
      .refine Lag.Yields.zw 81 _ rfl _ b11 81 _ (0,0) _ hS.VO Tryz.underlying81 rfl kQ ⟨rfl,cz (ay _ _)⟩
      .have d7:ev (aI 51)=_:=hd.1 rfl;refine F5 (v:=ae (some ⟨w1.heap.size,0,none⟩) 1 1) (w':=w1.alloc (au mk.cells 81)) ?_ ⟨⟨_,rfl,ax _ _,fun h=>absurd ((hS.zi (hn 9 kQ)).lt _ h.symm).2 (Nat.lt_irrefl _)⟩,cz cY⟩;go_simp
      .have d6:ev (aI 50)=_:=hd.1 rfl;obtain⟨q,e52,hq1,Xq⟩:=hd.2.1 rfl;replace e52:ev (aI 52)=_:=e52;have hown:=hS.zi xr;refine Yields.FK (aI 50) (aI 52) 26 rfl (wo.heap.size+1) 81 i1 (aN #[ag af 0,ag af 0,ag af 0]) 3 24 Bz Ck SD hy1 hy2 rfl dC (ae TA k c14) k _ d6 hown ⟨q,0,none⟩ 1 1 mk.cells.toList e52 rfl ?_ (by simp[bK]) (by unfold kW;omega) oM hS.size ?_
       .intro n u hn;have h5:=aK hq1 n u (by simpa using hn);have e:(⟨q,0,none⟩:cJ).add n=⟨q,n,none⟩:=by cases n<;>simp[mg]
        rw[e];exact h5
       intro v' w' hown' hgrow hnil;obtain⟨p',c',rfl⟩:=dV hown';refine⟨⟨p',c',rfl,hown'⟩,.inr ⟨hS.aeL xr hgrow adD (by simp[Ph.upd]) (by simp[Ph.upd]),?_⟩⟩;intro t u ds hj hL hp
       match t,hp with
       |0,hp|1,hp=>exact hp
       |2,⟨q2,h1,h2,h3⟩=>exact⟨q2,h1,(hgrow.block q2 (ah.1 h2).1 (lN hown h2 dC)).trans h2,h3⟩
       |3,⟨p,c,h1,h2⟩=>exact⟨p,c,h1,fV h2 fun g hg=>hgrow.block g (h2.lt g hg).2 (zh h2 hown dC hg)⟩
       |4,hp|5,hp|6,hp|7,hp=>exact hp
       |8,⟨q2,h1,h2,h3⟩=>exact⟨q2,h1,(hgrow.block q2 (ah.1 h2).1 h3).trans h2,h3⟩
       |9,_=>exact(hj rfl).elim
       |10,_=>rw[hn 10 kQ] at hL;cases hL
       |11,hp|12,hp=>exact hp
       |13,_=>rw[hn 13 kQ] at hL;cases hL
       |t+14,_=>trivial
      .have d3:∃p c,(ev (aI 47))=ae p (k+1) c/\w1.ownsRow (wo.heap.size+1) 3 1 (ev (aI 47)) (k+1) (xs++[ag af j]):=hd.1 rfl;obtain⟨p,c,h1,h2⟩:=d3;refine F5 (v:=ev (aI 47)) (w':=w1) rfl ⟨⟨p,c,h1,h2⟩,cz (ay _ _)⟩
      .exact Ph.tV
      .have d11:ev (aI 54)=_:=hd.1 rfl;exact Ph.tV
      have d12:ev (aI 55)=_:=hd.1 rfl;have d9:∃p c,(ev (aI 53))=ae p (k+1) c/\w1.ownsRow (wo.heap.size+1) 81 3 (ev (aI 53)) (k+1) (ys++mk.cells.toList):=hd.2.1 rfl;obtain⟨p,c,h1,h2⟩:=d9;have zE:=hS.ZK xr;have c1:=aK zE 14 (ae TA k c14) rfl;have f1:=cQ zE 14;refine yva (w':=w1.setCell ⟨wo.heap.size,14,none⟩ (ev (aI 53))) ?_ ⟨⟨_,rfl,cX _ zE⟩,.inr ⟨hS.put xr agX (ev (aI 53)) (by simp[Ph.upd]) (by simp[Ph.upd]),?_⟩⟩
      .rw[h1];go_simp
      .intro t u ds hj hL hp
       match t,hp with
       |0,hp|1,hp=>exact hp
       |2,⟨q2,g1,g2,g3⟩=>exact⟨q2,g1,(bp _ _ _ _ (Vi g2 zE dC)).trans g2,g3⟩
       |3,⟨p2,c2,g1,g2⟩=>exact⟨p2,c2,g1,dt g2 zE dC⟩
       |4,hp|5,hp|6,hp|7,hp=>exact hp
       |8,⟨q2,g1,g2,g3⟩=>exact⟨q2,g1,(bp _ _ _ _ (Vi g2 zE dC)).trans g2,g3⟩
       |9,⟨p2,c2,g1,g2⟩=>exact⟨p2,c2,g1,dt g2 zE dC⟩
       |10,⟨p2,c2,g1,g2⟩=>exact⟨p2,c2,g1,dt g2 zE dC⟩
       |11,hp|12,hp=>exact hp
       |13,_=>exact(hj rfl).elim
       |t+14,_=>trivial
     case rfin=>
      intro a3 w3 hR;have hS:=hR.s;have e9:∃p c,(a3.tmps.getD 53 ar)=ae p (k+1) c/\w3.ownsRow (wo.heap.size+1) 81 3 (a3.tmps.getD 53 ar) (k+1) (ys++mk.cells.toList):=hR.val 9;have Oj:∃p c,(a3.tmps.getD 8 ar)=ae p (k+1) c/\w3.ownsRow (wo.heap.size+1) 3 1 (a3.tmps.getD 8 ar) (k+1) (xs++[ag af j]):=hR.val 10;have Ma:∃x,([a3.tmps.getD 55 ar,a3.tmps.getD 53 ar,a3.tmps.getD 8 ar,a3.tmps.getD 44 ar,a3.tmps.getD 45 ar,a3.tmps.getD 46 ar,a3.tmps.getD 47 ar,a3.tmps.getD 48 ar,a3.tmps.getD 49 ar,a3.tmps.getD 50 ar,a3.tmps.getD 51 ar,a3.tmps.getD 52 ar,a3.tmps.getD 53 ar,a3.tmps.getD 8 ar]:List aj)[1]?=some x/\w3.heap[wo.heap.size]?=some (au (b.cells (ae pm lm cm) (ae pn ln cn) x) 119 (0,0)):=hR.val 13;have ha:=hR.lits 71 rfl;simp only[aQ,cg,nQ] at ha;rw[hR.kp 0,hR.kp 1,hR.kp 2,hR.kp 3,hR.kp 4,hR.kp 5,hR.kp 6,hR.kp 7,hR.kp 9,hR.kp 12,hR.kp 13,hR.kp 14,hR.kp 15,hR.kp 16,hR.kp 17,hR.kp 18,hR.kp 19,hR.kp 20,hR.kp 21,hR.kp 22,hR.kp 23,hR.kp 24,hR.kp 25,hR.kp 26,hR.kp 27,hR.kp 28,hR.kp 29,hR.kp 30,hR.kp 31,hR.kp 32,hR.kp 33,hR.kp 34,hR.kp 57,hR.kp 58,hR.kp 59,hR.kp 60,hR.kp 61,hR.kp 62,hR.kp 63,hR.kp 64,hR.kp 65,hR.kp 66,hR.kp 67,hR.kp 68,hR.kp 69,hR.kp 70] at ha;simp only[kO,gb,f_] at ha;clear hR;obtain⟨p8n,c8n,e8,ho8⟩:=Oj;obtain⟨p53,c53,e53,aaf⟩:=e9;obtain⟨x,ex,zE⟩:=Ma;have ex2:a3.tmps.getD 53 ar=x:=a7 ex;rw[e53] at ex2 aaf;subst ex2;rw[e8] at ho8;rw[e8] at ha;generalize a3.tmps.getD=zz at ha;have o8:=ai hS.below;have HOb:=ai zE;have HN8:=ai ho8;have aiX:=ai aaf;clear e8 e53 ex ho8 aaf zE hS;subst ha;go_wp2;go_roundw
      case rel=>
       refine⟨j+1,ae p53 (k+1) c53,oM,sM,?_,?_,HOb.out,o8.out⟩
       .rw[H1.out,mP,eG,HKk.out,HXs.out];exact HN8.out
       rw[H1.out,mP,HKk.out,HPs.out,Np,HYs.out];exact aiX.out
      case measure=>simp[intOf];omega
    obtain rfl:lk=j:=oM;rename ak=>wc;obtain⟨p8,c8,rfl⟩:=dV Hy;obtain⟨TA,c14,rfl⟩:=dV AV;obtain⟨p6,c6,rfl⟩:=dV HO6.out;have hpl:(nB ms (dT lk M)).length=(dT lk M).length:=KS ms _ fun i hi=>by rw[Sx.out];simp[dT] at hi;exact hi.1
    have SJ:=Tz HMo.out (n:=lk) (mask:=M) (by rw[Sx.out];exact aJ _)
    have hrk:Reads wc (ae TA (dT lk M).length c14) (nB ms (dT lk M)).length (dM (nB ms (dT lk M))):=by
     rw[hpl];exact Reads.jL AV oM (by rw[p_,hpl];omega)
    have hwc:Bw w wc:=xF.out.trans (yM.mono Kb);obtain⟨r2,hr2⟩:∃r2,decide (aT b ml ss (nB ms (dT lk M))≠[])=r2:=⟨_,rfl⟩
    have hso:=HSo.out _ _ r2 hr2 SJ wc hwc hrk;have adT:mS b ml ss ms M = !r2:=by unfold mS;rw[Sx.out,<-hr2];simp
    have Xv:=QX b ml ss ms M;rw[adT] at Xv;have hcI:uD ms.length M=(dT lk M).map fun(i:Nat)=>(i:Int):=by rw[Sx.out];rfl
    rw[hcI] at Xv;obtain⟨y0,y1,y2,y3,y4,y5,y6,y7,y8,y9,M7,O3,OZ,OY,Ki⟩:=bU VT;have Ug:wc.ownsRow w.heap.size 3 1 (ae p8 (dT lk M).length c8) (dT lk M).length ((dT lk M).map fun(i:Nat)=>aD af (i:Int)):=ownsRow_base Hy oM;have aeP:=ai hso;have HOd:=ai Xv;have HO8:=ai Ug;have HWc:=ai hwc;have Sw:=ai yM
    have hrl:rows.length<=M:=by
     have h1:=congrArg List.length HRw.out;have h2:=List.length_filter_le (mS b ml ss ms) (aQ M);unfold Eo at h1;simp at h1 h2;omega
    clear hso Xv Ug Hy AV hwc yM VT SJ hrk hpl hcI adT x0 x1 x2 x3 x4 x5 x6 x7 x8 x9 qo qm rj qX q7 z14 ah6;generalize dT lk M=C at *
    go_wp2_with (first
     |(go_at_call 119;refine aeP.out.mono ?_;clear aeP;rintro e w5 ⟨rfl,hb5⟩
       have HB5:=ai hb5;have hs5:=hb5.size;clear hb5 y0 y1 y2 y3 y4 y5 y6 y7 y8 y9 M7 O3 OZ OY Ki)
     |(at_builtin
       have hQ1:∀(i:Nat) (u:aj),([ae p8 C.length c8]:List aj)[i]?=some u->(w5.alloc (au #[ae p8 C.length c8] 25)).cell? ((⟨w5.heap.size,0,none⟩:cJ).add i)=some u:=fun i u hj=>by
        match i,hj with
        |0,hj=>simp at hj;subst hj;simp[mg]
       have Jr:Bw wo w5:=Sw.out.trans (HB5.out.mono oM);have aaN:w5.ownsRow w.heap.size 25 1 (ae p6 rows.length c6) rows.length (rows.map (·.1)):=dW HO6.out Jr;have Ym:=ai aaN;refine iM _ rfl _ _ 116 rfl w.heap.size 25 i2 (ae none 0 0) 1 24 Tryz.underlying116 hi2 hx0 hx1 hx2 rfl dC (ae p6 rows.length c6) rows.length (rows.map (·.1)) rfl (aaN.alloc _) ⟨w5.heap.size,0,none⟩ 1 1 [ae p8 C.length c8] rfl rfl hQ1 (by simp[bK]) (by unfold kW;omega) oM sO ?_;intro v' w7 Uh hgrow hnil
       obtain⟨p7,c7,rfl⟩:=dV Uh))
    .have e2:r2=false:=by simp_all
     subst e2;have Cl:∀q,(ae p6 rows.length c6:aj).ownBlock=some q->w.heap.size<=q:=fun q hq=>(Ym.out.lt q hq).1;have hb7:Bw w w7:=((xF.out.trans (Jr.mono Kb)).alloc oM _).grown hgrow sO Cl;have hn5:∀q,q<w5.heap.size->some q≠(ae p6 rows.length c6:aj).ownBlock->w7.heap[q]?=w5.heap[q]?:=fun q hq hne=>(hgrow.block q sO hne).trans (aW _ _ _ hq);have kK:∀ {base size v n xs},w5.ownsRow base 3 size v n xs->w7.ownsRow base 3 size v n xs:=fun h=>fV h fun q hq=>hn5 q (h.lt q hq).2 (zh h Ym.out dC hq);have hk5:=(Jr.block _ Xl).trans HKw.out;have hx5:=(Jr.block _ hwx).trans HXw.out;have hk7:=(hn5 _ oM (lN Ym.out hk5 dC)).trans hk5;have hx7:=(hn5 _ oM (lN Ym.out hx5 dC)).trans hx5
     have HR7:mQ (∀r∈rows++[((ae p8 C.length c8:aj),C.map fun(i:Nat)=>(i:Int))],w7.ownsRow w.heap.size 3 1 r.1 r.2.length (r.2.map (aD af))):=ai fun r hr=>by
      rcases bJ.1 hr with h|h
      .exact kK (dW (HOr.out r h) Jr)
      rw[kh] at h;subst h;simp only[fM,List.map_map];exact kK (dW HO8.out HB5.out)
     have HB7:=ai hb7;have HK7:=ai hk7;have HX7:=ai hx7;have HO7:=ai Uh;clear hb7 hn5 kK hk5 hx5 hk7 hx7 Uh hgrow hnil hQ1 aaN Jr Cl;go_roundw
     case rel=>
      refine⟨M+1,rows++[((ae p8 C.length c8:aj),C.map fun(i:Nat)=>(i:Int))],oM,sM,?_,?_,HR7.out,HK7.out,HX7.out,HB7.out⟩
      .rw[HOd.out,eG,HRw.out];rfl
      rw[mP,eG];exact HO7.out
     case measure=>simp[intOf];omega
    have e2:r2=true:=by simp_all
    subst e2;have Jr:Bw wo w5:=Sw.out.trans (HB5.out.mono oM);have HW5:=ai Jr;clear Jr;go_roundw
    case rel=>
     refine⟨M+1,rows,oM,sM,?_,dW HO6.out HW5.out,fun r hr=>dW (HOr.out r hr) HW5.out,(HW5.out.block _ Xl).trans HKw.out,(HW5.out.block _ hwx).trans HXw.out,xF.out.trans (HW5.out.mono Kb)⟩;rw[HOd.out,HRw.out];simp
    case measure=>simp[intOf];omega
  obtain rfl:N=M:=oM;rename ak=>wz;have hz:=eb.size
  obtain⟨f,rest,rfl⟩:∃f rest,rows=f::rest:=by
   cases rows with
   |nil=>
    have h1:=ZJ HE.out;rw[Sx.out,<-HN0.out] at h1;exact absurd EF.symm h1
   |cons f rest=>exact⟨f,rest,rfl⟩
  have hfr:∀r∈f::rest,sk wz r:=fun r hr=>Reads.jL (PI r hr) (by
   have h1:r.2∈Eo b ml ss ms N:=by rw[<-EF];exact List.mem_map_of_mem hr
   unfold Eo at h1;obtain⟨m,_,h2⟩:=List.mem_map.1 h1;rw[<-h2];unfold uD;have:=qI ms.length m;rw[fM,Sx.out] at *
   omega) sM
  have hcl:qJ b ml ss ms=(nX f rest).2:=by
   unfold qJ;rw[if_neg (by simp[HE.out]),Sx.out,<-HN0.out,<-EF,Ie];rfl
  have Rw:sk wz (nX f rest):=hfr _ (by
   rcases tH rest f with h|h
   .rw[h];simp
   exact bY _ h)
  have hrl:rest.length+1<=N:=by
   have h1:=congrArg List.length EF;have h2:=List.length_filter_le (mS b ml ss ms) (aQ N);unfold Eo at h1;simp at h1 h2;omega
  obtain⟨go,cap,rfl,hgo,LG,hcell⟩:∃go cap,u6=ae (some ⟨go,0,none⟩) (rest.length+1) cap/\go<wz.heap.size/\rest.length+1<=cap/\∀j u,((f::rest).map (·.1))[j]?=some u->wz.cell? ⟨go,0+j,none⟩=some u:=by
   have h1:=Reads.jL Lq sO sM;rcases Lq.2 with⟨_,h0⟩|⟨g,cap,cur,rfl,_,hg,_⟩
   .simp at h0
   rcases h1 with⟨h2,_⟩|⟨g2,off,abp,h2,h3,h4,h5⟩
   .cases h2
   cases h2;exact⟨g,cap,rfl,h4,h3.2,h5⟩
  have HC0:mQ (∀w,Bw wz w->w.cell? ⟨go,0,none⟩=some f.1):=ai fun w hb=>(hb.cell (p:=⟨go,0,none⟩) hgo).trans (hcell 0 _ rfl)
  have Sv:mQ (∀w,Bw wz w->Reads w (ae (if cap=1 then some ⟨go,0,none⟩ else some ⟨go,1,none⟩) rest.length (cap-1)) rest.length (rest.map (·.1))):=ai fun w hb=>
   if h1:cap=1 then by
    have h0:rest=[]:=aX oM;subst h0;rw[if_pos h1];exact .inr ⟨go,0,cap-1,rfl,⟨sM,sM⟩,bD hgo hb.size,fun j u hj=>by simp at hj⟩
   else by
   rw[if_neg h1]
   exact .inr ⟨go,1,cap-1,rfl,oM,bD hgo hb.size,fun j u hj=>(hb.cell (p:=⟨go,_,none⟩) hgo).trans (by
    have:=hcell (j+1) u (by simpa using hj)
    rwa [show 0+(j+1)=1+j by omega] at this)⟩
  have HBe:mQ (∀W,Bw wz W->a_ aq 120 #[.func (.func 121) #[] #[],f.1,ae (if cap=1 then some ⟨go,0,none⟩ else some ⟨go,1,none⟩) rest.length (cap-1)] W fun e w'=>e=aU (nX f rest).1/\Bw W w'):=ai fun W hb=>
   R9 f rest _ W ((hfr f sM).below hb) (fun r hr=>(hfr r (bY _ hr)).below hb) (Sv.out W hb)
  obtain⟨pf,cf,YS,_⟩:=aR (hfr f sM);obtain⟨pb,cb,VX,_⟩:=aR Rw
  have HBm:mQ (∀W,Bw wz W->Reads W (ae pb (qJ b ml ss ms).length cb) (qJ b ml ss ms).length ((qJ b ml ss ms).map (aD af))):=ai fun W hb=>by
   have:=Rw.below hb;unfold sk at this;rw[VX] at this;rw[hcl];exact this
  rw[YS] at HC0 HBe;rw[VX,<-hcl] at HBe;generalize VW:(qJ b ml ss ms).length=cn at *;have HCn:=ai VW;clear VW;generalize f.2.length=fn at *;have HNz:=ai eb;clear EF Lq PI hkw hxw eb hfr hcl Rw hcell YS VX Sv;generalize rest.length=Rn at *;have l2:(1:Int)<=(Rn:Int)+1:=oM;go_wp2
  refine cj kQ [
  pV (ae (some ⟨go,0,none⟩) (Rn+1) cap),
   pV (pv go 0),
   pV (ae pf fn cf),
   pV (ae (some ⟨go,0,none⟩) (Rn+1) cap),
   pV (ae (if cap=1 then some ⟨go,0,none⟩ else some ⟨go,1,none⟩) Rn (cap-1)),
   pV (ae pb cn cb),
   pV (ae pb cn cb),
   pV (ag af 0)]
   (fun w9=>Bw wz w9) [(6,ae (some ⟨go,0,none⟩) (Rn+1) cap)] kQ ?rst (fun w1 w2 h hb=>h.trans (hb.mono h.size)) ((ay _ _).drew) ⟨rfl,trivial⟩ ?reach ?rfin
  case rst=>
   refine⟨sV,sV,sV,sV,sV,sV,sV,sV,trivial⟩
  case reach=>
   refine⟨?_,?_,?_,?_,?_,?_,?_,?_,trivial⟩<;>rintro ev w1 hS hc hg hf ⟨b6,-⟩ hd
   .exact tV
   .have d0:ev (aI 65)=_:=hd.1 rfl;exact tV
   .have d1:ev (aI 66)=_:=hd.1 rfl;have z:=HC0.out w1 hS;exact tV
   .exact tV
   .have d3:ev (aI 68)=_:=hd.1 rfl;exact tV
   .have d2:ev (aI 67)=_:=hd.1 rfl;have d4:ev (aI 69)=_:=hd.2.1 rfl;refine yc (HBe.out w1 hS) ?_ fun _=>rfl;go_simp
   .have d5:ev (aI 70)=_:=hd.1 rfl;exact tV
   exact tV
  case rfin=>
   intro a3 w3 hR;have hS:=hR.s;have e6:a3.tmps.getD 2 ar=_:=hR.val 6;have e7:a3.tmps.getD 3 ar=_:=hR.val 7;have ha:=hR.lits 71 rfl;simp only[aQ,cg,nQ] at ha;clear hR;rw[e6,e7] at ha;generalize a3.tmps.getD=zz at ha;have o8:=ai hS;clear e6 e7 hS;subst ha;go_wp2;go_ret2;exact⟨_,rfl,by rw[HCn.out];exact HBm.out _ o8.out,HNz.out.trans (o8.out.mono oM)⟩
def gZ:List Int->List Int->Bool
 |_,[]=>false
 |[],_::_=>true
 |x::xs,y::ys=>if x<y then true else if y<x then false else gZ xs ys
def JM(xs ys:List Int)(k:Nat)(h1:k<xs.length)(h2:k<ys.length):gZ (xs.drop k) (ys.drop k)=if xs[k]<ys[k] then true else if ys[k]<xs[k] then false else gZ (xs.drop (k+1)) (ys.drop (k+1)):=by
 rw[dO h1,dO h2];rfl
def zN:∀(xs ys:List Int),(!gZ xs ys && !gZ ys xs)=decide (xs=ys)
 |[],[]=>rfl
 |[],_::_=>by simp[gZ]
 |_::_,[]=>by simp[gZ]
 |x::xs,y::ys=>by
  have ih:=zN xs ys;unfold gZ
  by_cases h1:x<y
  .have:x≠y:=oM;simp[h1,this]
  by_cases h2:y<x
  .have:x≠y:=oM;simp[h2,this]
  have:x=y:=oM;subst this;simp only[Int.lt_irrefl,if_false,List.cons.injEq,true_and];exact ih
def Cu(xs ys:List Int)(v1 v2:aj)(w:ak)(h1:Reads w v1 xs.length (xs.map (aD af)))(h2:Reads w v2 ys.length (ys.map (aD af))) :
  a_ aq 46 #[v1,v2] w (Rt w (aA (gZ xs ys))):=by
 obtain⟨p1,c1,rfl,hb1⟩:=aR h1;obtain⟨p2,c2,rfl,hb2⟩:=aR h2
 have cell:∀ {zs:List Int} {p:Option cJ} {c:Nat},Reads w (ae p zs.length c) zs.length (zs.map (aD af))->∀k (hk:k<zs.length),∃g off,p=some ⟨g,off,none⟩/\g<w.heap.size/\w.cell? ⟨g,off+k,none⟩=some (ag af zs[k]):=by
  rintro zs p c (⟨h,_⟩|⟨g,off,cap,h,_,hg,hc⟩) k hk
  .cases zs with
   |nil=>simp at hk
   |cons z zs=>simp at h
  cases h;exact⟨g,off,rfl,hg,hc k _ (by simp[hk])⟩
 have Qf:=ai (cell h1);have HC2:=ai (cell h2);clear cell h1 h2
 go_enter Tryz.func46,Tryz.ntmps46
 go_wp2
 go_loopw [5] (fun i wr=>∃k:Nat,k<=ys.length/\k<=xs.length/\i=ag af k/\gZ xs ys=gZ (xs.drop k) (ys.drop k)/\Bw w wr) (fun i _=>ys.length-(intOf i).toNat)
 case atStart=>exact⟨0,oM,oM,rfl,sM,ay _ _⟩
 case round=>
  obtain⟨k,hk2,pP,rfl,he,eb⟩:=hrel;have hsz:=eb.size;have HE:=ai he;have xF:=ai eb;clear he eb
  by_cases hlt:k<ys.length
  .obtain⟨g2,o2,hp2,hg2,hc2⟩:=HC2.out k hlt;have HY:mQ (∀w9,Bw wr w9->w9.cell? ⟨g2,o2+k,none⟩=some (ag af ys[k])):=ai fun w9 h9=>((xF.out.trans (h9.mono hsz)).cell (p:=⟨g2,o2+k,none⟩) hg2).trans hc2
   by_cases hx:k<xs.length
   .obtain⟨g1,o1,hp1,hg1,hc1⟩:=Qf.out k hx;have HX:mQ (∀w9,Bw wr w9->w9.cell? ⟨g1,o1+k,none⟩=some (ag af xs[k])):=ai fun w9 h9=>((xF.out.trans (h9.mono hsz)).cell (p:=⟨g1,o1+k,none⟩) hg1).trans hc1;have hst:=JM xs ys k hx hlt;subst hp1;subst hp2;clear hc1 hc2 Qf HC2;generalize xs[k]=x at *;generalize ys[k]=y at *;generalize uB:xs.length=n1 at *;generalize yN:ys.length=n2 at *;have HN1:=ai uB;have HN2:=ai yN;have Vy:=ai hst;clear uB yN hst;have hge:decide ((n1:Int)<=(k:Int))=false:=decide_eq_false oM;have aav:decide (n1<=k)=false:=decide_eq_false oM;obtain⟨lt,CW⟩:∃lt,decide (x<y)=lt:=⟨_,rfl⟩
    go_wp2
    refine Gd.cj kQ [
    pV (ag af k),
     pV (ae (some ⟨g1,o1,none⟩) n1 c1),
     pV (ag af n1),
     pV (aA false),
     pV (aA false),
     pV (ae (some ⟨g1,o1,none⟩) n1 c1),
     pV (ag af k),
     pV (pv g1 (o1+k)),
     pV (ag af x),
     pV (ae (some ⟨g2,o2,none⟩) n2 c2),
     pV (ag af k),
     pV (pv g2 (o2+k)),
     pV (ag af y),
     pV (aA lt),
     pV (aA lt)]
     (fun w9=>Bw wr w9) [(0,ae (some ⟨g1,o1,none⟩) n1 c1),(1,ae (some ⟨g2,o2,none⟩) n2 c2),(5,ag af k)] kQ ?rst (fun w1 w2 h hb=>h.trans (hb.mono h.size)) ((ay _ _).drew) ⟨rfl,rfl,rfl,trivial⟩ ?reach ?rfin
    case rst=>
     refine⟨sV,sV,sV,sV,sV,sV,sV,sV,sV,sV,sV,sV,sV,sV,sV,trivial⟩
    case reach=>
     refine⟨?_,?_,?_,?_,?_,?_,?_,?_,?_,?_,?_,?_,?_,?_,?_,trivial⟩<;>rintro ev w1 hS hc hg hf ⟨b0,b1,b5,-⟩ hd
     .exact tV
     .exact tV
     .have d1:ev (aI 13)=_:=hd.1 rfl;exact tV
     .have d0:ev (aI 12)=_:=hd.1 rfl;have d2:ev (aI 14)=_:=hd.2.1 rfl;exact tV
     .have d3:ev (aI 15)=_:=hd.1 rfl;exact tV
     .have d4:ev (aI 16)=_:=hd.1 rfl;refine gL d4 ?_;exact tV
     .have d4:ev (aI 16)=_:=hd.1 rfl;refine gL d4 ?_;exact tV
     .have d5:ev (aI 17)=_:=hd.1 rfl;have d6:ev (aI 18)=_:=hd.2.1 rfl;have d4:ev (aI 16)=_:=hd.2.2.1 rfl;refine gL d4 ?_;exact tV
     .have d7:ev (aI 19)=_:=hd.1 rfl;have d4:ev (aI 16)=_:=hd.2.1 rfl;refine gL d4 ?_;have z:=HX.out w1 hS;exact tV
     .have d4:ev (aI 16)=_:=hd.1 rfl;refine gL d4 ?_;exact tV
     .have d4:ev (aI 16)=_:=hd.1 rfl;refine gL d4 ?_;exact tV
     .have d9:ev (aI 21)=_:=hd.1 rfl;have d10:ev (aI 22)=_:=hd.2.1 rfl;have d4:ev (aI 16)=_:=hd.2.2.1 rfl;refine gL d4 ?_;exact tV
     .have d11:ev (aI 23)=_:=hd.1 rfl;have d4:ev (aI 16)=_:=hd.2.1 rfl;refine gL d4 ?_;have z:=HY.out w1 hS;exact tV
     .have d8:ev (aI 20)=_:=hd.1 rfl;have d12:ev (aI 24)=_:=hd.2.1 rfl;have d4:ev (aI 16)=_:=hd.2.2.1 rfl;refine gL d4 ?_;refine yv ?_ rfl;rw[<-CW];go_simp
     have d4:ev (aI 16)=_:=hd.1 rfl;have d13:ev (aI 25)=_:=hd.2.1 rfl;exact tV
    case rfin=>
     intro a3 w3 hR;have hS:=hR.s;have F4:a3.tmps.getD 26 ar=_:=hR.val 14;have ha:=hR.lits 36 rfl;simp only[aQ,cg,nQ] at ha;rw[hR.kp 0,hR.kp 1,hR.kp 2,hR.kp 3,hR.kp 4,hR.kp 5] at ha;simp only[kO,gb,f_] at ha;clear hR;rw[F4] at ha;generalize a3.tmps.getD=zz at ha;have o8:=ai hS;clear F4 hS;subst ha;cases lt
     .have h3:¬x<y:=by simpa using CW
      obtain⟨gt,aas⟩:∃gt,decide (y<x)=gt:=⟨_,rfl⟩
      go_wp2
      refine Gd.cj kQ [
      pV (ae (some ⟨g1,o1,none⟩) n1 c1),
       pV (ag af k),
       pV (pv g1 (o1+k)),
       pV (ag af x),
       pV (ae (some ⟨g2,o2,none⟩) n2 c2),
       pV (ag af k),
       pV (pv g2 (o2+k)),
       pV (ag af y),
       pV (aA gt)]
       (fun w9=>Bw w3 w9) [(0,ae (some ⟨g1,o1,none⟩) n1 c1),(1,ae (some ⟨g2,o2,none⟩) n2 c2),(5,ag af k)] kQ ?rst (fun w1 w2 h hb=>h.trans (hb.mono h.size)) ((ay _ _).drew) ⟨rfl,rfl,rfl,trivial⟩ ?reach ?rfin
      case rst=>
       refine⟨sV,sV,sV,sV,sV,sV,sV,sV,sV,trivial⟩
      case reach=>
       refine⟨?_,?_,?_,?_,?_,?_,?_,?_,?_,trivial⟩<;>rintro ev w1 hS hc hg hf ⟨b0,b1,b5,-⟩ hd
       .exact tV
       .exact tV
       .have d0:ev (aI 27)=_:=hd.1 rfl;have d1:ev (aI 28)=_:=hd.2.1 rfl;exact tV
       .have d2:ev (aI 29)=_:=hd.1 rfl;have z:=HX.out w1 (o8.out.trans (hS.mono o8.out.size));exact tV
       .exact tV
       .exact tV
       .have d4:ev (aI 31)=_:=hd.1 rfl;have d5:ev (aI 32)=_:=hd.2.1 rfl;exact tV
       .have d6:ev (aI 33)=_:=hd.1 rfl;have z:=HY.out w1 (o8.out.trans (hS.mono o8.out.size));exact tV
       have d3:ev (aI 30)=_:=hd.1 rfl;have d7:ev (aI 34)=_:=hd.2.1 rfl;refine yv ?_ rfl;rw[<-aas];go_simp
      case rfin=>
       intro a4 w4 hR;have hS:=hR.s;have e8:a4.tmps.getD 35 ar=_:=hR.val 8;have ha:=hR.lits 36 rfl;simp only[aQ,cg,nQ] at ha;rw[hR.kp 0,hR.kp 1,hR.kp 2,hR.kp 3,hR.kp 4,hR.kp 5] at ha;simp only[kO,gb,f_] at ha;clear hR;rw[e8] at ha;generalize a4.tmps.getD=zz at ha;have HB4:=ai hS;clear e8 hS;subst ha;cases gt
       .have h4:¬y<x:=by simpa using aas
        have hs:=Vy.out;rw[if_neg (show ¬x<y by omega),if_neg (show ¬y<x by omega)] at hs;have HS:=ai hs;clear hs;go_wp2;go_roundw
        case rel=>exact⟨k+1,oM,oM,by go_num,by rw[HE.out,HS.out],xF.out.trans ((o8.out.trans (HB4.out.mono o8.out.size)).mono hsz)⟩
        case measure=>simp[intOf];omega
       have h4:y<x:=by simpa using aas
       have hs:=Vy.out;rw[if_neg (show ¬x<y by omega),if_pos (show y<x by omega)] at hs;have HS:=ai hs;clear hs;go_wp2
       go_ret
       exact⟨by rw[HE.out,HS.out];rfl,xF.out.trans ((o8.out.trans (HB4.out.mono o8.out.size)).mono hsz)⟩
     have h3:x<y:=by simpa using CW
     have hs:=Vy.out;rw[if_pos (show x<y by omega)] at hs;have HS:=ai hs;clear hs;go_wp2
     go_ret
     exact⟨by rw[HE.out,HS.out];rfl,xF.out.trans (o8.out.mono hsz)⟩
   obtain rfl:xs.length=k:=oM
   have hres:gZ xs ys=true:=by
    rw[HE.out,List.drop_length,dO hlt];rfl
   have abF:=ai hres;clear hres hc2 HY Qf HC2;generalize uB:xs.length=n1 at *;generalize yN:ys.length=n2 at *;clear uB yN;have hge:decide ((n1:Int)<=(n1:Int))=true:=decide_eq_true oM;go_wp2
   refine Gd.cj kQ [
   pV (ag af n1),
    pV (ae p1 n1 c1),
    pV (ag af n1),
    pV (aA true),
    pV (aA true),
    fun v ds w9=>True,
    fun v ds w9=>True,
    fun v ds w9=>True,
    fun v ds w9=>True,
    fun v ds w9=>True,
    fun v ds w9=>True,
    fun v ds w9=>True,
    fun v ds w9=>True,
    fun v ds w9=>True,
    pV (aA true)]
    (fun w9=>Bw wr w9) [(0,ae p1 n1 c1),(1,ae p2 n2 c2),(5,ag af n1)] kQ ?rst (fun w1 w2 h hb=>h.trans (hb.mono h.size)) ((ay _ _).drew) ⟨rfl,rfl,rfl,trivial⟩ ?reach ?rfin
   case rst=>
    refine⟨sV,sV,sV,sV,sV,kS,kS,kS,kS,kS,kS,kS,kS,kS,sV,trivial⟩
   case reach=>
    refine⟨?_,?_,?_,?_,?_,?_,?_,?_,?_,?_,?_,?_,?_,?_,?_,trivial⟩<;>rintro ev w1 hS hc hg hf ⟨b0,b1,b5,-⟩ hd
    .exact tV
    .exact tV
    .have d1:ev (aI 13)=_:=hd.1 rfl;exact tV
    .have d0:ev (aI 12)=_:=hd.1 rfl;have d2:ev (aI 14)=_:=hd.2.1 rfl;exact tV
    .have d3:ev (aI 15)=_:=hd.1 rfl;exact tV
    .have d4:ev (aI 16)=_:=hd.1 rfl;refine⟨fun hgd=>absurd (d4.symm.trans hgd) sM,fun hgd=>⟨trivial,cz (ay _ _)⟩⟩
    .have d4:ev (aI 16)=_:=hd.1 rfl;refine⟨fun hgd=>absurd (d4.symm.trans hgd) sM,fun hgd=>⟨trivial,cz (ay _ _)⟩⟩
    .have d4:ev (aI 16)=_:=hd.2.2.1 rfl;refine⟨fun hgd=>absurd (d4.symm.trans hgd) sM,fun hgd=>⟨trivial,cz (ay _ _)⟩⟩
    .have d4:ev (aI 16)=_:=hd.2.1 rfl;refine⟨fun hgd=>absurd (d4.symm.trans hgd) sM,fun hgd=>⟨trivial,cz (ay _ _)⟩⟩
    .have d4:ev (aI 16)=_:=hd.1 rfl;refine⟨fun hgd=>absurd (d4.symm.trans hgd) sM,fun hgd=>⟨trivial,cz (ay _ _)⟩⟩
    .have d4:ev (aI 16)=_:=hd.1 rfl;refine⟨fun hgd=>absurd (d4.symm.trans hgd) sM,fun hgd=>⟨trivial,cz (ay _ _)⟩⟩
    .have d4:ev (aI 16)=_:=hd.2.2.1 rfl;refine⟨fun hgd=>absurd (d4.symm.trans hgd) sM,fun hgd=>⟨trivial,cz (ay _ _)⟩⟩
    .have d4:ev (aI 16)=_:=hd.2.1 rfl;refine⟨fun hgd=>absurd (d4.symm.trans hgd) sM,fun hgd=>⟨trivial,cz (ay _ _)⟩⟩
    .have d4:ev (aI 16)=_:=hd.2.2.1 rfl;refine⟨fun hgd=>absurd (d4.symm.trans hgd) sM,fun hgd=>⟨trivial,cz (ay _ _)⟩⟩
    have d4:ev (aI 16)=_:=hd.1 rfl;exact tV
   case rfin=>
    intro a3 w3 hR;have hS:=hR.s;have F4:a3.tmps.getD 26 ar=_:=hR.val 14;have ha:=hR.lits 36 rfl;simp only[aQ,cg,nQ] at ha;rw[hR.kp 0,hR.kp 1,hR.kp 2,hR.kp 3,hR.kp 4,hR.kp 5] at ha;simp only[kO,gb,f_] at ha;clear hR;rw[F4] at ha;generalize a3.tmps.getD=zz at ha;have o8:=ai hS;clear F4 hS;subst ha;go_wp2
    go_ret
    exact⟨by rw[abF.out];rfl,xF.out.trans (o8.out.mono hsz)⟩
  obtain rfl:ys.length=k:=oM
  have hres:gZ xs ys=false:=by
   rw[HE.out,List.drop_length];cases(xs.drop ys.length)<;>rfl
  have abF:=ai hres;clear hres Qf HC2;generalize uB:xs.length=n1 at *;generalize yN:ys.length=n2 at *;clear uB yN;go_wp2
  go_ret
  exact⟨by rw[abF.out];rfl,xF.out⟩
def yZ(xs ys:List Int)(v1 v2:aj)(w:ak)(h1:Reads w v1 xs.length (xs.map (aD af)))(h2:Reads w v2 ys.length (ys.map (aD af))) :
  a_ aq 22 #[v1,v2] w (Rt w (aA (decide (xs=ys)))):=by
 have hA:∀W,Bw w W->a_ aq 46 #[v1,v2] W fun e w'=>e=aU (aA (gZ xs ys))/\Bw W w':=fun W hb=>Cu xs ys v1 v2 W (h1.below hb) (h2.below hb);have hB:∀W,Bw w W->a_ aq 46 #[v2,v1] W fun e w'=>e=aU (aA (gZ ys xs))/\Bw W w':=fun W hb=>Cu ys xs v2 v1 W (h2.below hb) (h1.below hb);obtain⟨p1,c1,rfl,_⟩:=aR h1;obtain⟨p2,c2,rfl,_⟩:=aR h2;rw[<-zN];generalize gZ xs ys=r at *;generalize gZ ys xs=s at *;generalize xs.length=n1 at *;generalize ys.length=n2 at *;have HA:=ai hA;have HB:=ai hB;clear hA hB h1 h2;cases r
 .go_enter Tryz.func22,Tryz.ntmps22
  go_wp2_with fail
  refine(HA.out w (ay _ _)).mono ?_;rintro e w1 ⟨rfl,hb1⟩;have H1:=ai hb1;clear hb1
  go_wp2_with fail
  refine(HB.out w1 H1.out).mono ?_;rintro e w2 ⟨rfl,hb2⟩;have H2:=ai hb2;clear hb2;go_wp2
  go_ret
  exact⟨rfl,H1.out.trans (H2.out.mono H1.out.size)⟩
 go_enter Tryz.func22,Tryz.ntmps22
 go_wp2_with fail
 refine(HA.out w (ay _ _)).mono ?_;rintro e w1 ⟨rfl,hb1⟩;have H1:=ai hb1;clear hb1;go_wp2
 go_ret
 exact⟨rfl,H1.out⟩
end Go.Proofs.YtffladgmkiimjaaGreatDoor
