/- THE BELL IN PLAIN LEAN: a book's numbers, plans by bits, the air minut .. -/
import Derived.WalkKit
import Derived.Lib.Hide
import Derived.Deep.RegionHeld3
import Derived.RangeFuncRecord
import Derived.Maps.OwnOps
import Derived.Test.YtffladgmkiimjaaGreatDoorRows
import Derived.LaidMore
import Derived.OpenShut
import Derived.ProofKit
import Derived.OrdersIn
set_option linter.all false
set_option maxHeartbeats 0
set_option maxRecDepth 1000000
open Array renaming getElem?_eq_getElem -> aN,getD_eq_getD_getElem? -> aZ,getElem?_eq_some_iff -> ag,getElem?_setIfInBounds -> bD,replicate -> bz,getD -> eM,mem_of_getElem? -> fB,getElem?_eq_none -> fS,getElem_toList -> r7,getElem?_replicate -> rS
open Bool renaming and_eq_true -> aI,false_eq_true -> bF
open Go renaming Program -> aK,TypeId -> aV,Value -> ai,World -> ak,undef -> au,Operand -> bI,Calls -> bm,execOp -> cC,Oper -> cY,FuncId -> en,Tmp -> j5,Act -> jY,underlying -> jr,yielded -> ku,step -> oV,MapEntry -> vx
open Go.Addr renaming add -> jh
open Go.Code renaming region -> CV
open Go.Ending renaming returned -> aU,returned -> bq
open Go.Instr renaming mapUpdate -> BF,findKey -> Eu,findAsking -> jH,index -> nw
open Go.IntKind renaming i64 -> af
open Go.Lib renaming hid -> aj
open Go.Obj renaming cells -> ar
open Go.Proofs.Tryz renaming prog -> aq,underlying25 -> dt
open Go.Region renaming wanted -> dg,binds -> fR,ready -> ju
open Go.Result renaming andThen -> IE,andThen_ok -> lT
open Go.RowKit renaming Below -> gu
open Go.RowKit.Below renaming heap_alloc -> aY,refl -> ay
open Go.Sem renaming run_pure -> CO,run_bind -> wu
open Go.Value renaming bool -> aH,agg -> aO,slice -> ae,int -> ah,int -> ax,pointer -> fP,slice -> fU
open Go.World renaming alloc_heap_new -> aw,cell? -> dU,ownsRow_nil -> dw,cell?_alloc_lt -> eI
open List renaming getElem?_append_left -> Bt,map_congr_left -> Hn,all_eq_true -> a7,range -> aP,eq_nil_of_length_eq_zero -> a_,take_succ_eq_append_getElem -> bH,range' -> bN,mem_range -> bO,getElem_mem -> bS,take_of_length_le -> cQ,map_cons -> cV,map_append -> d_,drop_eq_getElem_cons -> eh,mem_of_mem_take -> fV,getElem_of_mem -> jJ,mem_filter -> kK,range_eq_range' -> nv,foldl_append -> ot,countP_le_length -> yQ
open List.cons renaming injEq -> BD
open Nat renaming lt_or_ge -> CQ,le_refl -> aJ,lt_of_lt_of_le -> bA,zero_add -> dz,add_assoc -> oa,mul_comm -> rR
open Ne renaming symm -> CP
open Option renaming map_some -> dK,bind_some -> gZ
open Option.some renaming inj -> aT
open Or renaming inl -> bV
open Prod.mk renaming injEq -> iA
namespace Go
def oM{p:Prop}(h:p:=by omega):p:=h
def kQ{p:Prop}(h:p:=by kernel_rfl):p:=h
def sM{p:Prop}(h:p:=by simp):p:=h
def dC{p:Prop}(h:p:=by decide):p:=h
def sO{p:Prop}(h:p:=by simp;omega):p:=h
abbrev Bw(u v:Go.World):Prop:=Go.RowKit.Below u.heap.size u v
abbrev zP:Array Go.Value:=#[ah af 0,ah af 0,ah af 0,ah af 0,ah af 0,ah af 0,ah af 0,ah af 0,ah af 0,ah af 0,ah af 0,ah af 0,ae none 0 0,ae none 0 0,ae none 0 0]
def dF{w:Go.World}{o:Go.Obj}:Bw w (w.alloc o):=(Go.RowKit.Below.refl _ _).alloc (aJ _) _
abbrev Rt(w:Go.World)(v:Go.Value):Go.Ending->Go.World->Prop:=fun e w'=>e=aU v/\Bw w w'
end Go
namespace Go.Proofs.YtffladgmkiimjaaGreatDoor
open Go
def fO(n:Int)(h₀:0<=n)(h₁:n<2 ^ 62):IntKind.i64.wrap n=n:=by rw[IntKind.wrap_i64];omega
def aaT(a b:Nat)(ha:a<2 ^ 62)(hb:b<2 ^ 62):bits .and af (a:Int) (b:Int)=((a &&& b:Nat):Int):=(bits_nat af 62 dC fO a b ha hb).1
def aev(a b:Nat)(ha:a<2 ^ 62)(hb:b<2 ^ 62):bits .or af (a:Int) (b:Int)=((a ||| b:Nat):Int):=(bits_nat af 62 dC fO a b ha hb).2
def xR(n m:Nat)(hn:n<512):(bits BinOp.and IntKind.i64 (↑n / 2 ^ m) 1==1)=n.testBit m:=by
 have e:((n:Int) / 2 ^ m)=((n / 2 ^ m:Nat):Int):=sM;have hlt:n / 2 ^ m<2 ^ 62:=Nat.lt_of_le_of_lt (Nat.div_le_self _ _) oM;rw[e,show(1:Int)=((1:Nat):Int) from rfl,aaT _ 1 hlt dC];rw[Nat.testBit_eq_decide_div_mod_eq,Nat.and_one_is_mod,Bool.eq_iff_iff];simp only[beq_iff_eq,decide_eq_true_eq];omega
structure BB where
 room:Int
 depth:Int
 least:Int
 minutes:Int
 cI:Int
 jP:Int
 ey:Int
 iC:Int
 ll:Int
 lm:Int
 pl:Int
 pm:Int
abbrev BB.cells(b:BB)(bn aL az:ai):Array Value:=#[ah af b.room,ah af b.depth,ah af b.least,ah af b.minutes,ah af b.cI,ah af b.jP,ah af b.ey,ah af b.iC,ah af b.ll,ah af b.lm,ah af b.pl,ah af b.pm,bn,aL,az]
abbrev BB.sl(b:BB)(p:Option Addr)(n c:Nat)(q:Option Addr)(k d:Nat)(r:Option Addr)(l e:Nat):Array Value:=b.cells (fU p n c) (fU q k d) (fU r l e)
abbrev BB.br(b:BB)(p:Option Addr)(n c:Nat):Array Value:=b.cells (fU p n c) (fU none 0 0) (fU none 0 0)
structure BB.Ok(b:BB):Prop where
 room:1<=b.room/\b.room<=99
 depth:0<=b.depth/\b.depth<=99
 least:0<=b.least/\b.least<=99
 minutes:1<=b.minutes/\b.minutes<=8
 cI:0<=b.cI/\b.cI<=99
 jP:0<=b.jP/\b.jP<=99
 ey:0<=b.ey/\b.ey<=3
 iC:0<=b.iC/\b.iC<=99
 leak:0<=b.ll/\b.ll<=b.lm/\b.lm<=99/\b.lm-b.ll<3
 Fs:1<=b.pl/\b.pl<=b.pm/\b.pm<=b.minutes
def BB.holds(b:BB):Int:=b.room*(33+b.depth) / 33
def BB.WW(b:BB)(n:Int):Int:=n*33 / (33+b.depth)
structure eV where
 leak:Int
 m0:Int
 m1:Int
 m2:Int
deriving DecidableEq
abbrev eV.cells(a:eV):Array Value:=#[ah af a.leak,ah af a.m0,ah af a.m1,ah af a.m2]
structure eV.Ok(a:eV):Prop where
 leak:0<=a.leak/\a.leak<=400
 m0:0<=a.m0/\a.m0<=99
 m1:0<=a.m1/\a.m1<=99
 m2:0<=a.m2/\a.m2<=99
def eV.used(a:eV):Int:=a.leak+a.m0+a.m1+a.m2
def BB.FX(b:BB)(h:b.Ok):b.room<=b.holds/\b.holds<=396:=by
 have h1:=h.room;have h2:=h.depth;unfold BB.holds;have h3:b.room*33<=b.room*(33+b.depth):=Int.mul_le_mul_of_nonneg_left oM oM;have h4:b.room*(33+b.depth)<=99*132:=Int.mul_le_mul oM oM oM oM;omega
def BB.ac4(b:BB)(h:b.Ok){n:Int}(h0:0<=n)(h1:n<=999):0<=n*33/\n*33<=32967/\0<33+b.depth/\33+b.depth<=132:=by
 have h2:=h.depth;omega
def BB.step(b:BB)(used:Int)(p:Nat)(m:Nat)(n:Int):Int:=
 max 0 (min ((n+if p.testBit m then b.jP else 0)+if b.pl<=m/\m<=b.pm then b.iC else 0) b.holds-used)
def BB.Bx(b:BB)(used:Int)(p:Nat):Nat->Int
 |0=>b.room
 |m+1=>b.step used p (m+1) (b.Bx used p m)
def BB.j9(b:BB)(used:Int)(p k:Nat):List Int:=(aP k).map fun i=>b.Bx used p (i+1)
def BB.SC(b:BB)(used:Int)(p k:Nat):b.j9 used p (k+1)=b.j9 used p k++[b.Bx used p (k+1)]:=by
 simp[BB.j9,List.range_succ]
def BB.iK(b:BB)(used:Int)(p k:Nat):(b.j9 used p k).length=k:=by simp[BB.j9]
def BB.Ql(b:BB)(h:b.Ok){used:Int}(hu:0<=used)(p:Nat):∀k,0<=b.Bx used p k/\b.Bx used p k<=396:=by
 intro k;have hh:=b.FX h;have h1:=h.room;cases k with
 |zero=>simp only[BB.Bx];omega
 |succ k=>simp only[BB.Bx,BB.step];omega
def upTo(p k:Nat):List Nat:=(bN 1 k).filter p.testBit
def IX(p k:Nat):upTo p (k+1)=upTo p k++if p.testBit (k+1) then[k+1] else[]:=by
 unfold upTo;rw[show bN 1 (k+1)=bN 1 k++[k+1] by rw[List.range'_concat];simp[Nat.add_comm]];rw[List.filter_append]
 congr 1
 by_cases h:p.testBit (k+1)<;>simp[h]
def xw(p k:Nat):(upTo p k).length<=k:=by
 unfold upTo;have:=List.length_filter_le p.testBit (bN 1 k);simpa using this
open Go.RowKit
def rh{a b:Bool}(h:a=b):bq (aH a)=aU (aH b):=by rw[h]
def iH{k:IntKind}{a b:Int}(h:a=b):bq (ah k a)=aU (ah k b):=by rw[h]
def aS(n l m:Int):Bool:=decide (l<=n)&&decide (n<=m)
def rA(n l m:Int)(w:ak):bm aq 138 #[ah af n,ah af l,ah af m] w fun e w'=>e=aU (aH (aS n l m))/\w=w':=by
 by_cases h1:l<=n
 .have h:aS n l m=decide (n<=m):=by simp[aS,h1]
  rw[h];have H:=aj h;clear h
  go_enter Tryz.func138,Tryz.ntmps138
  go_wp2
  all_goals (go_ret;first|exact⟨rfl,rfl⟩|(refine⟨rh ?_,rfl⟩;simp))
 have h:aS n l m=false:=by simp[aS,h1]
 rw[h];have H:=aj h;clear h
 go_enter Tryz.func138,Tryz.ntmps138
 go_wp2
 all_goals (go_ret;first|exact⟨rfl,rfl⟩|(refine⟨rh ?_,rfl⟩;simp))
def KQ(n m:Nat)(hn:n<512)(hm:m<9)(w:ak):bm aq 162 #[ah af n,ah af m] w fun e w'=>e=aU (aH (n.testBit m))/\w=w':=by
 go_enter Tryz.func162,Tryz.ntmps162
 go_wp2
 go_ret
 exact⟨rh (xR n m hn),rfl⟩
def info3:(Tryz.prog.info? 3).map (fun i=>(i.zero,i.size,i.bytes))=some (some (ah af 0),1,8):=kQ
def uI{B e n size:Nat}{xs:List ai}{w wr w1:ak}{u:ai}{o:Obj}(hB:B<=wr.heap.size)(hown:wr.ownsRow B e size u n xs)(eE:gu B w wr)(hgrow:(wr.alloc o).grownBy w1 u.ownBlock):gu B w w1:=
 (eE.alloc hB o).grown hgrow sO fun j hj=>(hown.lt j hj).1
def MH(p:Nat)(hp:p<512)(w:ak) :
  bm aq 99 #[ah af p] w fun e w'=>∃v,e=aU v/\w'.ownsRow w.heap.size 3 1 v (upTo p 8).length ((upTo p 8).map fun(m:Nat)=>ax af (m:Int))/\Bw w w':=by
 obtain⟨i0,hi,hz0,hz1,hz2⟩:=info_parts info3
 go_enter Tryz.func99,Tryz.ntmps99
 go_wp2
 go_loopw [3,4] (fun v i wr=>∃k:Nat,k<=8/\i=ah af (k+1)/\wr.ownsRow w.heap.size 3 1 v (upTo p k).length ((upTo p k).map fun(m:Nat)=>ax af (m:Int))/\Bw w wr)
  (fun _ i _=>9-(intOf i).toNat)
 case atStart=>exact⟨0,oM,rfl,dw _ _ _ _,ay _ _⟩
 case round=>
  obtain⟨k,hk,rfl,hown,eE⟩:=hrel;have hle:=xw p k
  by_cases hlt:k<8
  .cases hb:p.testBit (k+1)
   .have e1:upTo p (k+1)=upTo p k:=by rw[IX,hb];simp
    have hc:=KQ p (k+1) hp oM;rw[hb] at hc;have HC:=aj hc;have H1:=aj e1;clear e1 hb hc
    go_wp2_with (go_at_call 162;refine(HC.out _).mono ?_;rintro e w' ⟨rfl,rfl⟩)
    go_roundw
    case rel=>exact⟨k+1,oM,by go_num,by rw[H1.out];exact hown,eE⟩
    case measure=>simp[intOf];omega
   have e1:upTo p (k+1)=upTo p k++[k+1]:=by rw[IX,hb];simp
   have hc:=KQ p (k+1) hp oM;rw[hb] at hc;have HC:=aj hc;have H1:=aj e1;clear e1 hb hc;have hB:=eE.size
   go_wp2_with (first
    |(go_at_call 162;refine(HC.out _).mono ?_;rintro e w' ⟨rfl,rfl⟩)
    |(at_builtin;refine wpList_append_own _ rfl _ _ 25 rfl w.heap.size 3 i0 (ah af 0) 1 8 dt hi hz0 hz1 hz2 rfl dC _ _ _ rfl (hown.alloc _) ⟨wr.heap.size,0,none⟩ 1 1 [ah af (k+1)] rfl rfl ?c1 ?c2 ?c3 ?c4 ?c5 ?_))
   case c1=>
    intro j u hj
    match j,hj with
    |0,hj=>simp at hj;subst hj;simp[jh]
   case c2=>intro u hu;simp at hu;subst hu;rfl
   case c3=>unfold maxLen;omega
   case c4=>omega
   case c5=>simp;omega
   intro v' w1 hown' hgrow _;have hb1:Bw w w1:=uI hB hown eE hgrow;clear hgrow eE hown;go_wp2;go_roundw
   case rel=>exact⟨k+1,oM,by go_num,by rw[H1.out];simpa using hown',hb1⟩
   case measure=>simp[intOf];omega
  obtain rfl:k=8:=oM;go_wp2
  go_ret
  exact⟨_,rfl,hown,eE⟩
def uz(p:Nat)(hp:p<512)(w:ak):bm aq 97 #[ah af p] w (Rt w (ah af (upTo p 8).length)):=by
 go_enter Tryz.func97,Tryz.ntmps97
 go_wp2_with fail
 refine(MH p hp _).mono ?_;rintro e w1 ⟨v,rfl,hown,hb⟩;rcases hown.2 with⟨rfl,h0⟩|⟨g,cap,cur,rfl,_,_,_,_,_,_⟩
 .have H0:=aj h0;clear h0 hown;go_wp2
  go_ret
  exact⟨iH (by rw[H0.out];rfl),hb⟩
 clear hown;go_wp2
 go_ret
 exact⟨rfl,hb⟩
def Jl(b:BB)(hb:b.Ok)(bn aL az:ai)(w:ak):bm aq 115 #[aO (b.cells bn aL az)] w (Rt w (ah af b.holds)):=by
 have h1:=hb.room;have h2:=hb.depth;have h3:=b.FX hb;have h4:b.room*(33+b.depth)<=99*132:=Int.mul_le_mul oM oM oM oM;have h5:0<=b.room*(33+b.depth):=Int.mul_nonneg oM oM
 go_enter Tryz.func115,Tryz.ntmps115
 go_wp2
 go_ret
 exact⟨iH rfl,dF⟩
def KZ(b:BB)(hb:b.Ok)(bn aL az:ai)(n:Int)(hn:0<=n/\n<=999)(w:ak):bm aq 139 #[aO (b.cells bn aL az),ah af n] w (Rt w (ah af (b.WW n))):=by
 have h2:=hb.depth;have h1:=b.ac4 hb hn.1 hn.2
 go_enter Tryz.func139,Tryz.ntmps139
 go_wp2
 go_ret
 exact⟨iH rfl,dF⟩
def LQ(a:eV)(ha:a.Ok)(w:ak):bm aq 165 #[aO a.cells] w (Rt w (ah af a.used)):=by
 have h1:=ha.leak;have h2:=ha.m0;have h3:=ha.m1;have h4:=ha.m2;have ix:∀(x y z:Int) w,(nw 132 (aO #[ah af x,ah af y,ah af z]) (ah af 0)).run aq w=.ok (ah af x) w:=fun _ _ _ _=>by kernel_rfl
 have iy:∀(x y z:Int) w,(nw 132 (aO #[ah af x,ah af y,ah af z]) (ah af 1)).run aq w=.ok (ah af y) w:=fun _ _ _ _=>by kernel_rfl
 have iz:∀(x y z:Int) w,(nw 132 (aO #[ah af x,ah af y,ah af z]) (ah af 2)).run aq w=.ok (ah af z) w:=fun _ _ _ _=>by kernel_rfl
 go_enter Tryz.func165,Tryz.ntmps165
 go_wp2
 go_loop [3,10] (fun n i=>(i=ah af 0/\n=ah af a.leak)\/(i=ah af 1/\n=ah af (a.leak+a.m0))\/(i=ah af 2/\n=ah af (a.leak+a.m0+a.m1))\/(i=ah af 3/\n=ah af (a.leak+a.m0+a.m1+a.m2))) (fun _ i=>3-(intOf i).toNat)
 case atStart=>exact bV ⟨rfl,rfl⟩
 case round=>
  rcases hrel with⟨rfl,rfl⟩|⟨rfl,rfl⟩|⟨rfl,rfl⟩|⟨rfl,rfl⟩
  .go_wp2
   go_round
   case rel=>exact .inr (bV ⟨rfl,rfl⟩)
   case measure=>simp[intOf]
  .go_wp2
   go_round
   case rel=>exact .inr (.inr (bV ⟨rfl,rfl⟩))
   case measure=>simp[intOf]
  .go_wp2
   go_round
   case rel=>exact .inr (.inr (.inr ⟨rfl,rfl⟩))
   case measure=>simp[intOf]
  go_wp2
  go_ret
  exact⟨iH rfl,dF⟩
abbrev O3(b:BB)(bn aL az:ai)(a:eV)(w w':ak):Prop:=w'.cell? ⟨w.heap.size,0,none⟩=some (ah af b.room)/\w'.cell? ⟨w.heap.size,4,none⟩=some (ah af b.cI)/\w'.cell? ⟨w.heap.size+1,0,none⟩=some (ah af a.leak)/\w'.cell? ⟨w.heap.size+1,1,none⟩=some (ah af a.m0)/\w'.cell? ⟨w.heap.size+1,2,none⟩=some (ah af a.m1)/\w'.cell? ⟨w.heap.size+1,3,none⟩=some (ah af a.m2)/\gu (w.heap.size+2) ((w.alloc (ar (b.cells bn aL az) 119)).alloc (ar a.cells 134)) w'
def J8(b:BB)(bn aL az:ai)(a:eV)(w:ak):O3 b bn aL az a w ((w.alloc (ar (b.cells bn aL az) 119)).alloc (ar a.cells 134)).drew:=by
 refine⟨?_,?_,?_,?_,?_,?_,(ay _ _).drew⟩<;>go_simp
def Mm{b:BB}{bn aL az:ai}{a:eV}{w w1 w2:ak}(h:O3 b bn aL az a w w1)(hb:Bw w1 w2):O3 b bn aL az a w w2:=by
 obtain⟨h1,h2,h3,h4,h5,h6,h7⟩:=h;have hs:=h7.size;simp at hs;refine⟨(hb.cell sO).trans h1,(hb.cell sO).trans h2,(hb.cell sO).trans h3,(hb.cell sO).trans h4,(hb.cell sO).trans h5,(hb.cell sO).trans h6,h7.trans (hb.mono oM)⟩
def ownsRow_base{w:ak}{B B':Nat}{e:aV}{size:Nat}{v:ai}{n:Nat}{xs:List ai}(h:w.ownsRow B e size v n xs)(hB:B'<=B):w.ownsRow B' e size v n xs:=
 ⟨h.1,h.2.imp id fun⟨g,cap,cur,h1,h2,h3⟩=>⟨g,cap,cur,h1,Nat.le_trans hB h2,h3⟩⟩
def bZ{w:ak}{B:Nat}{b:BB}{bn aL az:ai}{T:aV}(h:w.heap[B]?=some (ar (b.cells bn aL az) T (0,0))) :
  w.cell? ⟨B,0,none⟩=some (ah af b.room)/\w.cell? ⟨B,1,none⟩=some (ah af b.depth)/\w.cell? ⟨B,2,none⟩=some (ah af b.least)/\w.cell? ⟨B,3,none⟩=some (ah af b.minutes)/\w.cell? ⟨B,4,none⟩=some (ah af b.cI)/\w.cell? ⟨B,5,none⟩=some (ah af b.jP)/\w.cell? ⟨B,6,none⟩=some (ah af b.ey)/\
  w.cell? ⟨B,7,none⟩=some (ah af b.iC)/\w.cell? ⟨B,8,none⟩=some (ah af b.ll)/\w.cell? ⟨B,9,none⟩=some (ah af b.lm)/\w.cell? ⟨B,10,none⟩=some (ah af b.pl)/\w.cell? ⟨B,11,none⟩=some (ah af b.pm)/\w.cell? ⟨B,12,none⟩=some bn/\w.cell? ⟨B,13,none⟩=some aL/\w.cell? ⟨B,14,none⟩=some az:=by
 unfold dU;simp only[h];exact⟨rfl,rfl,rfl,rfl,rfl,rfl,rfl,rfl,rfl,rfl,rfl,rfl,rfl,rfl,rfl⟩
def vu(w:ak)(o o':Obj):((w.alloc o).alloc o').heap[w.heap.size]?=some o:=by
 rw[aY _ _ _ sM];exact aw w o
def BB.ZN(b:BB)(used:Int)(p k:Nat)(hk:0<k):b.Bx used p k=b.step used p k (b.Bx used p (k-1)):=by
 cases k with
 |zero=>omega
 |succ k=>rfl
def BB.UQ(b:BB)(used:Int)(p k:Nat)(hk:0<k):b.j9 used p k=b.j9 used p (k-1)++[b.Bx used p k]:=by
 cases k with
 |zero=>omega
 |succ k=>exact b.SC used p k
def gW{n l m:Int}:aS n l m=true↔l<=n/\n<=m:=by simp[aS]
def Jf{n l m:Int}(h:aS n l m=false):¬(l<=n/\n<=m):=fun h'=>by rw[gW.2 h'] at h;cases h
section
variable{b:BB}{used n:Int}{p k:Nat}
theorem Yr(h1:p.testBit k=false)(h2:aS k b.pl b.pm=false):b.step used p k n=max 0 (min n b.holds-used):=by
 unfold BB.step;rw[h1,if_neg (Jf h2)];simp
theorem Yn(h1:p.testBit k=true)(h2:aS k b.pl b.pm=false):b.step used p k n=max 0 (min (n+b.jP) b.holds-used):=by
 unfold BB.step;rw[h1,if_neg (Jf h2)];simp
theorem Yq(h1:p.testBit k=false)(h2:aS k b.pl b.pm=true):b.step used p k n=max 0 (min (n+b.iC) b.holds-used):=by
 unfold BB.step;rw[h1,if_pos (gW.1 h2)];simp
theorem Ym(h1:p.testBit k=true)(h2:aS k b.pl b.pm=true):b.step used p k n=max 0 (min (n+b.jP+b.iC) b.holds-used):=by
 unfold BB.step;rw[h1,if_pos (gW.1 h2)];simp
end
def Hw{w w':ak}{B:Nat}{e:aV}{size:Nat}{v:ai}{n:Nat}{xs:List ai}(h:w.ownsRow B e size v n xs)(hb:Bw w w'):w'.ownsRow B e size v n xs:=
 ⟨h.1,h.2.imp id fun⟨g,cap,cur,h1,h2,h3,h4⟩=>⟨g,cap,cur,h1,h2,by rw[hb.block g (ag.1 h3).1];exact h3,h4⟩⟩
def aag{W:ak}{ad:Addr}{v:ai}(h:W.cell? ad=some v):∀j u,[v][j]?=some u->W.cell? (ad.add j)=some u:=by
 intro j u hj
 match j,hj with
 |0,hj=>simp at hj;subst hj;simpa [jh] using h
def NP(w:ak)(v:ai)(T:aV):(w.alloc (ar #[v] T)).cell? ⟨w.heap.size,0,none⟩=some v:=by
 rw[World.cell?_alloc_at _ _ _ _ rfl];rfl
def Ve{v:ai}(h:v.oneCell'=true):∀u∈[v],u.oneCell'=true:=by
 intro u hu;simp at hu;subst hu;exact h
def Af(b:BB)(hb:b.Ok)(bn aL az:ai)(a:eV)(ha:a.Ok)(p:Nat)(hp:p<512)(w:ak) :
  bm aq 114 #[aO (b.cells bn aL az),aO a.cells,ah af p] w fun e w'=>∃v,e=aU v/\w'.ownsRow w.heap.size 3 1 v b.minutes.toNat ((b.j9 (b.cI+a.used) p b.minutes.toNat).map (ax af))/\Bw w w':=by
 have abZ:=hb.cI;have AB:=hb.minutes;have amO:=hb.jP;have afh:=hb.iC;have hroom:=hb.room;have hu:0<=a.used/\a.used<=697:=by have:=ha.leak;have:=ha.m0;have:=ha.m1;have:=ha.m2;unfold eV.used;omega
 have hw:IntKind.i64.wrap (b.cI+a.used)=b.cI+a.used:=fO _ oM oM;obtain⟨i0,hi,hz0,hz1,hz2⟩:=info_parts info3
 go_enter Tryz.func114,Tryz.ntmps114
 go_wp2
 go_region_held3 (fun w'=>w'.cell? ⟨w.heap.size,0,none⟩=some (ah af b.room)/\w'.cell? ⟨w.heap.size,4,none⟩=some (ah af b.cI)/\w'.cell? ⟨w.heap.size+1,0,none⟩=some (ah af a.leak)/\w'.cell? ⟨w.heap.size+1,1,none⟩=some (ah af a.m0)/\w'.cell? ⟨w.heap.size+1,2,none⟩=some (ah af a.m1)/\w'.cell? ⟨w.heap.size+1,3,none⟩=some (ah af a.m2)/\gu (w.heap.size+2) ((w.alloc (ar (b.cells bn aL az) 119)).alloc (ar a.cells 134)) w')
  (first|exact J8 b bn aL az a w|exact Mm (by assumption) (by assumption))
  (first|(go_at_call 165;refine(LQ a ha _).mono ?_;rintro e w1 ⟨rfl,hb1⟩))
 rename _/\_=>hS;obtain⟨-,-,-,-,-,-,hB1⟩:=hS
 have lj:w1.heap[w.heap.size]?=some (ar (b.cells bn aL az) 119 (0,0)):=by
  rw[hB1.block _ oM];exact vu _ _ _
 obtain⟨-,-,-,hc3,-,-,-,-,-,-,-,-,-,-,-⟩:=bZ lj;clear hb1 hw;generalize aao:b.cI+a.used=used at *;have hu2:0<=used/\used<=796:=oM;have HH:=aj aao;clear aao hu;go_wp2
 go_loopw [7,8,24] (fun v n i wr=>∃k:Nat,(k:Int)<=b.minutes+1/\i=ah af k/\n=ah af (b.Bx used p (k-1))/\wr.ownsRow (w.heap.size+2) 3 1 v (k-1) ((b.j9 used p (k-1)).map (ax af))/\gu (w.heap.size+2) ((w.alloc (ar (b.cells bn aL az) 119)).alloc (ar a.cells 134)) wr)
  (fun _ _ i _=>b.minutes.toNat+1-(intOf i).toNat)
 case atStart=>exact⟨0,oM,rfl,rfl,dw _ _ _ _,hB1⟩
 case round=>
  obtain⟨k,hk,rfl,rfl,hown,eE⟩:=hrel
  have lj:wr.heap[w.heap.size]?=some (ar (b.cells bn aL az) 119 (0,0)):=by
   rw[eE.block _ oM];exact vu _ _ _
  have hcc:=bZ lj;have Wb:=b.Ql hb hu2.1 p (k-1);have apW:=b.FX hb;have hB:=eE.size;simp at hB
  by_cases hlt:(k:Int)<b.minutes+1
  .rcases Nat.eq_zero_or_pos k with rfl|kY
   .obtain⟨hc0,hc1,hc2,hc3,hc4,hc5,hc6,hc7,hc8,Ti,F5,ajD,ajC,Tl,Nc⟩:=hcc;go_wp2;go_roundw
    case rel=>exact⟨1,oM,rfl,rfl,hown,eE⟩
    case measure=>simp[intOf]
   have hst:=b.ZN used p k kY;have hpl:=b.UQ used p k kY;have hlen:(b.j9 used p (k-1)).length=k-1:=b.iK used p (k-1);have hne:((k:Int)==0)=false:=sO;generalize b.Bx used p (k-1)=n at *;obtain⟨hc0,hc1,hc2,hc3,hc4,hc5,hc6,hc7,hc8,Ti,F5,ajD,ajC,Tl,Nc⟩:=hcc;have H1:=aj hst;have H2:=aj hpl;have H3:=aj hlen;clear hst hpl hlen;cases acs:p.testBit k<;>cases hin:aS k b.pl b.pm
   all_goals
    have HB:=aj acs;have HI:=aj hin;have HA:=KQ p k hp oM;rw[acs] at HA;have HAH:=aj HA;have IA:=rA k b.pl b.pm;rw[hin] at IA;have IAH:=aj IA;clear acs hin HA IA
    go_wp2_with (first
     |(go_at_call 162;refine(HAH.out _).mono ?_;rintro e w' ⟨rfl,rfl⟩)
     |(go_at_call 138;refine(IAH.out _).mono ?_;rintro e w' ⟨rfl,rfl⟩)
     |(go_at_call 115;refine(Jl b hb bn aL az _).mono ?_;rintro e w2 ⟨rfl,hb2⟩;have hown2:=Hw hown hb2;have apw:=hb2.size)
     |(at_builtin;refine wpList_append_own _ rfl (.tmp 59) (.tmp 61) 25 rfl (w.heap.size+2) 3 i0 (ah af 0) 1 8 dt hi hz0 hz1 hz2 rfl dC _ _ _ rfl (hown2.alloc _) ⟨w2.heap.size,0,none⟩ 1 1 [_] rfl rfl (aag (NP _ _ _)) (Ve rfl) ?_ ?_ ?_ ?_))
   all_goals first
    |(simp;omega;done)
    |(unfold maxLen;omega;done)
    |(omega;done)
    |skip
   all_goals
    intro v' w3 hown' hgrow _;have hb3:=((eE.trans (hb2.mono oM)).alloc (by have:=hb2.size;omega) _).grown hgrow sO (fun j hj=>(hown2.lt j hj).1);clear hgrow;go_wp2;go_roundw
    case rel=>
     have hS:b.step used p k n=max 0 (min (n+(if p.testBit k then b.jP else 0)+(if aS k b.pl b.pm then b.iC else 0)) b.holds-used):=by
      first
       |(rw[Yr HB.out HI.out,HB.out,HI.out];simp;done)
       |(rw[Yn HB.out HI.out,HB.out,HI.out];simp;done)
       |(rw[Yq HB.out HI.out,HB.out,HI.out];simp;done)
       |(rw[Ym HB.out HI.out,HB.out,HI.out];simp;done)
     rw[HB.out,HI.out] at hS;simp only[if_true,bF,if_false,Int.add_zero] at hS;refine⟨k+1,oM,by go_num,?_,?_,hb3⟩
     .rw[Nat.add_sub_cancel,H1.out,hS]
      congr 1
      skip
      omega
     rw[Nat.add_sub_cancel,H2.out,H1.out,hS];have rC:k-1+1=k:=oM;rw[rC] at hown';rw[d_];refine(congrArg (fun y=>w3.ownsRow (w.heap.size+2) 3 1 v' k (List.map (ax af) (b.j9 used p (k-1))++[ax af y])) ?_).mp hown';clear hown'
     skip
     omega
    case measure=>simp[intOf];omega
  have tP:k=b.minutes.toNat+1:=oM;go_wp2
  go_ret
  refine⟨_,rfl,?_,?_⟩
  .rw[HH.out];have e:k-1=b.minutes.toNat:=oM;rw[e] at hown;exact ownsRow_base hown oM
  exact(dF.alloc sM _).trans (eE.mono oM)
def DW{w w':ak}{B:Nat}{b:BB}{bn aL az:ai}(h:w.heap[B]?=some (ar (b.cells bn aL az) 119 (0,0)))(hb:Bw w w'):(w'.cell? ⟨B,0,none⟩=some (ah af b.room)/\w'.cell? ⟨B,1,none⟩=some (ah af b.depth)/\w'.cell? ⟨B,2,none⟩=some (ah af b.least)/\w'.cell? ⟨B,3,none⟩=some (ah af b.minutes)/\w'.cell? ⟨B,4,none⟩=some (ah af b.cI)/\w'.cell? ⟨B,5,none⟩=some (ah af b.jP)/\w'.cell? ⟨B,6,none⟩=some (ah af b.ey)/\w'.cell? ⟨B,7,none⟩=some (ah af b.iC)/\w'.cell? ⟨B,8,none⟩=some (ah af b.ll)/\w'.cell? ⟨B,9,none⟩=some (ah af b.lm)/\w'.cell? ⟨B,10,none⟩=some (ah af b.pl)/\w'.cell? ⟨B,11,none⟩=some (ah af b.pm)/\w'.cell? ⟨B,12,none⟩=some bn/\w'.cell? ⟨B,13,none⟩=some aL/\w'.cell? ⟨B,14,none⟩=some az)/\Bw w w':=by
 have hlt:B<w.heap.size:=(ag.1 h).1;have h':w'.heap[B]?=some (ar (b.cells bn aL az) 119 (0,0)):=by rw[hb.block B hlt];exact h
 exact⟨bZ h',hb⟩
def Qh{w w1 w':ak}{B:Nat}{b:BB}{bn aL az:ai}(h:w.heap[B]?=some (ar (b.cells bn aL az) 119 (0,0)))(h1:Bw w w1)(h2:Bw w1 w'):(w'.cell? ⟨B,0,none⟩=some (ah af b.room)/\w'.cell? ⟨B,1,none⟩=some (ah af b.depth)/\w'.cell? ⟨B,2,none⟩=some (ah af b.least)/\w'.cell? ⟨B,3,none⟩=some (ah af b.minutes)/\w'.cell? ⟨B,4,none⟩=some (ah af b.cI)/\w'.cell? ⟨B,5,none⟩=some (ah af b.jP)/\w'.cell? ⟨B,6,none⟩=some (ah af b.ey)/\w'.cell? ⟨B,7,none⟩=some (ah af b.iC)/\w'.cell? ⟨B,8,none⟩=some (ah af b.ll)/\w'.cell? ⟨B,9,none⟩=some (ah af b.lm)/\w'.cell? ⟨B,10,none⟩=some (ah af b.pl)/\w'.cell? ⟨B,11,none⟩=some (ah af b.pm)/\w'.cell? ⟨B,12,none⟩=some bn/\w'.cell? ⟨B,13,none⟩=some aL/\w'.cell? ⟨B,14,none⟩=some az)/\Bw w w':=
 DW h (h1.trans (h2.mono h1.size))
def N3(b:BB)(hb:b.Ok)(bn aL az:ai)(n:Int)(hn:0<=n/\n<=999)(B:Nat)(w:ak)(lj:w.heap[B]?=some (ar (b.cells bn aL az) 119 (0,0))) :
  bm aq 171 #[ah af n,fP (some ⟨B,0,none⟩)] w (Rt w (aH (decide (b.WW n<b.least)))):=by
 have HK:=aj lj;clear lj
 go_enter Tryz.func171,Tryz.ntmps171
 go_wp2
 go_region_held3 (fun w'=>(w'.cell? ⟨B,0,none⟩=some (ah af b.room)/\w'.cell? ⟨B,1,none⟩=some (ah af b.depth)/\w'.cell? ⟨B,2,none⟩=some (ah af b.least)/\w'.cell? ⟨B,3,none⟩=some (ah af b.minutes)/\w'.cell? ⟨B,4,none⟩=some (ah af b.cI)/\w'.cell? ⟨B,5,none⟩=some (ah af b.jP)/\w'.cell? ⟨B,6,none⟩=some (ah af b.ey)/\w'.cell? ⟨B,7,none⟩=some (ah af b.iC)/\w'.cell? ⟨B,8,none⟩=some (ah af b.ll)/\w'.cell? ⟨B,9,none⟩=some (ah af b.lm)/\w'.cell? ⟨B,10,none⟩=some (ah af b.pl)/\w'.cell? ⟨B,11,none⟩=some (ah af b.pm)/\w'.cell? ⟨B,12,none⟩=some bn/\w'.cell? ⟨B,13,none⟩=some aL/\w'.cell? ⟨B,14,none⟩=some az)/\Bw w w')
  (first|exact DW HK.out (ay _ _).drew|exact Qh HK.out (And.right (by assumption)) (by assumption))
  (first|(go_at_call 139;refine(KZ b hb bn aL az n hn _).mono ?_;rintro e w1 ⟨rfl,hb1⟩))
 rename _/\_=>hS;have hBw:=hS.2;clear hS;go_wp2
 go_ret
 exact⟨rfl,hBw⟩
end Go.Proofs.YtffladgmkiimjaaGreatDoor
namespace Go.Lag
open Go Go.ChangeMaps Go.MapKept
structure zJ(P:aK)(T K E:aV)(key:Int->ai):Prop where
 map:P.underlying T=some (.map K E)
 plain:∃d,P.underlying K=some d/\∀a b,Instr.sameNow d a b=none
 check:∀(e:Bool) (u:Int) (w:ak),(Instr.checkKey e 10000 K (key u)).run P w=.ok () w
 eql:∀(u v:Int) (w:ak),(Op.equal K (key u) (key v)).run P w=.ok (decide (u=v)) w
 zero:∀w,(zeroValue E).run P w=.ok (aH false) w
def mZ(w:ak)(b:Nat)(key:Int->ai)(us:List Int):Prop:=
 ∃es clock,w.heap[b]?=some (.map es clock)/\es.toList.map (fun e:vx=>(e.key,e.val))=us.map fun u=>(key u,aH true)
section
variable{P:aK}{T K E:aV}{key:Int->ai}
theorem w_(L:zJ P T K E key)(u:Int)(w:ak):∀(us:List Int) (es:List vx) (i:Nat),es.map (fun e:vx=>(e.key,e.val))=us.map (fun u=>(key u,Value.bool true))->
  ∃r,(jH K (key u) es i).run P w=.ok r w/\(u∈us->∃j,r=some (j,aH true))/\(u ∉ us->r=none)
 |[],es,i,h=>by
  have:es=[]:=by simpa using h
  subst this;exact⟨none,rfl,by simp,by simp⟩
 |v::us,[],i,h=>by simp at h
 |v::us,e::es,i,h=>by
  simp only[cV,BD,iA] at h;obtain⟨⟨hk,hv⟩,ht⟩:=h;obtain⟨r,hr,h1,h2⟩:=w_ L u w us es (i+1) ht;have hq:=L.eql u v w;rw[<-hk] at hq
  have e1:(jH K (key u) (e::es) i).run P w=if decide (u=v)=true then .ok (some (i,e.val)) w else(jH K (key u) es (i+1)).run P w:=by
   show((Op.equal K (key u) e.key).bind fun c=>if c=true then Sem.pure (some (i,e.val)) else jH K (key u) es (i+1)).run P w=_;rw[Sem.run_bind',hq]
   by_cases h:u=v<;>simp[h,Sem.run,IE]
  by_cases huv:u=v
  .subst huv;refine⟨some (i,aH true),?_,fun _=>⟨i,rfl⟩,fun h=>absurd (List.mem_cons_self ..) h⟩;rw[e1,if_pos (by simp),hv]
  refine⟨r,?_,fun h=>h1 ((List.mem_cons.1 h).resolve_left huv),fun h=>h2 fun h'=>h (List.mem_cons_of_mem _ h')⟩;rw[e1,if_neg (by simpa using huv),hr]
theorem DF(L:zJ P T K E key)(u:Int)(w:ak){us:List Int}{es:List vx}(h:es.map (fun e:vx=>(e.key,e.val))=us.map (fun u=>(key u,Value.bool true))) :
  ∃r,(Eu K (key u) es).run P w=.ok r w/\(u∈us->∃j,r=some (j,aH true))/\(u ∉ us->r=none):=by
 obtain⟨d,hd,hs⟩:=L.plain;obtain⟨r,hr,h1,h2⟩:=w_ L u w us es 0 h
 have hu:(jr K).run P w=.ok d w:=by
  exact run_underlying hd w
 have e1:(Eu K (key u) es).run P w=(match Instr.findNow d (key u) es 0 with|some r=>Sem.pure r|none=>jH K (key u) es 0).run P w:=by
  show((jr K).bind _).run P w=_;rw[Sem.run_bind',hu];rfl
 cases es with
 |nil=>
  have:us=[]:=by simpa using h.symm
  subst this;exact⟨none,by rw[e1];rfl,by simp,by simp⟩
 |cons e es=>
  refine⟨r,?_,h1,h2⟩;rw[e1]
  have:Instr.findNow d (key u) (e::es) 0=none:=by
   simp only[Instr.findNow,hs]
  rw[this];exact hr
theorem Fe(L:zJ P T K E key){w:ak}{b:Nat}{us:List Int}(h:mZ w b key us)(u:Int) :
  (Instr.lookup T (.map (some b)) (key u) false).run P w=.ok (aH (decide (u∈us))) w:=by
 obtain⟨es,clock,hb,he⟩:=h;obtain⟨r,hr,h1,h2⟩:=DF L u w he
 have hu:(jr T).run P w=.ok (.map K E) w:=by
  exact run_underlying L.map w
 have hck:=L.check es.isEmpty u w;have hz:=L.zero w;have hg:(getObj b).run P w=.ok (.map es clock) w:=by simp only[getObj,Sem.run,hb]
 unfold Instr.lookup;show((jr T).bind _).run P w=_;rw[Sem.run_bind',hu]
 by_cases hm:u∈us
 .obtain⟨j,rfl⟩:=h1 hm;simp[IE,hg,hck,hr,hm]
 obtain rfl:=h2 hm;simp[IE,hg,hck,hr,hm,hz]
theorem Fc(L:zJ P T K E key){w:ak}{b:Nat}{us:List Int}(h:mZ w b key us)(u:Int)(hu':u ∉ us) :
  ∃es clock,(BF T (.map (some b)) (key u) (aH true)).run P w=.ok () (setBlock w b (.map es clock))/\mZ (setBlock w b (.map es clock)) b key (us++[u]):=by
 obtain⟨es,clock,hb,he⟩:=h;obtain⟨r,hr,h1,h2⟩:=DF L u w he;obtain rfl:=h2 hu'
 have hu:(jr T).run P w=.ok (.map K E) w:=by
  exact run_underlying L.map w
 have hck:=L.check false u w;refine⟨es.push { key:=key u,val:=aH true,born:=clock },clock+1,?_,?_⟩
 .unfold BF;show((jr T).bind _).run P w=_;rw[Sem.run_bind',hu];have hg:(getObj b).run P w=.ok (.map es clock) w:=by simp only[getObj,Sem.run,hb]
  simp[IE,hg,hck,hr,setObj,Sem.run,hb,setBlock]
 refine⟨es.push { key:=key u,val:=aH true,born:=clock },clock+1,?_,by simp[he]⟩;have hlt:b<w.heap.size:=(ag.1 hb).1;simp[setBlock,hlt]
theorem mZ.keep{w w':ak}{b:Nat}{us:List Int}(h:mZ w b key us)(hk:w'.heap[b]?=w.heap[b]?):mZ w' b key us:=by
 obtain⟨es,clock,hb,he⟩:=h;exact⟨es,clock,hk.trans hb,he⟩
theorem mZ.lt{w:ak}{b:Nat}{us:List Int}(h:mZ w b key us):b<w.heap.size:=by
 obtain⟨es,clock,hb,he⟩:=h;exact(ag.1 hb).1
theorem mZ.below{w w':ak}{b:Nat}{us:List Int}(h:mZ w b key us)(hb:RowKit.Below w.heap.size w w'):mZ w' b key us:=h.keep (hb.block b h.lt)
theorem mZ.made(w:ak)(key:Int->ai):mZ (w.alloc (.map #[] 0)) w.heap.size key []:=⟨#[],0,(MapKept.heap_alloc w _).1,rfl⟩
theorem nO(w:ak){aM:Array cY}{rest:List cY}{o:cY}{a:jY}{Q:Exit->jY->ak->Prop}(hg:o.guard=none)(m x:bI)(t:aV)(hop:o.op=Op.lookup t m x false)
  (L:zJ P t K E key) (b:Nat) {us:List Int} (hm:a.eval m=.map (some b)) (hown:mZ w b key us) (u:Int) (hx:a.eval x=key u)
  (hK:wpList P aM Q rest (a.put o.dst (aH (decide (u∈us)))) w):wpList P aM Q (o::rest) a w:=by
 refine wpList_plain hg fun K' hK'=>?_;have hrun:=Fe L hown u;unfold Oper.wp;simp[cC,hop,hm,hx,hrun,IE];exact hK' _ _ (by simpa using hK)
theorem sg(w:ak){aM:Array cY}{rest:List cY}{o:cY}{a:jY}{Q:Exit->jY->ak->Prop}(hg:o.guard=none)(m x v:bI)(t:aV)(hop:o.op=Op.mapUpdate t m x v)
  (L:zJ P t K E key) (b:Nat) {us:List Int} (hm:a.eval m=.map (some b)) (hown:mZ w b key us) (u:Int) (hx:a.eval x=key u) (hv:a.eval v=aH true) (hu:u ∉ us)
  (hK:∀w',mZ w' b key (us++[u])->w.grownBy w' (some b)->wpList P aM Q rest (a.put o.dst au) w'):wpList P aM Q (o::rest) a w:=by
 refine wpList_plain hg fun K' hK'=>?_;obtain⟨es,clock,hrun,vS⟩:=Fc L hown u hu;obtain⟨es0,akB,hb,_⟩:=hown;unfold Oper.wp;simp[cC,hop,hm,hx,hv,hrun,IE];exact hK' _ _ (hK _ vS ⟨rfl,rfl,rfl,by simp[setBlock],fun i _ hi=>heap_setBlock_other hb _ (fun e=>hi (by rw[e]))⟩)
end
end Go.Lag
namespace Go.Proofs.YtffladgmkiimjaaGreatDoor
open Go.RowKit Go.Lag
def Reads(w:ak)(v:ai)(n:Nat)(xs:List ai):Prop:=
 (v=ae none 0 0/\n=0/\xs=[])\/∃g off cap,v=ae (some ⟨g,off,none⟩) n cap/\(n<=4294967296/\n<=cap)/\g<w.heap.size/\∀j u,xs[j]?=some u->w.cell? ⟨g,off+j,none⟩=some u
def Reads.below{w w':ak}{v:ai}{n:Nat}{xs:List ai}(h:Reads w v n xs)(hb:Bw w w'):Reads w' v n xs:=by
 rcases h with h|⟨g,off,cap,h1,h2,h3,h4⟩
 .exact bV h
 exact .inr ⟨g,off,cap,h1,h2,bA h3 hb.size,fun j u hj=>(hb.cell (p:=⟨g,off+j,none⟩) h3).trans (h4 j u hj)⟩
def Reads.gG{w:ak}{B:Nat}{e:aV}{size:Nat}{v:ai}{n:Nat}{xs:List ai}(h:w.ownsRow B e size v n xs)(hn:n<=4294967296)(hs:xs.length=n*size):Reads w v n xs:=by
 have hc:=fun g hg=>h.cells (g:=g) hg;have hl:=h.lt;rcases h.2 with⟨rfl,rfl⟩|⟨g,cap,cur,rfl,h2⟩
 .refine bV ⟨rfl,rfl,by simpa using hs⟩
 refine .inr ⟨g,0,cap,rfl,⟨hn,h2.2.2.1⟩,(hl g rfl).2,fun j u hj=>?_⟩;have:=hc g rfl j u hj;cases j<;>simpa [jh] using this
def lM(b:BB):List Int->Nat->Int
 |[],_=>-1
 |n::r,k=>if b.WW n<b.least then k else lM b r (k+1)
def Li(b:BB)(xs:List Int)(k:Nat)(hk:k<xs.length):lM b (xs.drop k) k=if b.WW xs[k]<b.least then(k:Int) else lM b (xs.drop (k+1)) (k+1):=by
 rw[eh hk];rfl
def N4(b:BB)(xs:List Int):lM b (xs.drop xs.length) xs.length = -1:=by simp[lM]
def Qk(b:BB):∀(xs:List Int) (k:Nat),-1<=lM b xs k/\lM b xs k<=k+xs.length:=by
 intro xs
 induction xs with
 |nil=>intro k;simp only[lM];constructor<;>simp<;>omega
 |cons n r ih=>
  intro k;simp only[lM];have:=ih (k+1);split
  .simp;omega
  simp at this ⊢;omega
def KC(b:BB)(hb:b.Ok)(bn aL az:ai)(xs:List Int)(Ji:∀x∈xs,0<=x/\x<=999)(hlen:xs.length<=1000)(v:ai)(B:Nat)(w:ak)(hv:Reads w v xs.length (xs.map (ax af)))
  (lj:w.heap[B]?=some (ar (b.cells bn aL az) 119 (0,0))) :
  bm aq 170 #[v,.func (.func 171) #[] #[fP (some ⟨B,0,none⟩)]] w (Rt w (ah af (lM b xs 0))):=by
 have HK:=aj lj;clear lj;rcases hv with⟨rfl,hn,hx0⟩|⟨g,off,cap,rfl,hn,hg,hc⟩
 .obtain rfl:xs=[]:=by simpa using hx0
  clear hx0 hn
  go_enter Tryz.func170,Tryz.ntmps170
  go_wp2
  go_loopw [8] (fun i wr=>i=ah af 0/\Bw w wr) (fun _ _=>0)
  case atStart=>exact⟨rfl,ay _ _⟩
  case round=>
   obtain⟨rfl,eE⟩:=hrel;go_wp2
   go_ret
   exact⟨rfl,eE⟩
 have HC:=aj hc;clear hc;generalize hL:xs.length=L at *;have HL:=aj hL;clear hL
 go_enter Tryz.func170,Tryz.ntmps170
 go_wp2
 go_loopw [5,8] (fun _ i wr=>∃k:Nat,k<=L/\i=ah af k/\lM b xs 0=lM b (xs.drop k) k/\Bw w wr) (fun _ i _=>L-(intOf i).toNat)
 case atStart=>exact⟨0,oM,rfl,rfl,ay _ _⟩
 case round=>
  obtain⟨k,hk,rfl,lO,eE⟩:=hrel;have hB1:=eE.size
  by_cases hlt:k<L
  .have kq:k<xs.length:=by rw[HL.out];exact hlt
   have hcell:wr.cell? ⟨g,off+k,none⟩=some (ah af xs[k]):=(eE.cell (p:=⟨g,off+k,none⟩) hg).trans (HC.out k _ (by simp[kq]))
   have lj:wr.heap[B]?=some (ar (b.cells bn aL az) 119 (0,0)):=by
    rw[eE.block B (ag.1 HK.out).1];exact HK.out
   have hx:=Ji xs[k] (bS kq);have hT:=N3 b hb bn aL az xs[k] hx B wr lj;have hst:=Li b xs k kq;rw[hst] at lO;clear hst;generalize xs[k]=x at *
   by_cases hd:b.WW x<b.least
   .rw[if_pos hd] at lO;rw[decide_eq_true hd] at hT;have HB:=aj lO;have HT:=aj hT;clear lO hT hd lj
    go_wp2_with (go_at_call 171;refine HT.out.mono ?_;rintro e w2 ⟨rfl,hb2⟩)
    go_ret
    exact⟨iH HB.out.symm,eE.trans (hb2.mono hB1)⟩
   rw[if_neg hd] at lO;rw[decide_eq_false hd] at hT;have HB:=aj lO;have HT:=aj hT;clear lO hT hd lj
   go_wp2_with (go_at_call 171;refine HT.out.mono ?_;rintro e w2 ⟨rfl,hb2⟩)
   go_roundw
   case rel=>exact⟨k+1,oM,by go_num,HB.out,eE.trans (hb2.mono hB1)⟩
   case measure=>simp[intOf];omega
  obtain rfl:k=L:=oM;have e1:lM b xs 0 = -1:=by rw[lO,<-HL.out];exact N4 b xs
  have HE:=aj e1;clear e1 lO;go_wp2
  go_ret
  exact⟨iH HE.out.symm,eE⟩
def BB.bad(b:BB)(used:Int)(p:Nat):Int:=1+lM b (b.j9 used p b.minutes.toNat) 0
def Lh(b:BB)(hb:b.Ok)(bn aL az:ai)(a:eV)(ha:a.Ok)(p:Nat)(hp:p<512)(w:ak) :
  bm aq 118 #[aO (b.cells bn aL az),aO a.cells,ah af p] w (Rt w (ah af (b.bad (b.cI+a.used) p))):=by
 have AB:=hb.minutes;have abZ:=hb.cI;have hu:0<=b.cI+a.used:=by have:=ha.leak;have:=ha.m0;have:=ha.m1;have:=ha.m2;unfold eV.used;omega
 have AH:=Qk b (b.j9 (b.cI+a.used) p b.minutes.toNat) 0;rw[b.iK] at AH;have Wb:=b.Ql hb hu p
 go_enter Tryz.func118,Tryz.ntmps118
 go_wp2_with fail
 refine(Af b hb bn aL az a ha p hp _).mono ?_;rintro e w1 ⟨v,rfl,hown,hb1⟩
 have lj:w1.heap[w.heap.size]?=some (ar (b.cells bn aL az) 119 (0,0)):=by
  rw[hb1.block _ sO];exact vu _ _ _
 have Dw:=Reads.gG hown oM (by simp[b.iK])
 have hI:=KC b hb bn aL az (b.j9 (b.cI+a.used) p b.minutes.toNat) (fun x hx=>by
  obtain⟨i,_,rfl⟩:=List.mem_map.1 hx
  have:=Wb (i+1);omega) (by rw[b.iK];omega) v w.heap.size w1 (by rw[b.iK];exact Dw) lj
 have HI:=aj hI;have hs1:=hb1.size;simp at hs1;clear hI lj Dw hown Wb
 go_wp2_with (go_at_call 170;refine HI.out.mono ?_;rintro e w2 ⟨rfl,hb2⟩)
 go_ret
 exact⟨iH rfl,((dF.alloc sM _).trans (hb1.mono sO)).trans (hb2.mono oM)⟩
def BW(u:Int):Value:=aO #[ah af u,ah af 0,ah af 0,ah af 0]
def ac2(u v:Int)(w:ak):(Op.equal 134 (BW u) (BW v)).run aq w=.ok (decide (u=v)) w:=by
 have ht:Tryz.prog.underlying 134=some (.struct (Tryz.prog.fieldsOf 134)):=kQ;have hp:Tryz.prog.stoodInHeld 134=false:=kQ
 have hf:(Tryz.prog.fieldsOf 134).toList=[{ name:= "leak",type:=3,offset:=0,embedded:=false,tag:= "",pkgPath:= "lagan/bell",byteOffset:=0 },{ name:= "men",type:=132,offset:=1,embedded:=false,tag:= "",pkgPath:= "lagan/bell",byteOffset:=8 }]:=kQ;have p1:∀x w,(part 3 #[ah af x,ah af 0,ah af 0,ah af 0] 0).run aq w=.ok (ah af x) w:=fun _ _=>by kernel_rfl
 have p2:∀x w,(part 132 #[ah af x,ah af 0,ah af 0,ah af 0] 1).run aq w=.ok (aO #[ah af 0,ah af 0,ah af 0]) w:=fun _ _=>by kernel_rfl
 have e1:(Op.equalIn 9999 3 (ah af u) (ah af v)).run aq w=.ok (u==v) w:=kQ;have e2:(Op.equalIn 9999 132 (aO #[ah af 0,ah af 0,ah af 0]) (aO #[ah af 0,ah af 0,ah af 0])).run aq w=.ok true w:=kQ;unfold Op.equal BW;rw[show Op.maxDepth=9999+1 from rfl,run_equalIn_struct w 9999 134 _ _ ht hp,hf]
 have n1:("leak" : String)≠ "_":=dC
 have n2:("men" : String)≠ "_":=dC;simp only[Op.eqFields,n1,n2,ne_eq,not_false_eq_true,if_true,wu,p1,p2,e1,lT]
 by_cases h:u=v
 .subst h;simp only[beq_self_eq_true,Bool.not_true,bF,if_false];simp[p2 u w,e2]
 simp[h]
def E3:zJ aq 177 134 4 BW:=
 ⟨Tryz.underlying177,⟨_,Tryz.underlying134,fun _ _=>rfl⟩,fun _ _ _=>by kernel_rfl,ac2,fun _=>by kernel_rfl⟩
abbrev BB.open(b:BB)(bn aL az all:ai):Array Value:=b.cells bn aL az++#[all]
def rowOf(l:List eV):List Value:=l.flatMap fun a=>a.cells.toList
def Ss(l:List eV):(rowOf l).length=4*l.length:=by
 induction l with
 |nil=>rfl
 |cons a l ih=>simp[rowOf,eV.cells] at ih ⊢;omega
def tZ:∀(l:List eV) (k j:Nat) (hk:k<l.length),j<4->(rowOf l)[4*k+j]?=l[k].cells[j]?
 |[],k,j,hk,_=>by simp at hk
 |a::l,0,j,_,hj=>by
  have:rowOf (a::l)=a.cells.toList++rowOf l:=rfl;rw[this,Bt sO];simp
 |a::l,k+1,j,hk,hj=>by
  have e:rowOf (a::l)=a.cells.toList++rowOf l:=rfl;rw[e,List.getElem?_append_right sO];have:=tZ l k j (by simpa using hk) hj;simp only[List.getElem_cons_succ];rw[<-this]
  congr 1
  simp;omega
def BB.sure(b:BB)(all:List eV)(p:Nat):Bool:=all.all fun a=>decide (b.bad (b.cI+a.used) p<=0)
def RY(b:BB)(all:List eV)(p k:Nat)(hk:k<all.length):b.sure (all.drop k) p=(decide (b.bad (b.cI+all[k].used) p<=0)&&b.sure (all.drop (k+1)) p):=by
 rw[eh hk];rfl
def Reads.cell{w:ak}{g off n cap:Nat}{l:List eV}(hc:∀j u,(rowOf l)[j]?=some u->w.cell? ⟨g,off+j,none⟩=some u)(k:Nat)(hk:k<l.length) :
  w.cell? ⟨g,off+k*4,none⟩=some (ah af l[k].leak)/\w.cell? ⟨g,off+k*4+1,none⟩=some (ah af l[k].m0)/\w.cell? ⟨g,off+k*4+2,none⟩=some (ah af l[k].m1)/\w.cell? ⟨g,off+k*4+3,none⟩=some (ah af l[k].m2):=
 ⟨hc (k*4) _ (by have:=tZ l k 0 hk oM;rw[rR];simpa using this),hc (k*4+1) _ (by rw[rR,tZ l k 1 hk oM];rfl),hc (k*4+2) _ (by rw[rR,tZ l k 2 hk oM];rfl),hc (k*4+3) _ (by rw[rR,tZ l k 3 hk oM];rfl)⟩
def jO{w:ak}{B:Nat}{b:BB}{bn aL az all:ai}{T:aV}(h:w.heap[B]?=some (ar (b.open bn aL az all) T (0,0))) :
  w.cell? ⟨B,0,none⟩=some (ah af b.room)/\w.cell? ⟨B,1,none⟩=some (ah af b.depth)/\w.cell? ⟨B,2,none⟩=some (ah af b.least)/\w.cell? ⟨B,3,none⟩=some (ah af b.minutes)/\w.cell? ⟨B,4,none⟩=some (ah af b.cI)/\w.cell? ⟨B,5,none⟩=some (ah af b.jP)/\w.cell? ⟨B,6,none⟩=some (ah af b.ey)/\
  w.cell? ⟨B,7,none⟩=some (ah af b.iC)/\w.cell? ⟨B,8,none⟩=some (ah af b.ll)/\w.cell? ⟨B,9,none⟩=some (ah af b.lm)/\w.cell? ⟨B,10,none⟩=some (ah af b.pl)/\w.cell? ⟨B,11,none⟩=some (ah af b.pm)/\w.cell? ⟨B,12,none⟩=some bn/\w.cell? ⟨B,13,none⟩=some aL/\w.cell? ⟨B,14,none⟩=some az/\w.cell? ⟨B,15,none⟩=some all:=by
 unfold dU;simp only[h];exact⟨rfl,rfl,rfl,rfl,rfl,rfl,rfl,rfl,rfl,rfl,rfl,rfl,rfl,rfl,rfl,rfl⟩
def qV{w:ak}{B:Nat}{a:eV}{T:aV}(h:w.heap[B]?=some (ar a.cells T (0,0))) :
  w.cell? ⟨B,0,none⟩=some (ah af a.leak)/\w.cell? ⟨B,1,none⟩=some (ah af a.m0)/\w.cell? ⟨B,2,none⟩=some (ah af a.m1)/\w.cell? ⟨B,3,none⟩=some (ah af a.m2):=by
 unfold dU;simp only[h];exact⟨rfl,rfl,rfl,rfl⟩
def EX{w wr w2 w3:ak}{X O O2:Obj}(h0:wr.heap[w.heap.size]?=some X)(hsz:w.heap.size+1<wr.heap.size)(hb2:gu (wr.alloc O).heap.size (wr.alloc O) w2)(hg:(w2.alloc O2).grownBy w3 (some (w.heap.size+1))) :
  w3.heap[w.heap.size]?=some X/\w3.heap[wr.heap.size]?=some O:=by
 have hs2:=hb2.size;simp at hs2;constructor
 .rw[hg.block _ sO sM,aY _ _ _ oM,hb2.block _ sO,aY _ _ _ oM];exact h0
 rw[hg.block _ sO sO,aY _ _ _ oM,hb2.block _ sM];exact aw wr O
end Go.Proofs.YtffladgmkiimjaaGreatDoor
namespace Go.Lag
open Go Go.RowKit
def mZ.alloc{w:ak}{b:Nat}{key:Int->ai}{us:List Int}(h:mZ w b key us)(o:Obj):mZ (w.alloc o) b key us:=h.keep (by
 have:=(MapKept.heap_alloc w o).2 b;exact aY _ _ _ h.lt)
end Go.Lag
namespace Go.Proofs.YtffladgmkiimjaaGreatDoor
open Go.RowKit Go.Lag
def yT(b:BB)(hb:b.Ok)(bn aL az v:ai)(l:List eV)(hl:∀a∈l,a.Ok)(p:Nat)(hp:p<512)(w:ak)(hv:Reads w v l.length (rowOf l)) :
  bm aq 105 #[aO (b.open bn aL az v),ah af p] w (Rt w (aH (b.sure l p))):=by
 rcases hv with⟨rfl,hn,hx0⟩|⟨g,off,cap,rfl,hn,hg,hc⟩
 .obtain rfl:l=[]:=a_ hn;clear hn hx0;have hmm:=@run_makeMap aq
  go_enter Tryz.func105,Tryz.ntmps105
  go_wp2
  go_loopw [13] (fun i wr=>i=ah af 0/\Bw w wr) (fun _ _=>0)
  case atStart=>exact⟨rfl,dF.alloc sM _⟩
  case round=>
   obtain⟨rfl,eE⟩:=hrel;go_wp2
   go_ret
   exact⟨rfl,eE⟩
 have HC:=aj hc;clear hc;generalize hL:l.length=L at *;have HL:=aj hL;clear hL;have hmm:=@run_makeMap aq
 go_enter Tryz.func105,Tryz.ntmps105
 go_wp2;clear hmm
 go_loopw [7,8,13] (fun _ _ i wr=>∃(k:Nat) (us:List Int),k<=L/\i=ah af k/\mZ wr (w.heap.size+1) BW us/\(∀u∈us,b.bad (b.cI+u) p<=0)/\b.sure l p=b.sure (l.drop k) p/\gu (w.heap.size+1) (w.alloc (ar (b.open bn aL az (ae (some ⟨g,off,none⟩) L cap)) 122)) wr) (fun _ _ i _=>L-(intOf i).toNat)
 case atStart=>exact⟨0,[],oM,rfl,by have:=mZ.made (w.alloc (ar (b.open bn aL az (ae (some ⟨g,off,none⟩) L cap)) 122)) BW;simpa using this,sM,rfl,(ay _ _).alloc sM _⟩
 case round=>
  obtain⟨k,us,hk,rfl,vS,hus,MU,eE⟩:=hrel
  by_cases hlt:k<L
  .have kq:k<l.length:=by rw[HL.out];exact hlt
   have EC:∀o,wr.cell? ⟨g,o,none⟩=w.cell? ⟨g,o,none⟩:=fun o=>(eE.cell (p:=⟨g,o,none⟩) (by show g<_;omega)).trans (eI _ _ _ hg);obtain⟨hc0,hc1,hc2,hc3⟩:=Reads.cell (w:=wr) (cap:=cap) (n:=L) (fun j u hj=>(EC _).trans (HC.out j u hj)) k kq;clear EC;have ha:=hl l[k] (bS kq);have aaD:=RY b l p k kq;rw[aaD] at MU;clear aaD;generalize l[k]=a at *
   have lj:wr.heap[w.heap.size]?=some (ar (b.open bn aL az (ae (some ⟨g,off,none⟩) L cap)) 122 (0,0)):=by
    rw[eE.block _ oM];exact aw w _
   have hsz:=eE.size;simp at hsz;have HS:=aj MU;have HU:=aj hus;clear MU hus;have hU:=LQ a ha
   by_cases hm:a.used∈us
   .have lO:=HU.out a.used hm
    go_wp2_with (first
     |(go_at_call 165;refine(hU _).mono ?_;rintro e w2 ⟨rfl,hb2⟩;have Dv:=(vS.alloc _).below hb2)
     |(at_lookup;refine nO _ rfl _ _ 177 rfl E3 (w.heap.size+1) rfl (Dv.alloc _) a.used rfl ?_))
    have hs2:=hb2.size;simp at hs2;go_roundw
    case rel=>
     exact⟨k+1,us,oM,by go_num,Dv.alloc _,HU.out,by rw[HS.out,decide_eq_true lO];rfl,((eE.alloc oM _).trans (hb2.mono sO)).alloc oM _⟩
    case measure=>simp[intOf];omega
   have hB:=Lh b hb bn aL az a ha p hp;obtain⟨bd,AH⟩:∃bd,b.bad (b.cI+a.used) p=bd:=⟨_,rfl⟩
   simp only[AH] at hB;have HBD:=aj AH;clear AH
   by_cases lO:bd<=0
   .have wB:decide (0<bd)=false:=sO;have HB:=aj lO;clear lO
    go_wp2_with (first
     |(go_at_call 165;refine(hU _).mono ?_;rintro e w2 ⟨rfl,hb2⟩;have Dv:=(vS.alloc _).below hb2)
     |(at_lookup;refine nO _ rfl _ _ 177 rfl E3 (w.heap.size+1) rfl (Dv.alloc _) a.used rfl ?_)
     |(at_mapUpdate;refine sg _ rfl _ _ _ 177 rfl E3 (w.heap.size+1) rfl (Dv.alloc _) a.used rfl rfl hm ?_;intro w3 Rb KM;obtain⟨hxx,hyy⟩:=EX lj vS.lt hb2 KM;have hx3:=jO hxx;have ha3:=qV (a:=a) hyy;obtain⟨x0,x1,x2,x3,x4,x5,x6,x7,x8,x9,qY,qX,r8,rT,rW,x15⟩:=hx3;obtain⟨y0,y1,y2,y3⟩:=ha3)
     |(go_at_call 118;refine(hB _).mono ?_;rintro e w4 ⟨rfl,hb4⟩))
    have hlt3:=vS.lt;have hs2:=hb2.size;have hs4:=hb4.size;have hs3:=Rb.lt;have hg3:=KM.size;simp at hs2 hg3;have Rl:=(((eE.alloc oM _).trans (hb2.mono sO)).alloc oM _).grown KM sO (fun j e=>by cases e;exact aJ _);have hB4:=Rl.trans (hb4.mono oM);clear Rl KM;go_roundw
    case rel=>
     refine⟨k+1,us++[a.used],oM,by go_num,Rb.below hb4,fun u hu=>?_,?_,hB4⟩
     .rcases List.mem_append.1 hu with h|h
      .exact HU.out u h
      rw[List.mem_singleton.1 h,HBD.out];exact HB.out
     rw[HS.out,HBD.out,decide_eq_true HB.out];rfl
    case measure=>simp[intOf];omega
   have wB:decide (0<bd)=true:=sO;have HB:=aj lO;clear lO
   go_wp2_with (first
    |(go_at_call 165;refine(hU _).mono ?_;rintro e w2 ⟨rfl,hb2⟩;have Dv:=(vS.alloc _).below hb2)
    |(at_lookup;refine nO _ rfl _ _ 177 rfl E3 (w.heap.size+1) rfl (Dv.alloc _) a.used rfl ?_)
    |(at_mapUpdate;refine sg _ rfl _ _ _ 177 rfl E3 (w.heap.size+1) rfl (Dv.alloc _) a.used rfl rfl hm ?_;intro w3 Rb KM;obtain⟨hxx,hyy⟩:=EX lj vS.lt hb2 KM;have hx3:=jO hxx;have ha3:=qV (a:=a) hyy;obtain⟨x0,x1,x2,x3,x4,x5,x6,x7,x8,x9,qY,qX,r8,rT,rW,x15⟩:=hx3;obtain⟨y0,y1,y2,y3⟩:=ha3)
    |(go_at_call 118;refine(hB _).mono ?_;rintro e w4 ⟨rfl,hb4⟩))
   have hlt3:=vS.lt;have hs2:=hb2.size;have hs4:=hb4.size;have hs3:=Rb.lt;have hg3:=KM.size;simp at hs2 hg3;have Rl:=(((eE.alloc oM _).trans (hb2.mono sO)).alloc oM _).grown KM sO (fun j e=>by cases e;exact aJ _);have hB4:=Rl.trans (hb4.mono oM);clear Rl KM
   go_ret
   exact⟨rh (by rw[HS.out,HBD.out,decide_eq_false (by have:=HB.out;omega)];rfl),dF.trans (hB4.mono oM)⟩
  obtain rfl:k=L:=oM;have e1:b.sure l p=true:=by rw[MU,<-HL.out,List.drop_length];rfl
  have HE:=aj e1;clear e1 MU;go_wp2
  go_ret
  exact⟨rh HE.out.symm,dF.trans (eE.mono oM)⟩
structure Mk where
 minute:Int
 lo:Int
 hi:Int
deriving DecidableEq
abbrev Mk.cells(m:Mk):Array Value:=#[ah af m.minute,ah af m.lo,ah af m.hi]
def ep(l:List Mk):List Value:=l.flatMap fun m=>m.cells.toList
def qN(l:List Mk):(ep l).length=3*l.length:=by
 induction l with
 |nil=>rfl
 |cons a l ih=>simp[ep] at ih ⊢;omega
def ua:∀(l:List Mk) (k j:Nat) (hk:k<l.length),j<3->(ep l)[3*k+j]?=l[k].cells[j]?
 |[],k,j,hk,_=>by simp at hk
 |a::l,0,j,_,hj=>by
  have:ep (a::l)=a.cells.toList++ep l:=rfl;rw[this,Bt sO];simp
 |a::l,k+1,j,hk,hj=>by
  have e:ep (a::l)=a.cells.toList++ep l:=rfl;rw[e,List.getElem?_append_right sO];have:=ua l k j (by simpa using hk) hj;simp only[List.getElem_cons_succ];rw[<-this]
  congr 1
  simp;omega
def xJ{w:ak}{g off:Nat}{l:List Mk}(hc:∀j u,(ep l)[j]?=some u->w.cell? ⟨g,off+j,none⟩=some u)(k:Nat)(hk:k<l.length) :
  w.cell? ⟨g,off+k*3,none⟩=some (ah af l[k].minute)/\w.cell? ⟨g,off+k*3+1,none⟩=some (ah af l[k].lo)/\w.cell? ⟨g,off+k*3+2,none⟩=some (ah af l[k].hi):=
 ⟨hc (k*3) _ (by have:=ua l k 0 hk oM;rw[rR];simpa using this),hc (k*3+1) _ (by rw[rR,ua l k 1 hk oM];rfl),hc (k*3+2) _ (by rw[rR,ua l k 2 hk oM];rfl)⟩
def Kq(n m:Int):(if n<m then m else n)=max n m:=oM
def zH(ss:List Int):Int:=ss.foldl (fun n k=>max n (k+1)) 1
def Eo(n:Int)(ms:List Mk):Int:=ms.foldl (fun n m=>max n (m.minute+1)) n
def dI(ss:List Int)(ms:List Mk):Int:=Eo (zH ss) ms
def JA(ss:List Int)(k:Nat)(hk:k<ss.length):zH (ss.take (k+1))=max (zH (ss.take k)) (ss[k]+1):=by
 unfold zH;rw[bH hk,ot];rfl
def JB(n:Int)(ms:List Mk)(k:Nat)(hk:k<ms.length):Eo n (ms.take (k+1))=max (Eo n (ms.take k)) (ms[k].minute+1):=by
 unfold Eo;rw[bH hk,ot];rfl
def Gb{α:Type}(f:α->Int)(hi:Int):∀(l:List α) (n:Int),(∀a∈l,f a+1<=hi)->n<=hi->n<=l.foldl (fun n k=>max n (f k+1)) n/\l.foldl (fun n k=>max n (f k+1)) n<=hi
 |[],n,_,h=>⟨Int.le_refl _,h⟩
 |a::l,n,h,hn=>by
  have h1:=Gb f hi l (max n (f a+1)) (fun b hb=>h b (by simp[hb])) (by have:=h a sM;omega);simp only[List.foldl_cons];omega
def Bi(ss:List Int)(h:∀s∈ss,s<=8):1<=zH ss/\zH ss<=9:=Gb (fun k:Int=>k) 9 ss 1 (fun a ha=>by have:=h a ha;omega) oM
def Lg(n:Int)(hn:n<=9)(ms:List Mk)(h:∀s∈ms,s.minute<=8):n<=Eo n ms/\Eo n ms<=9:=Gb Mk.minute 9 ms n (fun a ha=>by have:=h a ha;omega) hn
def T2(ss:List Int)(ms:List Mk)(hs:∀s∈ss,s<=8)(hm:∀s∈ms,s.minute<=8):1<=dI ss ms/\dI ss ms<=9:=by
 have h1:=Bi ss hs;have h2:=Lg (zH ss) h1.2 ms hm;unfold dI;omega
def T1(b:BB)(bn:ai)(w:ak) :
  bm aq 155 #[aO (b.cells bn (ae none 0 0) (ae none 0 0))] w (Rt w (ah af (dI [] []))):=by
 have HK:Hid ((w.alloc (ar (b.cells bn (ae none 0 0) (ae none 0 0)) 119)).heap[w.heap.size]?=some (ar (b.cells bn (ae none 0 0) (ae none 0 0)) 119 (0,0))):=aj (aw w _)
 go_enter Tryz.func155,Tryz.ntmps155
 go_wp2
 go_loopw [3,5,12] (fun n _ i wr=>i=ah af 0/\n=ah af 1/\gu (w.heap.size+1) (w.alloc (ar (b.cells bn (ae none 0 0) (ae none 0 0)) 119)) wr) (fun _ _ _ _=>0)
 case atStart=>exact⟨rfl,rfl,ay _ _⟩
 case round=>
  obtain⟨rfl,rfl,vG⟩:=hrel;obtain⟨nb,KI⟩:∃nb:Int,zH []=nb:=⟨_,rfl⟩
  have abX:nb=1:=KI.symm;subst abX;have HNB:=aj KI;clear KI;have VQ:(1:Int)<=9:=oM;obtain⟨x0,x1,x2,x3,x4,x5,x6,x7,x8,x9,qY,qX,r8,rT,rW⟩:=bZ ((vG.block w.heap.size oM).trans HK.out);have hw1:=vG.size;simp at hw1;go_wp2;obtain⟨wo,Ra⟩:∃wo:ak,wo=wr:=⟨_,rfl⟩
  rw[<-Ra] at vG ⊢;clear Ra
  go_loopw [3,7,25] (fun n _ i wq=>i=ah af 0/\n=ah af 1/\gu (w.heap.size+1) (w.alloc (ar (b.cells bn (ae none 0 0) (ae none 0 0)) 119)) wq) (fun _ _ _ _=>0)
  case atStart=>exact⟨rfl,rfl,vG⟩
  case round=>
   obtain⟨rfl,rfl,zO⟩:=hrel;go_wp2
   go_ret
   exact⟨iH (by rw[dI,HNB.out];rfl),dF.trans (zO.mono oM)⟩
def TX(b:BB)(bn:ai)(w:ak)(ss:List Int)(oK:∀s∈ss,1<=s/\s<=8)(gs os S cs:Nat)(hS:ss.length=S)(Tr:S<=4294967296)(rD:gs<w.heap.size)(hcs:∀j u,(ss.map (ax af))[j]?=some u->w.cell? ⟨gs,os+j,none⟩=some u) :
  bm aq 155 #[aO (b.cells bn (ae (some ⟨gs,os,none⟩) S cs) (ae none 0 0))] w (Rt w (ah af (dI ss []))):=by
 have HS:=aj hS;have HCS:=aj hcs;have Ul:=aj oK;clear hS hcs oK;have HK:Hid ((w.alloc (ar (b.cells bn (ae (some ⟨gs,os,none⟩) S cs) (ae none 0 0)) 119)).heap[w.heap.size]?=some (ar (b.cells bn (ae (some ⟨gs,os,none⟩) S cs) (ae none 0 0)) 119 (0,0))):=aj (aw w _)
 go_enter Tryz.func155,Tryz.ntmps155
 go_wp2
 go_loopw [3,5,12] (fun n _ i wr=>∃k:Nat,k<=S/\i=ah af k/\n=ah af (zH (ss.take k))/\gu (w.heap.size+1) (w.alloc (ar (b.cells bn (ae (some ⟨gs,os,none⟩) S cs) (ae none 0 0)) 119)) wr) (fun _ _ i _=>S-(intOf i).toNat)
 case atStart=>exact⟨0,oM,rfl,rfl,ay _ _⟩
 case round=>
  obtain⟨k,hk,rfl,rfl,vG⟩:=hrel
  by_cases hlt:k<S
  .have kq:k<ss.length:=by rw[HS.out];exact hlt
   have hcell:wr.cell? ⟨gs,os+k,none⟩=some (ah af ss[k]):=(vG.cell (p:=⟨gs,os+k,none⟩) (by show gs<_;omega)).trans ((eI _ _ _ rD).trans (HCS.out k _ (by simp[kq])));have hx:=Ul.out ss[k] (bS kq);have hst:=JA ss k kq;have AH:=Bi (ss.take k) (fun s hs=>(Ul.out s (fV hs)).2);generalize ss[k]=x at *;generalize zH (ss.take k)=n at *;have HST:=aj hst;clear hst;go_wp2;go_roundw
   case rel=>exact⟨k+1,oM,by go_num,by rw[HST.out,Kq],vG⟩
   case measure=>simp[intOf];omega
  obtain rfl:S=k:=oM;have AH:=Bi (ss.take S) (fun s hs=>(Ul.out s (fV hs)).2);have uX:ss.take S=ss:=cQ (by rw[HS.out];exact aJ _);rw[uX] at AH ⊢;clear uX;obtain⟨nb,KI⟩:∃nb:Int,zH ss=nb:=⟨_,rfl⟩
  rw[KI] at AH ⊢;have HNB:=aj KI;clear KI;have VQ:nb<=9:=AH.2;have ai5:1<=nb:=AH.1;clear AH;obtain⟨x0,x1,x2,x3,x4,x5,x6,x7,x8,x9,qY,qX,r8,rT,rW⟩:=bZ ((vG.block w.heap.size oM).trans HK.out);have hw1:=vG.size;simp at hw1;go_wp2;obtain⟨wo,Ra⟩:∃wo:ak,wo=wr:=⟨_,rfl⟩
  rw[<-Ra] at vG ⊢;clear Ra
  go_loopw [3,7,25] (fun n _ i wq=>i=ah af 0/\n=ah af nb/\gu (w.heap.size+1) (w.alloc (ar (b.cells bn (ae (some ⟨gs,os,none⟩) S cs) (ae none 0 0)) 119)) wq) (fun _ _ _ _=>0)
  case atStart=>exact⟨rfl,rfl,vG⟩
  case round=>
   obtain⟨rfl,rfl,zO⟩:=hrel;go_wp2
   go_ret
   exact⟨iH (by rw[dI,HNB.out];rfl),dF.trans (zO.mono oM)⟩
def TY(b:BB)(bn:ai)(w:ak)(ms:List Mk)(M0:∀m∈ms,1<=m.minute/\m.minute<=8)(gm om M cm:Nat)(hM:ms.length=M)(hM2:M<=4294967296)(Zi:gm<w.heap.size)(hcm:∀j u,(ep ms)[j]?=some u->w.cell? ⟨gm,om+j,none⟩=some u) :
  bm aq 155 #[aO (b.cells bn (ae none 0 0) (ae (some ⟨gm,om,none⟩) M cm))] w (Rt w (ah af (dI [] ms))):=by
 have HM:=aj hM;have RO:=aj hcm;have HMM:=aj M0;clear hM hcm M0;have HK:Hid ((w.alloc (ar (b.cells bn (ae none 0 0) (ae (some ⟨gm,om,none⟩) M cm)) 119)).heap[w.heap.size]?=some (ar (b.cells bn (ae none 0 0) (ae (some ⟨gm,om,none⟩) M cm)) 119 (0,0))):=aj (aw w _)
 go_enter Tryz.func155,Tryz.ntmps155
 go_wp2
 go_loopw [3,5,12] (fun n _ i wr=>i=ah af 0/\n=ah af 1/\gu (w.heap.size+1) (w.alloc (ar (b.cells bn (ae none 0 0) (ae (some ⟨gm,om,none⟩) M cm)) 119)) wr) (fun _ _ _ _=>0)
 case atStart=>exact⟨rfl,rfl,ay _ _⟩
 case round=>
  obtain⟨rfl,rfl,vG⟩:=hrel;obtain⟨nb,KI⟩:∃nb:Int,zH []=nb:=⟨_,rfl⟩
  have abX:nb=1:=KI.symm;subst abX;have HNB:=aj KI;clear KI;have VQ:(1:Int)<=9:=oM;obtain⟨x0,x1,x2,x3,x4,x5,x6,x7,x8,x9,qY,qX,r8,rT,rW⟩:=bZ ((vG.block w.heap.size oM).trans HK.out);have hw1:=vG.size;simp at hw1;go_wp2;obtain⟨wo,Ra⟩:∃wo:ak,wo=wr:=⟨_,rfl⟩
  rw[<-Ra] at vG ⊢;clear Ra
  go_loopw [3,7,25] (fun n _ i wq=>∃k:Nat,k<=M/\i=ah af k/\n=ah af (Eo 1 (ms.take k))/\gu (w.heap.size+1) (w.alloc (ar (b.cells bn (ae none 0 0) (ae (some ⟨gm,om,none⟩) M cm)) 119)) wq) (fun _ _ i _=>M-(intOf i).toNat)
  case atStart=>exact⟨0,oM,rfl,rfl,vG⟩
  case round=>
   obtain⟨k,hk,rfl,rfl,zO⟩:=hrel
   by_cases hlt:k<M
   .have kq:k<ms.length:=by rw[HM.out];exact hlt
    have EC:∀o,wr.cell? ⟨gm,o,none⟩=w.cell? ⟨gm,o,none⟩:=fun o=>(zO.cell (p:=⟨gm,o,none⟩) (by show gm<_;omega)).trans (eI _ _ _ Zi);obtain⟨hc0,hc1,hc2⟩:=xJ (w:=wr) (fun j u hj=>(EC _).trans (RO.out j u hj)) k kq;clear EC;have hx:=HMM.out ms[k] (bS kq);have hst:=JB 1 ms k kq;have AH:=Lg 1 VQ (ms.take k) (fun s hs=>(HMM.out s (fV hs)).2);generalize ms[k]=x at *;generalize Eo 1 (ms.take k)=n at *;have HST:=aj hst;clear hst;have hw2:=zO.size;simp at hw2;go_wp2;go_roundw
    case rel=>exact⟨k+1,oM,by go_num,by rw[HST.out,Kq],zO.alloc oM _⟩
    case measure=>simp[intOf];omega
   obtain rfl:M=k:=oM;have uX:ms.take M=ms:=cQ (by rw[HM.out];exact aJ _);rw[uX];clear uX;obtain⟨nc,wA⟩:∃nc:Int,Eo 1 ms=nc:=⟨_,rfl⟩
   rw[wA];have HNC:=aj wA;clear wA;go_wp2
   go_ret
   exact⟨iH (by rw[dI,HNB.out,HNC.out]),dF.trans (zO.mono oM)⟩
def TW(b:BB)(bn:ai)(w:ak)(ss:List Int)(oK:∀s∈ss,1<=s/\s<=8)(gs os S cs:Nat)(hS:ss.length=S)(Tr:S<=4294967296)(rD:gs<w.heap.size)(hcs:∀j u,(ss.map (ax af))[j]?=some u->w.cell? ⟨gs,os+j,none⟩=some u)(ms:List Mk)(M0:∀m∈ms,1<=m.minute/\m.minute<=8)(gm om M cm:Nat)(hM:ms.length=M)(hM2:M<=4294967296)(Zi:gm<w.heap.size)(hcm:∀j u,(ep ms)[j]?=some u->w.cell? ⟨gm,om+j,none⟩=some u) :
  bm aq 155 #[aO (b.cells bn (ae (some ⟨gs,os,none⟩) S cs) (ae (some ⟨gm,om,none⟩) M cm))] w (Rt w (ah af (dI ss ms))):=by
 have HS:=aj hS;have HCS:=aj hcs;have Ul:=aj oK;clear hS hcs oK;have HM:=aj hM;have RO:=aj hcm;have HMM:=aj M0;clear hM hcm M0;have HK:Hid ((w.alloc (ar (b.cells bn (ae (some ⟨gs,os,none⟩) S cs) (ae (some ⟨gm,om,none⟩) M cm)) 119)).heap[w.heap.size]?=some (ar (b.cells bn (ae (some ⟨gs,os,none⟩) S cs) (ae (some ⟨gm,om,none⟩) M cm)) 119 (0,0))):=aj (aw w _)
 go_enter Tryz.func155,Tryz.ntmps155
 go_wp2
 go_loopw [3,5,12] (fun n _ i wr=>∃k:Nat,k<=S/\i=ah af k/\n=ah af (zH (ss.take k))/\gu (w.heap.size+1) (w.alloc (ar (b.cells bn (ae (some ⟨gs,os,none⟩) S cs) (ae (some ⟨gm,om,none⟩) M cm)) 119)) wr) (fun _ _ i _=>S-(intOf i).toNat)
 case atStart=>exact⟨0,oM,rfl,rfl,ay _ _⟩
 case round=>
  obtain⟨k,hk,rfl,rfl,vG⟩:=hrel
  by_cases hlt:k<S
  .have kq:k<ss.length:=by rw[HS.out];exact hlt
   have hcell:wr.cell? ⟨gs,os+k,none⟩=some (ah af ss[k]):=(vG.cell (p:=⟨gs,os+k,none⟩) (by show gs<_;omega)).trans ((eI _ _ _ rD).trans (HCS.out k _ (by simp[kq])));have hx:=Ul.out ss[k] (bS kq);have hst:=JA ss k kq;have AH:=Bi (ss.take k) (fun s hs=>(Ul.out s (fV hs)).2);generalize ss[k]=x at *;generalize zH (ss.take k)=n at *;have HST:=aj hst;clear hst;go_wp2;go_roundw
   case rel=>exact⟨k+1,oM,by go_num,by rw[HST.out,Kq],vG⟩
   case measure=>simp[intOf];omega
  obtain rfl:S=k:=oM;have AH:=Bi (ss.take S) (fun s hs=>(Ul.out s (fV hs)).2);have uX:ss.take S=ss:=cQ (by rw[HS.out];exact aJ _);rw[uX] at AH ⊢;clear uX;obtain⟨nb,KI⟩:∃nb:Int,zH ss=nb:=⟨_,rfl⟩
  rw[KI] at AH ⊢;have HNB:=aj KI;clear KI;have VQ:nb<=9:=AH.2;have ai5:1<=nb:=AH.1;clear AH;obtain⟨x0,x1,x2,x3,x4,x5,x6,x7,x8,x9,qY,qX,r8,rT,rW⟩:=bZ ((vG.block w.heap.size oM).trans HK.out);have hw1:=vG.size;simp at hw1;go_wp2;obtain⟨wo,Ra⟩:∃wo:ak,wo=wr:=⟨_,rfl⟩
  rw[<-Ra] at vG ⊢;clear Ra
  go_loopw [3,7,25] (fun n _ i wq=>∃k:Nat,k<=M/\i=ah af k/\n=ah af (Eo nb (ms.take k))/\gu (w.heap.size+1) (w.alloc (ar (b.cells bn (ae (some ⟨gs,os,none⟩) S cs) (ae (some ⟨gm,om,none⟩) M cm)) 119)) wq) (fun _ _ i _=>M-(intOf i).toNat)
  case atStart=>exact⟨0,oM,rfl,rfl,vG⟩
  case round=>
   obtain⟨k,hk,rfl,rfl,zO⟩:=hrel
   by_cases hlt:k<M
   .have kq:k<ms.length:=by rw[HM.out];exact hlt
    have EC:∀o,wr.cell? ⟨gm,o,none⟩=w.cell? ⟨gm,o,none⟩:=fun o=>(zO.cell (p:=⟨gm,o,none⟩) (by show gm<_;omega)).trans (eI _ _ _ Zi);obtain⟨hc0,hc1,hc2⟩:=xJ (w:=wr) (fun j u hj=>(EC _).trans (RO.out j u hj)) k kq;clear EC;have hx:=HMM.out ms[k] (bS kq);have hst:=JB nb ms k kq;have AH:=Lg nb VQ (ms.take k) (fun s hs=>(HMM.out s (fV hs)).2);generalize ms[k]=x at *;generalize Eo nb (ms.take k)=n at *;have HST:=aj hst;clear hst;have hw2:=zO.size;simp at hw2;go_wp2;go_roundw
    case rel=>exact⟨k+1,oM,by go_num,by rw[HST.out,Kq],zO.alloc oM _⟩
    case measure=>simp[intOf];omega
   obtain rfl:M=k:=oM;have uX:ms.take M=ms:=cQ (by rw[HM.out];exact aJ _);rw[uX];clear uX;obtain⟨nc,wA⟩:∃nc:Int,Eo nb ms=nc:=⟨_,rfl⟩
   rw[wA];have HNC:=aj wA;clear wA;go_wp2
   go_ret
   exact⟨iH (by rw[dI,HNB.out,HNC.out]),dF.trans (zO.mono oM)⟩
def GU(b:BB)(bn aL az:ai)(ss:List Int)(ms:List Mk)(oK:∀s∈ss,1<=s/\s<=8)(M0:∀m∈ms,1<=m.minute/\m.minute<=8)(w:ak)(hs:Reads w aL ss.length (ss.map (ax af)))(hm:Reads w az ms.length (ep ms)) :
  bm aq 155 #[aO (b.cells bn aL az)] w (Rt w (ah af (dI ss ms))):=by
 rcases hs with⟨rfl,hn,_⟩|⟨gs,os,cs,rfl,Tr,rD,hcs⟩
 .obtain rfl:=a_ hn;rcases hm with⟨rfl,hn,_⟩|⟨gm,om,cm,rfl,hM2,Zi,hcm⟩
  .obtain rfl:=a_ hn;exact T1 b bn w
  exact TY b bn w ms M0 gm om _ cm rfl hM2.1 Zi hcm
 rcases hm with⟨rfl,hn,_⟩|⟨gm,om,cm,rfl,hM2,Zi,hcm⟩
 .obtain rfl:=a_ hn;exact TX b bn w ss oK gs os _ cs rfl Tr.1 rD hcs
 exact TW b bn w ss oK gs os _ cs rfl Tr.1 rD hcs ms M0 gm om _ cm rfl hM2.1 Zi hcm
def bE(ss:List Int):Nat:=ss.foldl (fun p s=>p ||| 2 ^ s.toNat) 0
def O4(ss:List Int)(k:Nat)(hk:k<ss.length):bE (ss.take (k+1))=bE (ss.take k) ||| 2 ^ ss[k].toNat:=by
 unfold bE;rw[bH hk,ot];rfl
def FA:∀(l:List Int) (n:Nat),(∀s∈l,1<=s/\s<=8)->n<512->l.foldl (fun p s=>p ||| 2 ^ s.toNat) n<512
 |[],n,_,h=>h
 |a::l,n,h,hn=>by
  refine FA l _ (fun s hs=>h s (by simp[hs])) ?_;have ha:=h a sM;have:2 ^ a.toNat<2 ^ 9:=Nat.pow_lt_pow_right oM oM;exact Nat.or_lt_two_pow (n:=9) hn this
def mV(ss:List Int)(h:∀s∈ss,1<=s/\s<=8):bE ss<512:=FA ss 0 h oM
def kW(ss:List Int)(oK:∀s∈ss,1<=s/\s<=8)(v:ai)(w:ak)(hv:Reads w v ss.length (ss.map (ax af))) :
  bm aq 106 #[v] w fun e w'=>e=aU (ah af (bE ss))/\w=w':=by
 rcases hv with⟨rfl,hn,_⟩|⟨g,off,cap,rfl,hn,hg,hc⟩
 .obtain rfl:=a_ hn;clear hn
  go_enter Tryz.func106,Tryz.ntmps106
  go_wp2
  go_loop [3,8] (fun p i=>i=ah af 0/\p=ah af 0) (fun _ _=>0)
  case atStart=>exact⟨rfl,rfl⟩
  case round=>
   obtain⟨rfl,rfl⟩:=hrel;go_wp2
   go_ret
   exact⟨rfl,rfl⟩
 have HC:=aj hc;have Ul:=aj oK;clear hc oK;generalize hL:ss.length=L at *;have HL:=aj hL;clear hL
 go_enter Tryz.func106,Tryz.ntmps106
 go_wp2
 go_loop [3,5,8] (fun p _ i=>∃k:Nat,k<=L/\i=ah af k/\p=ah af (bE (ss.take k))) (fun _ _ i=>L-(intOf i).toNat)
 case atStart=>exact⟨0,oM,rfl,rfl⟩
 case round=>
  obtain⟨k,hk,rfl,rfl⟩:=hrel
  by_cases hlt:k<L
  .have kq:k<ss.length:=by rw[HL.out];exact hlt
   have hcell:w.cell? ⟨g,off+k,none⟩=some (ah af ss[k]):=HC.out k _ (by simp[kq]);have hx:=Ul.out ss[k] (bS kq);have hst:=O4 ss k kq;have AH:=mV (ss.take k) (fun s hs=>Ul.out s (fV hs));obtain⟨x,hxn⟩:∃x:Nat,ss[k]=(x:Int):=⟨ss[k].toNat,oM⟩
   rw[hxn] at hx hst hcell;clear hxn;generalize bE (ss.take k)=n at *;have HST:=aj hst;clear hst;go_wp2
   go_round
   case rel=>
    refine⟨k+1,oM,by go_num,?_⟩;rw[HST.out];have h1:(2:Nat) ^ x<512:=Nat.pow_lt_pow_right (m:=x) (n:=9) oM oM
    have h2:wrap64 (2 ^ x)=((2 ^ x:Nat):Int):=by
     have e:(2:Int) ^ x=((2 ^ x:Nat):Int):=sM;rw[e,<-IntWalk.i64_left];exact fO _ (Int.natCast_nonneg _) (Int.lt_trans (Int.ofNat_lt.2 h1) dC)
    rw[h2,aev n (2 ^ x) oM oM,Int.toNat_natCast]
   case measure=>simp[intOf];omega
  obtain rfl:k=L:=oM;have uX:ss.take k=ss:=cQ (by rw[HL.out];exact aJ _);rw[uX];clear uX;go_wp2
  go_ret
  exact⟨rfl,rfl⟩
def ud(lo hi l m:Int)(w:ak)(h1:l<=lo)(h2:lo<=hi)(h3:hi<=m):bm aq 152 #[aO #[ah af lo,ah af hi],ah af l,ah af m] w (Rt w (aH true)):=by
 go_enter Tryz.func152,Tryz.ntmps152
 go_wp2
 go_ret
 exact⟨rfl,dF⟩
def iX(n l m:Int)(h1:l<=n)(h2:n<=m)(w:ak):bm aq 138 #[ah af n,ah af l,ah af m] w fun e w'=>e=aU (aH true)/\w=w':=by
 have:=rA n l m w;rw[gW.2 ⟨h1,h2⟩] at this;exact this
def nV(b:BB)(bn aL az:ai)(n:Int)(h1:1<=n)(h2:n<=b.minutes)(w:ak):bm aq 132 #[aO (b.cells bn aL az),ah af n] w (Rt w (aH true)):=by
 go_enter Tryz.func132,Tryz.ntmps132
 go_wp2_with (go_at_call 138;refine(iX _ _ _ oM oM _).mono ?_;rintro e w' ⟨rfl,rfl⟩)
 go_ret
 exact⟨rfl,dF⟩
def Qd(b:BB)(hb:b.Ok)(bn aL az:ai)(w:ak):bm aq 218 #[aO (b.cells bn aL az)] w (Rt w (ah af 0)):=by
 have h1:=hb.room;have h2:=hb.depth;have h3:=hb.least;have h4:=hb.minutes
 go_enter Tryz.func218,Tryz.ntmps218
 go_wp2_with (go_at_call 138;refine(iX _ _ _ oM oM _).mono ?_;rintro e w' ⟨rfl,rfl⟩)
 go_ret
 exact⟨rfl,dF⟩
def Qb(b:BB)(hb:b.Ok)(bn aL az:ai)(w:ak):bm aq 219 #[aO (b.cells bn aL az)] w (Rt w (ah af 0)):=by
 have h1:=hb.cI;have h2:=hb.jP;have h3:=hb.iC;have h4:=hb.ey;have h5:=hb.leak;have h6:=hb.Fs;have h7:=hb.minutes;have HK:Hid ((w.alloc (ar (b.cells bn aL az) 119)).heap[w.heap.size]?=some (ar (b.cells bn aL az) 119 (0,0))):=aj (aw w _)
 go_enter Tryz.func219,Tryz.ntmps219
 go_wp2
 go_loopw [4,16] (fun _ i wr=>((i=ah af 0\/i=ah af 1)\/(i=ah af 2\/i=ah af 3))/\wr=(w.alloc (ar (b.cells bn aL az) 119)).alloc (ar #[ah af b.cI,ah af b.jP,ah af b.iC] 3)) (fun _ i _=>3-(intOf i).toNat)
 case atStart=>exact⟨bV (bV rfl),rfl⟩
 case round=>
  obtain⟨hi,rfl⟩:=hrel;rcases hi with(rfl|rfl)|(rfl|rfl)
  .go_wp2_with (go_at_call 138;refine(iX _ _ _ oM oM _).mono ?_;rintro e w' ⟨rfl,rfl⟩)
   go_roundw
   case rel=>exact⟨bV (.inr rfl),trivial⟩
   case measure=>simp[intOf]
  .go_wp2_with (go_at_call 138;refine(iX _ _ _ oM oM _).mono ?_;rintro e w' ⟨rfl,rfl⟩)
   go_roundw
   case rel=>exact⟨.inr (bV rfl),trivial⟩
   case measure=>simp[intOf]
  .go_wp2_with (go_at_call 138;refine(iX _ _ _ oM oM _).mono ?_;rintro e w' ⟨rfl,rfl⟩)
   go_roundw
   case rel=>exact⟨.inr (.inr rfl),trivial⟩
   case measure=>simp[intOf]
  go_wp2_with (go_at_call 138;refine(iX _ _ _ oM oM _).mono ?_;rintro e w' ⟨rfl,rfl⟩)
  go_at_call 152
  refine(ud _ _ _ _ _ oM oM oM).mono ?_;rintro e w2 ⟨rfl,hb2⟩;have hk2:w2.heap[w.heap.size]?=some (ar (b.cells bn aL az) 119 (0,0)):=(hb2.block _ sO).trans ((aY _ _ _ sM).trans HK.out);have hs2:=hb2.size;simp at hs2;obtain⟨x0,x1,x2,x3,x4,x5,x6,x7,x8,x9,qY,qX,r8,rT,rW⟩:=bZ hk2
  go_wp2_with fail
  refine(ud _ _ _ _ _ oM oM oM).mono ?_;rintro e w3 ⟨rfl,hb3⟩;clear x0 x1 x2 x3 x4 x5 x6 x7 x8 x9 qY qX r8 rT rW;obtain⟨x0,x1,x2,x3,x4,x5,x6,x7,x8,x9,qY,qX,r8,rT,rW⟩:=bZ ((hb3.block _ oM).trans hk2);go_wp2
  go_ret
  exact⟨rfl,((dF.alloc sM _).trans (hb2.mono sO)).trans (hb3.mono oM)⟩
structure eG(b:BB)(pl:List Int):Prop where
 mem:∀p∈pl,1<=p/\p<=b.minutes
 Xn:∀(k:Nat) (h:k+1<pl.length),pl[k]<pl[k+1]
 len:(pl.length:Int)<=b.ey
def rq(b:BB)(hb:b.Ok)(bn aL az v:ai)(pl:List Int)(hp:eG b pl)(w:ak)(hv:Reads w v pl.length (pl.map (ax af))) :
  bm aq 113 #[aO (b.cells bn aL az),v] w (Rt w (ah af 0)):=by
 have hc3:=hb.ey;have AB:=hb.minutes;have HP:=aj hp;rcases hv with⟨rfl,hn,_⟩|⟨g,off,cap,rfl,hn,hg,hc⟩
 .obtain rfl:=a_ hn;clear hn hp;have HK:Hid ((w.alloc (ar (b.cells bn aL az) 119)).heap[w.heap.size]?=some (ar (b.cells bn aL az) 119 (0,0))):=aj (aw w _)
  go_enter Tryz.func113,Tryz.ntmps113
  go_wp2
  go_loopw [9] (fun i wr=>i=ah af 0/\gu (w.heap.size+1) (w.alloc (ar (b.cells bn aL az) 119)) wr) (fun _ _=>0)
  case atStart=>exact⟨rfl,ay _ _⟩
  case round=>
   obtain⟨rfl,eE⟩:=hrel;obtain⟨x0,x1,x2,x3,x4,x5,x6,x7,x8,x9,qY,qX,r8,rT,rW⟩:=bZ ((eE.block w.heap.size oM).trans HK.out);go_wp2
   go_ret
   exact⟨rfl,dF.trans (eE.mono oM)⟩
 have HC:=aj hc;have hlen:=hp.len;clear hc hp;generalize hL:pl.length=L at *;have HL:=aj hL;clear hL;have HK:Hid ((w.alloc (ar (b.cells bn aL az) 119)).heap[w.heap.size]?=some (ar (b.cells bn aL az) 119 (0,0))):=aj (aw w _)
 go_enter Tryz.func113,Tryz.ntmps113
 go_wp2
 go_loopw [5,6,9,14,19] (fun _ _ i _ _ wr=>∃k:Nat,k<=L/\i=ah af k/\gu (w.heap.size+1) (w.alloc (ar (b.cells bn aL az) 119)) wr) (fun _ _ i _ _ _=>L-(intOf i).toNat)
 case atStart=>exact⟨0,oM,rfl,ay _ _⟩
 case round=>
  obtain⟨k,hk,rfl,eE⟩:=hrel;have hsz:=eE.size;simp at hsz;have Y3:w.heap.size<wr.heap.size:=oM;have hk2:wr.heap[w.heap.size]?=some (ar (b.cells bn aL az) 119 (0,0)):=(eE.block w.heap.size oM).trans HK.out;obtain⟨x0,x1,x2,x3,x4,x5,x6,x7,x8,x9,qY,qX,r8,rT,rW⟩:=bZ hk2
  by_cases hlt:k<L
  .have kq:k<pl.length:=by rw[HL.out];exact hlt
   have EC:∀o,wr.cell? ⟨g,o,none⟩=w.cell? ⟨g,o,none⟩:=fun o=>(eE.cell (p:=⟨g,o,none⟩) (by show g<_;omega)).trans (eI _ _ _ hg);have hcell:wr.cell? ⟨g,off+k,none⟩=some (ah af pl[k]):=(EC _).trans (HC.out k _ (by simp[kq]));have hx:=HP.out.mem pl[k] (bS kq)
   by_cases h0:k=0
   .have wB:decide ((0:Int)<(k:Int))=false:=decide_eq_false oM;have apY:decide (0<k)=false:=decide_eq_false oM;have H0:=aj h0;clear h0;clear EC;generalize pl[k]=x at *;have Iz:=aj hk2;clear hk2
    go_wp2_with fail
    refine(nV b bn aL az x hx.1 hx.2 _).mono ?_;rintro e w2 ⟨rfl,hb2⟩;go_wp2;go_roundw
    case rel=>exact⟨k+1,oM,by go_num,eE.trans (hb2.mono oM)⟩
    case measure=>simp[intOf];omega
   obtain⟨j,rfl⟩:∃j,k=j+1:=⟨k-1,oM⟩
   have hcj:wr.cell? ⟨g,off+j,none⟩=some (ah af pl[j]):=(EC _).trans (HC.out j _ (by simp[show j<pl.length by omega]));have has:=HP.out.Xn j kq;have HGW:=aj EC;clear EC;generalize pl[j+1]=x at *;generalize pl[j]=y at *;have Iz:=aj hk2;clear hk2;have wB:decide ((0:Int)<((j+1:Nat):Int))=true:=decide_eq_true oM;have hjj:IntKind.i64.wrap (((j+1:Nat):Int)-1)=(j:Int):=by rw[show((j+1:Nat):Int)-1=(j:Int) by omega];exact fO _ oM oM
   go_wp2_with fail
   refine(nV b bn aL az x hx.1 hx.2 _).mono ?_;rintro e w2 ⟨rfl,hb2⟩;have hc2:w2.cell? ⟨g,off+j,none⟩=some (ah af y):=(hb2.cell (p:=⟨g,off+j,none⟩) (by show g<_;omega)).trans hcj;go_wp2;go_roundw
   case rel=>exact⟨j+1+1,oM,by go_num,eE.trans (hb2.mono oM)⟩
   case measure=>simp[intOf];omega
  obtain rfl:L=k:=oM;go_wp2
  go_ret
  exact⟨rfl,dF.trans (eE.mono oM)⟩
def Qc(b:BB)(hb:b.Ok)(bn aL az:ai)(pl:List Int)(hp:eG b pl)(w:ak)(hv:Reads w aL pl.length (pl.map (ax af))) :
  bm aq 221 #[aO (b.cells bn aL az)] w (Rt w (ah af 0)):=by
 have hv1:Reads (w.alloc (ar (b.cells bn aL az) 119)) aL pl.length (pl.map (ax af)):=hv.below dF;have hP:=rq b hb bn aL az aL pl hp _ hv1;clear hv hv1
 go_enter Tryz.func221,Tryz.ntmps221
 go_wp2_with (go_at_call 113;refine hP.mono ?_;rintro e w2 ⟨rfl,hb2⟩)
 go_ret
 exact⟨rfl,dF.trans (hb2.mono sM)⟩
structure lN(b:BB)(ms:List Mk):Prop where
 mem:∀m∈ms,1<=m.minute/\m.minute<=b.minutes/\0<=m.lo/\m.lo<=m.hi/\m.hi<=99
 len:ms.length<=3
def NM(b:BB)(hb:b.Ok)(bn aL az:ai)(ms:List Mk)(hm:lN b ms)(w:ak)(hv:Reads w az ms.length (ep ms)) :
  bm aq 222 #[aO (b.cells bn aL az)] w (Rt w (ah af 0)):=by
 have AB:=hb.minutes;have HM:=aj hm;have h3:=hm.len;rcases hv with⟨rfl,hn,_⟩|⟨g,off,cap,rfl,hn,hg,hc⟩
 .obtain rfl:=a_ hn;clear hn hm h3;have HK:Hid ((w.alloc (ar (b.cells bn aL (ae none 0 0)) 119)).heap[w.heap.size]?=some (ar (b.cells bn aL (ae none 0 0)) 119 (0,0))):=aj (aw w _)
  go_enter Tryz.func222,Tryz.ntmps222
  go_wp2
  go_loopw [14] (fun i wr=>i=ah af 0/\gu (w.heap.size+1) (w.alloc (ar (b.cells bn aL (ae none 0 0)) 119)) wr) (fun _ _=>0)
  case atStart=>exact⟨rfl,ay _ _⟩
  case round=>
   obtain⟨rfl,eE⟩:=hrel;go_wp2
   go_ret
   exact⟨rfl,dF.trans (eE.mono oM)⟩
 have HC:=aj hc;clear hc hm;generalize hL:ms.length=L at *;have HL:=aj hL;clear hL;have HK:Hid ((w.alloc (ar (b.cells bn aL (ae (some ⟨g,off,none⟩) L cap)) 119)).heap[w.heap.size]?=some (ar (b.cells bn aL (ae (some ⟨g,off,none⟩) L cap)) 119 (0,0))):=aj (aw w _)
 go_enter Tryz.func222,Tryz.ntmps222
 go_wp2
 go_loopw [4,14,18,24] (fun _ i _ _ wr=>∃k:Nat,k<=L/\i=ah af k/\gu (w.heap.size+1) (w.alloc (ar (b.cells bn aL (ae (some ⟨g,off,none⟩) L cap)) 119)) wr) (fun _ i _ _ _=>L-(intOf i).toNat)
 case atStart=>exact⟨0,oM,rfl,ay _ _⟩
 case round=>
  obtain⟨k,hk,rfl,eE⟩:=hrel;have hsz:=eE.size;simp at hsz;have Y3:w.heap.size<wr.heap.size:=oM;have hk2:wr.heap[w.heap.size]?=some (ar (b.cells bn aL (ae (some ⟨g,off,none⟩) L cap)) 119 (0,0)):=(eE.block w.heap.size oM).trans HK.out;obtain⟨x0,x1,x2,x3,x4,x5,x6,x7,x8,x9,qY,qX,r8,rT,rW⟩:=bZ hk2
  by_cases hlt:k<L
  .have kq:k<ms.length:=by rw[HL.out];exact hlt
   have EC:∀o,wr.cell? ⟨g,o,none⟩=w.cell? ⟨g,o,none⟩:=fun o=>(eE.cell (p:=⟨g,o,none⟩) (by show g<_;omega)).trans (eI _ _ _ hg);obtain⟨y0,y1,y2⟩:=xJ (w:=wr) (fun j u hj=>(EC _).trans (HC.out j u hj)) k kq;have hx:=HM.out.mem ms[k] (bS kq);clear EC;generalize ms[k]=x at *;have Iz:=aj hk2;clear hk2
   go_wp2_with fail
   refine(nV b bn aL _ x.minute oM oM _).mono ?_;rintro e w2 ⟨rfl,hb2⟩;have Q_:w2.heap[wr.heap.size]?=some (ar x.cells 81 (0,0)):=(hb2.block _ sM).trans (aw wr _);have z0:w2.cell? ⟨wr.heap.size,0,none⟩=some (ah af x.minute):=by unfold dU;rw[Q_];rfl
   have z1:w2.cell? ⟨wr.heap.size,1,none⟩=some (ah af x.lo):=by unfold dU;rw[Q_];rfl
   have z2:w2.cell? ⟨wr.heap.size,2,none⟩=some (ah af x.hi):=by unfold dU;rw[Q_];rfl
   clear Q_;have hs2:=hb2.size;simp at hs2
   go_wp2_with (go_at_call 152;refine(ud _ _ _ _ _ oM oM oM).mono ?_;rintro e w3 ⟨rfl,hb3⟩)
   go_roundw
   case rel=>exact⟨k+1,oM,by go_num,((eE.alloc oM _).trans (hb2.mono sO)).trans (hb3.mono oM)⟩
   case measure=>simp[intOf];omega
  obtain rfl:L=k:=oM;go_wp2
  go_ret
  exact⟨rfl,dF.trans (eE.mono oM)⟩
structure Lq(s:ByteArray):Prop where
 size:1<=s.size/\s.size<=12
 chr:∀(k:Nat) (h:k<s.size),(97<=s[k].toNat/\s[k].toNat<=122)\/(k≠0/\48<=s[k].toNat/\s[k].toNat<=57)
def Ld(s:ByteArray)(cap k:Nat)(h:k<s.size):(bytesRow s cap)[k]?=some (ah .u8 (s[k].toNat:Int)):=by
 unfold bytesRow;have hd:k<s.data.size:=h;rw[Array.getElem?_append_left (by simpa using hd),Array.getElem?_map,aN hd];rfl
def Vt(s:ByteArray)(hs:Lq s)(w:ak):bm aq 223 #[.string s] w (Rt w (aH true)):=by
 have aaE:=run_bytes_of_string (P:=aq) w 9 234 5 s Tryz.underlying9 Tryz.underlying234 Tryz.underlying5;have h1:=hs.size;have HS:=aj hs;generalize grownCap w s.size 0 5=cap at *;have hC:=Ld s cap;generalize bytesRow s cap=C at *;obtain⟨n,hn⟩:∃n,s.size=n:=⟨_,rfl⟩
 rw[hn] at aaE h1;have HN:=aj hn;have HC:=aj hC;clear hn hC hs;have hB1:Bw w (w.drew.alloc (ar C 5 (C.size,C.size+1))):=(ay _ _).drew.alloc sM _
 go_enter Tryz.func223,Tryz.ntmps223
 go_wp2;clear aaE
 go_loopw [3,4,8] (fun _ _ i wr=>∃k:Nat,k<=n/\i=ah af k/\wr=(w.alloc (ar C 5 (C.size,C.size+1))).drew) (fun _ _ i _=>n-(intOf i).toNat)
 case atStart=>exact⟨0,oM,rfl,rfl⟩
 case round=>
  obtain⟨k,hk,rfl,rfl⟩:=hrel
  by_cases hlt:k<n
  .have kq:k<s.size:=by rw[HN.out];exact hlt
   have hck:=HC.out k kq
   have hcell:(w.alloc (ar C 5 (C.size,C.size+1))).cell? ⟨w.heap.size,k,none⟩=some (ah .u8 (s[k].toNat:Int)):=by
    unfold dU;rw[aw];exact hck
   have hch:=HS.out.chr k kq;have apS:s[k].toNat<256:=s[k].toNat_lt;generalize s[k].toNat=c at *;clear hck;have hI:=rA (c:Int) 97 122;have hD:=rA (c:Int) 48 57;have hcv:IntKind.i64.wrap (c:Int)=c:=fO _ oM oM;rcases hch with hch|⟨hk0,hch⟩
   .have e1:aS (c:Int) 97 122=true:=gW.2 ⟨oM,oM⟩;rw[e1] at hI;clear hD e1;have HCH:=aj hch;clear hch
    go_wp2_with (go_at_call 138;refine(hI _).mono ?_;rintro e w' ⟨rfl,rfl⟩)
    go_roundw
    case rel=>exact⟨k+1,oM,by go_num,trivial⟩
    case measure=>simp[intOf];omega
   have e1:aS (c:Int) 97 122=false:=by unfold aS;rw[decide_eq_false oM];rfl
   have e2:aS (c:Int) 48 57=true:=gW.2 ⟨oM,oM⟩;rw[e1] at hI;rw[e2] at hD;have e3:((k:Int)==0)=false:=sO;have e4:(k==0)=false:=sO;clear e1 e2;have HCH:=aj hch;have HK0:=aj hk0;clear hch hk0
   go_wp2_with fail
   refine(hI _).mono ?_;rintro e w' ⟨rfl,rfl⟩
   go_wp2_with fail
   refine(hD _).mono ?_;rintro e w' ⟨rfl,rfl⟩;go_wp2;go_roundw
   case rel=>exact⟨k+1,oM,by go_num,trivial⟩
   case measure=>simp[intOf];omega
  obtain rfl:n=k:=oM;have hs1:=HS.out.size
  go_wp2_with (go_at_call 138;refine(iX _ _ _ oM oM _).mono ?_;rintro e w' ⟨rfl,rfl⟩)
  go_ret
  exact⟨rfl,dF.drew⟩
structure Mn where
 name:ByteArray
 lo:Int
 hi:Int
abbrev Mn.cells(m:Mn):Array Value:=#[.string m.name,ah af m.lo,ah af m.hi]
def dX(l:List Mn):List Value:=l.flatMap fun m=>m.cells.toList
def t_(l:List Mn):(dX l).length=3*l.length:=by
 induction l with
 |nil=>rfl
 |cons a l ih=>simp[dX] at ih ⊢;omega
def nC:∀(l:List Mn) (k j:Nat) (hk:k<l.length),j<3->(dX l)[3*k+j]?=l[k].cells[j]?
 |[],k,j,hk,_=>by simp at hk
 |a::l,0,j,_,hj=>by
  have:dX (a::l)=a.cells.toList++dX l:=rfl;rw[this,Bt sO];simp
 |a::l,k+1,j,hk,hj=>by
  have e:dX (a::l)=a.cells.toList++dX l:=rfl;rw[e,List.getElem?_append_right sO];have:=nC l k j (by simpa using hk) hj;simp only[List.getElem_cons_succ];rw[<-this]
  congr 1
  simp;omega
def EB{w:ak}{g off:Nat}{l:List Mn}(hc:∀j u,(dX l)[j]?=some u->w.cell? ⟨g,off+j,none⟩=some u)(k:Nat)(hk:k<l.length) :
  w.cell? ⟨g,off+k*3,none⟩=some (.string l[k].name)/\w.cell? ⟨g,off+k*3+1,none⟩=some (ah af l[k].lo)/\w.cell? ⟨g,off+k*3+2,none⟩=some (ah af l[k].hi):=
 ⟨hc (k*3) _ (by have:=nC l k 0 hk oM;rw[rR];simpa using this),hc (k*3+1) _ (by rw[rR,nC l k 1 hk oM];rfl),hc (k*3+2) _ (by rw[rR,nC l k 2 hk oM];rfl)⟩
structure xp(l:List Mn):Prop where
 mem:∀m∈l,Lq m.name/\1<=m.lo/\m.lo<=m.hi/\m.hi<=99/\m.hi-m.lo<3
 apart:∀(i k:Nat) (hi:i<l.length) (hk:k<l.length),i<k->l[i].name≠l[k].name
 len:l.length<=3
def N1{a b:ByteArray}(h:a≠b):¬a.toList=b.toList:=by
 intro e;rw[ByteArray.toList_eq,ByteArray.toList_eq] at e;obtain⟨⟨x⟩⟩:=a;obtain⟨⟨y⟩⟩:=b;have:x=y:=e;subst this;exact h rfl
def J3(m:Mn)(o:ByteArray)(hne:m.name≠o)(B:Nat)(w:ak)(hB:w.cell? ⟨B,0,none⟩=some (.string o))(hBl:B<w.heap.size):bm aq 225 #[aO m.cells,fP (some ⟨B,0,none⟩)] w (Rt w (aH false)):=by
 have H:=aj (N1 hne);clear hne
 go_enter Tryz.func225,Tryz.ntmps225
 go_wp2
 go_ret
 exact⟨rh (by simpa using H.out),dF⟩
def MR(l:List Mn)(o:ByteArray)(hne:∀m∈l,m.name≠o)(g off L cap B:Nat)(w:ak)(hL:l.length=L)(hL2:L<=4294967296)(hg:g<w.heap.size)(hc:∀j u,(dX l)[j]?=some u->w.cell? ⟨g,off+j,none⟩=some u)
  (hB:w.cell? ⟨B,0,none⟩=some (.string o)) (hBl:B<w.heap.size) :
  bm aq 226 #[ae (some ⟨g,off,none⟩) L cap,.func (.func 225) #[] #[fP (some ⟨B,0,none⟩)]] w (Rt w (ah af (-1))):=by
 have HC:=aj hc;have HN:=aj hne;have HL:=aj hL;have HB:=aj hB;clear hc hne hL hB
 go_enter Tryz.func226,Tryz.ntmps226
 go_wp2
 go_loopw [5,8] (fun _ i wr=>∃k:Nat,k<=L/\i=ah af k/\Bw w wr) (fun _ i _=>L-(intOf i).toNat)
 case atStart=>exact⟨0,oM,rfl,ay _ _⟩
 case round=>
  obtain⟨k,hk,rfl,eE⟩:=hrel
  by_cases hlt:k<L
  .have kq:k<l.length:=by rw[HL.out];exact hlt
   have EC:∀o,wr.cell? ⟨g,o,none⟩=w.cell? ⟨g,o,none⟩:=fun o=>eE.cell (p:=⟨g,o,none⟩) hg;obtain⟨y0,y1,y2⟩:=EB (w:=wr) (fun j u hj=>(EC _).trans (HC.out j u hj)) k kq;have hS:=J3 l[k] o (HN.out _ (bS kq)) B wr ((eE.cell (p:=⟨B,0,none⟩) hBl).trans HB.out) (bA hBl eE.size);clear EC;have hsz:=eE.size;generalize l[k]=x at *
   go_wp2_with (go_at_call 225;refine hS.mono ?_;rintro e w2 ⟨rfl,hb2⟩)
   go_roundw
   case rel=>exact⟨k+1,oM,by go_num,eE.trans (hb2.mono hsz)⟩
   case measure=>simp[intOf];omega
  obtain rfl:L=k:=oM;go_wp2
  go_ret
  exact⟨rfl,eE⟩
def Gr(l:List Mn)(o:ByteArray)(hne:∀m∈l,m.name≠o)(g off L cap B:Nat)(w:ak)(hL:l.length=L)(hL2:L<=4294967296)(hg:g<w.heap.size)(hc:∀j u,(dX l)[j]?=some u->w.cell? ⟨g,off+j,none⟩=some u)
  (hB:w.cell? ⟨B,0,none⟩=some (.string o)) (hBl:B<w.heap.size) :
  bm aq 224 #[ae (some ⟨g,off,none⟩) L cap,.func (.func 225) #[] #[fP (some ⟨B,0,none⟩)]] w (Rt w (aH false)):=by
 have hI:=MR l o hne g off L cap B w hL hL2 hg hc hB hBl;clear hne hL hc hB
 go_enter Tryz.func224,Tryz.ntmps224
 go_wp2_with (go_at_call 226;refine hI.mono ?_;rintro e w2 ⟨rfl,hb2⟩)
 go_ret
 exact⟨rfl,hb2⟩
def TP(b:BB)(bn aL az:ai)(l:List Mn)(hl:xp l)(w:ak)(hv:Reads w bn l.length (dX l)) :
  bm aq 220 #[aO (b.cells bn aL az)] w (Rt w (ah af 0)):=by
 have HM:=aj hl;have h3:=hl.len;rcases hv with⟨rfl,hn,_⟩|⟨g,off,cap,rfl,hn,hg,hc⟩
 .obtain rfl:=a_ hn;clear hn hl h3
  go_enter Tryz.func220,Tryz.ntmps220
  go_wp2
  go_loopw [14] (fun i wr=>i=ah af 0/\gu (w.heap.size+1) (w.alloc (ar (b.cells (ae none 0 0) aL az) 119)) wr) (fun _ _=>0)
  case atStart=>exact⟨rfl,ay _ _⟩
  case round=>
   obtain⟨rfl,eE⟩:=hrel;go_wp2
   go_ret
   exact⟨rfl,dF.trans (eE.mono oM)⟩
 have HC:=aj hc;clear hc hl;generalize hL:l.length=L at *;have HL:=aj hL;clear hL;have HK:Hid ((w.alloc (ar (b.cells (ae (some ⟨g,off,none⟩) L cap) aL az) 119)).heap[w.heap.size]?=some (ar (b.cells (ae (some ⟨g,off,none⟩) L cap) aL az) 119 (0,0))):=aj (aw w _)
 go_enter Tryz.func220,Tryz.ntmps220
 go_wp2
 go_loopw [3,4,14,19,24,32] (fun _ _ i _ _ _ wr=>∃k:Nat,k<=L/\i=ah af k/\gu (w.heap.size+1) (w.alloc (ar (b.cells (ae (some ⟨g,off,none⟩) L cap) aL az) 119)) wr) (fun _ _ i _ _ _ _=>L-(intOf i).toNat)
 case atStart=>exact⟨0,oM,rfl,ay _ _⟩
 case round=>
  obtain⟨k,hk,rfl,eE⟩:=hrel;have hsz:=eE.size;simp at hsz;have Y3:w.heap.size<wr.heap.size:=oM
  by_cases hlt:k<L
  .have kq:k<l.length:=by rw[HL.out];exact hlt
   have EC:∀o,wr.cell? ⟨g,o,none⟩=w.cell? ⟨g,o,none⟩:=fun o=>(eE.cell (p:=⟨g,o,none⟩) (by show g<_;omega)).trans (eI _ _ _ hg);obtain⟨y0,y1,y2⟩:=EB (w:=wr) (fun j u hj=>(EC _).trans (HC.out j u hj)) k kq;obtain⟨Tf,hx⟩:=HM.out.mem l[k] (bS kq)
   have hne:∀m∈l.take k,m.name≠l[k].name:=by
    intro m hm;obtain⟨i,hi,rfl⟩:=List.mem_iff_getElem.1 hm;have hik:i<k:=by simp at hi;omega
    rw[List.getElem_take];exact HM.out.apart i k oM kq hik
   have hrow:∀(j:Nat) (u:ai),(dX (l.take k))[j]?=some u->(dX l)[j]?=some u:=by
    intro j u hj
    have e:dX l=dX (l.take k)++dX (l.drop k):=by
     unfold dX;rw[<-List.flatMap_append,List.take_append_drop]
    rw[e,Bt (List.getElem?_eq_some_iff.1 hj).1];exact hj
   have HGW:=aj EC;have HNE:=aj hne;have ak6:=aj hrow;have hlk:(l.take k).length=k:=sO;have HLK:=aj hlk;have ajM:=Vt l[k].name Tf;clear EC hne hrow hlk Tf;generalize l.take k=lk at *;generalize l[k]=x at *;have tP:wr.heap[w.heap.size]?=some (ar (b.cells (ae (some ⟨g,off,none⟩) L cap) aL az) 119 (0,0)):=(eE.block w.heap.size oM).trans HK.out;have HKK:=aj tP;clear tP
   go_wp2_with fail
   refine(ajM _).mono ?_;rintro e w2 ⟨rfl,hb2⟩;have Q_:w2.heap[wr.heap.size]?=some (ar x.cells 79 (0,0)):=(hb2.block _ sM).trans (aw wr _);have z0:w2.cell? ⟨wr.heap.size,0,none⟩=some (.string x.name):=by unfold dU;rw[Q_];rfl
   have hs2:=hb2.size;simp at hs2;have afU:w2.heap[w.heap.size]?=some (ar (b.cells (ae (some ⟨g,off,none⟩) L cap) aL az) 119 (0,0)):=(hb2.block _ sO).trans ((aY _ _ _ Y3).trans HKK.out);have afF:∀o,w2.cell? ⟨g,o,none⟩=w.cell? ⟨g,o,none⟩:=fun o=>((hb2.cell (p:=⟨g,o,none⟩) (by show g<_;simp;omega)).trans (eI _ _ _ (by show g<_;omega))).trans (HGW.out o);have hCt:=Gr lk x.name HNE.out g off k cap wr.heap.size w2 HLK.out oM oM (fun j u hj=>(afF _).trans (HC.out j u (ak6.out j u hj))) z0 oM;obtain⟨x0,x1,x2,x3,x4,x5,x6,x7,x8,x9,qY,qX,r8,rT,rW⟩:=bZ afU;have HXK:=aj Q_;clear Q_ afF afU
   go_wp2_with fail
   refine hCt.mono ?_;rintro e w3 ⟨rfl,hb3⟩;have Y1:w3.heap[wr.heap.size]?=some (ar x.cells 79 (0,0)):=(hb3.block _ oM).trans HXK.out;have u1:w3.cell? ⟨wr.heap.size,1,none⟩=some (ah af x.lo):=by unfold dU;rw[Y1];rfl
   have u2:w3.cell? ⟨wr.heap.size,2,none⟩=some (ah af x.hi):=by unfold dU;rw[Y1];rfl
   have arh:=aj Y1;have hs3:=hb3.size;clear Y1 x0 x1 x2 x3 x4 x5 x6 x7 x8 x9 qY qX r8 rT rW z0
   go_wp2_with fail
   refine(ud _ _ _ _ _ oM oM oM).mono ?_;rintro e w4 ⟨rfl,hb4⟩;have v1:w4.cell? ⟨wr.heap.size,1,none⟩=some (ah af x.lo):=(hb4.cell (p:=⟨wr.heap.size,1,none⟩) (by show wr.heap.size<_;omega)).trans u1;have v2:w4.cell? ⟨wr.heap.size,2,none⟩=some (ah af x.hi):=(hb4.cell (p:=⟨wr.heap.size,2,none⟩) (by show wr.heap.size<_;omega)).trans u2;go_wp2;go_roundw
   case rel=>exact⟨k+1,oM,by go_num,(((eE.alloc oM _).trans (hb2.mono sO)).trans (hb3.mono oM)).trans (hb4.mono oM)⟩
   case measure=>simp[intOf];omega
  obtain rfl:L=k:=oM;go_wp2
  go_ret
  exact⟨rfl,dF.trans (eE.mono oM)⟩
section
variable(P:aK)(w:ak)(a:Addr)(m:Mode)
@[go_sem] theorem UK (f:Fn) (c d:Array ai):(store a (.func f c d) m).run P w=stored P w a (.func f c d) m:=run_store P w a _ m rfl
end
structure Laid(w:ak):Prop where
 c0:w.cell? ⟨0,0,none⟩=some (.func (.func 218) #[] #[])
 c1:w.cell? ⟨0,1,none⟩=some (.func (.func 219) #[] #[])
 c2:w.cell? ⟨0,2,none⟩=some (.func (.func 220) #[] #[])
 c3:w.cell? ⟨0,3,none⟩=some (.func (.func 221) #[] #[])
 c4:w.cell? ⟨0,4,none⟩=some (.func (.func 222) #[] #[])
 lt:0<w.heap.size
def Laid.below{w w':ak}(h:Laid w)(hb:Bw w w'):Laid w':=
 ⟨(hb.cell (p:=⟨0,0,none⟩) h.lt).trans h.c0,(hb.cell (p:=⟨0,1,none⟩) h.lt).trans h.c1,(hb.cell (p:=⟨0,2,none⟩) h.lt).trans h.c2,(hb.cell (p:=⟨0,3,none⟩) h.lt).trans h.c3,(hb.cell (p:=⟨0,4,none⟩) h.lt).trans h.c4,bA h.lt hb.size⟩
structure dh(b:BB)(bn aL az:ai)(ml:List Mn)(ss:List Int)(ms:List Mk)(w:ak):Prop where
 ok:b.Ok
 iF:xp ml
 ng:eG b ss
 lK:lN b ms
 rm:Reads w bn ml.length (dX ml)
 rs:Reads w aL ss.length (ss.map (ax af))
 rk:Reads w az ms.length (ep ms)
def dh.below{b:BB}{bn aL az:ai}{ml:List Mn}{ss:List Int}{ms:List Mk}{w w':ak}(h:dh b bn aL az ml ss ms w)(hb:Bw w w'):dh b bn aL az ml ss ms w':=
 ⟨h.ok,h.iF,h.ng,h.lK,h.rm.below hb,h.rs.below hb,h.rk.below hb⟩
def fh(b:BB)(bn aL az:ai)(ml:List Mn)(ss:List Int)(ms:List Mk)(w:ak)(hL:Laid w)(hB:dh b bn aL az ml ss ms w) :
  bm aq 71 #[aO (b.cells bn aL az)] w (Rt w (ah af 0)):=by
 obtain⟨l0,l1,l2,l3,l4,llt⟩:=hL;have i0:∀w,(nw 163 (aO #[.func (.func 218) #[] #[],.func (.func 219) #[] #[],.func (.func 220) #[] #[],.func (.func 221) #[] #[],.func (.func 222) #[] #[]]) (ah af 0)).run aq w=.ok (aO #[.func (.func 218) #[] #[]]) w:=fun _=>by kernel_rfl
 have i1:∀w,(nw 163 (aO #[.func (.func 218) #[] #[],.func (.func 219) #[] #[],.func (.func 220) #[] #[],.func (.func 221) #[] #[],.func (.func 222) #[] #[]]) (ah af 1)).run aq w=.ok (aO #[.func (.func 219) #[] #[]]) w:=fun _=>by kernel_rfl
 have i2:∀w,(nw 163 (aO #[.func (.func 218) #[] #[],.func (.func 219) #[] #[],.func (.func 220) #[] #[],.func (.func 221) #[] #[],.func (.func 222) #[] #[]]) (ah af 2)).run aq w=.ok (aO #[.func (.func 220) #[] #[]]) w:=fun _=>by kernel_rfl
 have i3:∀w,(nw 163 (aO #[.func (.func 218) #[] #[],.func (.func 219) #[] #[],.func (.func 220) #[] #[],.func (.func 221) #[] #[],.func (.func 222) #[] #[]]) (ah af 3)).run aq w=.ok (aO #[.func (.func 221) #[] #[]]) w:=fun _=>by kernel_rfl
 have i4:∀w,(nw 163 (aO #[.func (.func 218) #[] #[],.func (.func 219) #[] #[],.func (.func 220) #[] #[],.func (.func 221) #[] #[],.func (.func 222) #[] #[]]) (ah af 4)).run aq w=.ok (aO #[.func (.func 222) #[] #[]]) w:=fun _=>by kernel_rfl
 have HK:Hid ((w.alloc (ar (b.cells bn aL az) 28)).heap[w.heap.size]?=some (ar (b.cells bn aL az) 28 (0,0))):=aj (aw w _)
 go_enter Tryz.func71,Tryz.ntmps71
 go_wp2
 go_loopw [4,5,7] (fun _ _ i wr=>((i=ah af 0\/i=ah af 1)\/(i=ah af 2\/i=ah af 3)\/(i=ah af 4\/i=ah af 5))/\gu (w.heap.size+1) (w.alloc (ar (b.cells bn aL az) 28)) wr) (fun _ _ i _=>5-(intOf i).toNat)
 case atStart=>exact⟨bV (bV rfl),ay _ _⟩
 case round=>
  obtain⟨hi,eE⟩:=hrel;have hsz:=eE.size;simp at hsz;have Y3:w.heap.size<wr.heap.size:=oM;have vV:Bw w wr:=dF.trans (eE.mono oM);have hB2:=hB.below vV;obtain⟨x0,x1,x2,x3,x4,x5,x6,x7,x8,x9,qY,qX,r8,rT,rW⟩:=bZ ((eE.block w.heap.size oM).trans HK.out);clear vV l0 l1 l2 l3 l4;rcases hi with(rfl|rfl)|(rfl|rfl)|(rfl|rfl)
  .go_wp2_with (go_at_call 218;refine(Qd b hB2.ok bn aL az _).mono ?_;rintro e w2 ⟨rfl,hb2⟩)
   have hs2:=hb2.size;simp at hs2;go_roundw
   case rel=>exact⟨bV (.inr rfl),(eE.alloc oM _).trans (hb2.mono sO)⟩
   case measure=>simp[intOf]
  .go_wp2_with (go_at_call 219;refine(Qb b hB2.ok bn aL az _).mono ?_;rintro e w2 ⟨rfl,hb2⟩)
   have hs2:=hb2.size;simp at hs2;go_roundw
   case rel=>exact⟨.inr (bV (bV rfl)),(eE.alloc oM _).trans (hb2.mono sO)⟩
   case measure=>simp[intOf]
  .go_wp2_with (go_at_call 220;refine(TP b bn aL az ml hB2.iF _ (hB2.rm.below dF)).mono ?_;rintro e w2 ⟨rfl,hb2⟩)
   have hs2:=hb2.size;simp at hs2;go_roundw
   case rel=>exact⟨.inr (bV (.inr rfl)),(eE.alloc oM _).trans (hb2.mono sO)⟩
   case measure=>simp[intOf]
  .go_wp2_with (go_at_call 221;refine(Qc b hB2.ok bn aL az ss hB2.ng _ (hB2.rs.below dF)).mono ?_;rintro e w2 ⟨rfl,hb2⟩)
   have hs2:=hb2.size;simp at hs2;go_roundw
   case rel=>exact⟨.inr (.inr (bV rfl)),(eE.alloc oM _).trans (hb2.mono sO)⟩
   case measure=>simp[intOf]
  .go_wp2_with (go_at_call 222;refine(NM b hB2.ok bn aL az ms hB2.lK _ (hB2.rk.below dF)).mono ?_;rintro e w2 ⟨rfl,hb2⟩)
   have hs2:=hb2.size;simp at hs2;go_roundw
   case rel=>exact⟨.inr (.inr (.inr rfl)),(eE.alloc oM _).trans (hb2.mono sO)⟩
   case measure=>simp[intOf]
  go_wp2
  go_ret
  exact⟨rfl,dF.trans (eE.mono oM)⟩
open Go Go.ChangeShapes
abbrev MN:List (String × DataW Unit):=[("lagan/bell.checks",Rows.laid_lagan_bell_checks)]
def S7:Tryz.prog.globalNamed "lagan/bell.checks" = some 0:=kQ
def Vq:(Tryz.prog.globals[0]?).map (·.type)=some 163:=kQ
def Aw{W:ak}{n:Nat}{cs:List ai}{i:Nat}{f0:en}{b:UInt8}{r:List UInt8}{xs:List (DataW (List UInt8) × List MemPlace)}(hlen:cs.length=5)(hi:i<5)
  (hel:∀(i:Nat),i<5->DataW.trod (funcToken aq) aq W 0 (fun _=>true) true n 162 ((cs.drop (i*1)).take 1)=xs[i]?) {q:List MemPlace} (hx:xs[i]?=some (.agg [.held (b::r)],q))
  (afl:((aP Tryz.prog.funcs.size).filter fun f=>(Tryz.prog.funcs[f]?).any (·.name.toUTF8.data.toList==b::r))=[f0]):cs[i]?=some (.func (.func f0) #[] #[]):=by
 have h:=hel i hi;rw[hx] at h;obtain⟨ys,m,-,hy,-,hl,hf⟩:=DataW.trod_struct Tryz.underlying162 h;have h0:=hf 0 _ rfl;have hl:ys.length=1:=hl
 match ys,hl with
 |[y],_=>
  have akF:Tryz.prog.cellsOf 125=1:=kQ;simp only[cV,List.map_nil,iA,DataW.agg.injEq,BD,and_true] at hy
  have e:List.take 1 (List.drop 0 (List.take 1 (List.drop (i*1) cs)))=[cs[i]'oM]:=by
   rw[Nat.mul_one,eh (l:=cs) (i:=i) oM];rfl
  have h0':DataW.trod (funcToken aq) aq W 0 (fun _=>true) true m 125 (List.take (Tryz.prog.cellsOf 125) (List.drop 0 (List.take 1 (List.drop (i*1) cs))))=some y:=h0;rw[akF,e] at h0';have h1:DataW.trod (funcToken aq) aq W 0 (fun _=>true) true m 125 [cs[i]'oM]=some (.held (b::r),y.2):=by rw[h0',hy.1]
  have:=func_of_trod Tryz.underlying125 afl h1;rw[List.getElem?_eq_getElem oM,this]
def YJ{W:ak}(h:laidMetH aq MN W):Laid W:=by
 obtain⟨g,t,cs,fuel,p,hg,ht,hv,htr⟩:=laidMetH.funcs h (.head _);obtain rfl:=aT (S7.symm.trans hg);obtain rfl:=aT (Vq.symm.trans ht);obtain⟨xs,m,-,hx,hlen,hxl,hel⟩:=DataW.trod_array Tryz.underlying163 htr;have akD:Tryz.prog.cellsOf 163=5:=kQ;have akE:Tryz.prog.cellsOf 162=1:=kQ;rw[akD] at hlen;simp only[akE] at hel;simp only[iA] at hx;have hx:=hx.1;simp only[DataW.funcsOut,DataW.funcsOutAll,DataW.agg.injEq] at hx
 match xs,hxl with
 |[x0,x1,x2,x3,x4],_=>
  simp only[cV,List.map_nil,BD,and_true] at hx;obtain⟨y0,y1,y2,y3,y4⟩:=hx;have hc:=World.var?_cell hg hv;have hs:∀(i:Nat) (u:ai),cs.toList[i]?=some u->W.cell? ⟨0,i,none⟩=some u:=fun i u h=>(hc i).trans (by rw[<-Array.getElem?_toList];exact h);have z0:=hs 0 _ (Aw (f0:=218) (q:=x0.2) hlen dC hel (congrArg some (Prod.ext y0.symm rfl)) kQ);have z1:=hs 1 _ (Aw (f0:=219) (q:=x1.2) hlen dC hel (congrArg some (Prod.ext y1.symm rfl)) kQ);have z2:=hs 2 _ (Aw (f0:=220) (q:=x2.2) hlen dC hel (congrArg some (Prod.ext y2.symm rfl)) kQ);have z3:=hs 3 _ (Aw (f0:=221) (q:=x3.2) hlen dC hel (congrArg some (Prod.ext y3.symm rfl)) kQ);have z4:=hs 4 _ (Aw (f0:=222) (q:=x4.2) hlen dC hel (congrArg some (Prod.ext y4.symm rfl)) kQ);exact⟨z0,z1,z2,z3,z4,Nat.lt_of_not_le fun h=>by rw[dU,fS h] at z0;cases z0⟩
end Go.Proofs.YtffladgmkiimjaaGreatDoor
namespace Go.Lag
open Go Go.RowKit
abbrev pv(b i:Nat):Value:=.pointer (some ⟨b,i,none⟩)
def Yields(P:aK)(o:cY)(ev:bI->ai)(w:ak)(R:ai->ak->Prop):Prop:=
 match (cC ev o).run P w with
 |.ok (.value v) w'=>R v w'
 |.ok .skip w'=>R au w'
 |.ok (.enter f args) w'=>bm P f args w' fun e w''=>∃v,e=.returned v/\R v w''
 |_=>False
def Yields.value{P:aK}{o:cY}{ev:bI->ai}{w w':ak}{R:ai->ak->Prop}{v:ai}(he:(cC ev o).run P w=.ok (.value v) w')(h:R v w'):Yields P o ev w R:=by
 unfold Yields;rw[he];exact h
def Yields.skip{P:aK}{o:cY}{ev:bI->ai}{w w':ak}{R:ai->ak->Prop}(he:(cC ev o).run P w=.ok .skip w')(h:R au w'):Yields P o ev w R:=by
 unfold Yields;rw[he];exact h
def Yields.call{P:aK}{o:cY}{ev:bI->ai}{w:ak}{R:ai->ak->Prop}{f:en}{args:Array ai}{R':Ending->ak->Prop}(he:(cC ev o).run P w=.ok (.enter f args) w)
  (h:bm P f args w R') (hr:∀e w',R' e w'->∃v,e=.returned v/\R v w'):Yields P o ev w R:=by
 unfold Yields;rw[he];exact h.mono hr
def Yields.wp{P:aK}{o:cY}{a:jY}{w:ak}{R:ai->ak->Prop}{K:jY->ak->Prop}{Q:Exit->jY->ak->Prop}(h:Yields P o a.eval w R)
  (hk:∀v w',R v w'->K (a.put o.dst v) w'):o.wp P a w K Q:=by
 unfold Oper.wp;unfold Yields at h;generalize (cC a.eval o).run P w=r at *;cases r with
 |halt x w'=>exact h.elim
 |ok n w'=>
  cases n<;>simp only[] at h
  .exact hk _ _ h
  .exact hk _ _ h
  all_goals first|exact h.elim|skip
  exact h.mono (by rintro e w'' ⟨v,rfl,hv⟩;exact hk _ _ hv)
abbrev Pred:=ai->List ai->ak->Prop
def eC(aM:Array cY)(j:Nat):Option Tmp:=(aM[j]?).bind (·.dst)
def jw(d:Option j5)(ev:bI->ai):Value:=
 match d with
 |some d=>ev (.tmp d)
 |none=>au
def gJ(Vs:List Pred)(i:Nat):Pred:=Vs.getD i fun _ _ _=>True
def gK(aM:Array cY)(ev:bI->ai)(l:List Edge):List Value:=(l.filter (fR .any)).map fun e=>jw (eC aM e.on) ev
def gp(aM:Array cY)(i:Nat):List Edge:=match aM[i]? with|some o=>o.after.toList|none=>[]
def gi(ev:bI->ai):List (j5 × ai)->Prop
 |[]=>True
 |(t,v)::l=>ev (.tmp t)=v/\gi ev l
def Hc(aM:Array cY)(Vs:List Pred)(ev:bI->ai)(w:ak):List Edge->Prop
 |[]=>True
 |e::l=>(fR .any e=true->gJ Vs e.on (jw (eC aM e.on) ev) (gK aM ev (gp aM e.on)) w)/\Hc aM Vs ev w l
def Post(aM:Array cY)(ev:bI->ai)(Vs:List Pred)(S:ak->Prop)(i:Nat)(o:cY)(w:ak)(v:ai)(w':ak):Prop:=
 gJ Vs i (match o.dst with|some _=>v|none=>au) (gK aM ev o.after.toList) w'/\(Bw w w'\/(S w'/\∀k u ds,k≠i->gJ Vs k u ds w->gJ Vs k u ds w'))
abbrev mY:=cY->(bI->ai)->ak->(ai->ak->Prop)->Prop
def RJ(Y:mY)(aM:Array cY)(Vs:List Pred)(S:ak->Prop)(base:List (j5 × ai))(i:Nat)(o:cY):Prop:=
 ∀(ev:bI->ai) (w:ak),S w->(∀v,ev (.const v)=v)->(∀g,ev (.global g)=.pointer (some ⟨g,0,none⟩))->(∀f,ev (.func f)=.func (.func f) #[] #[])->gi ev base->Hc aM Vs ev w o.after.toList->
  match o.guard with
  |none=>Y o ev w (Post aM ev Vs S i o w)
  |some (j,b)=>(∃r,jw (eC aM j) ev=.bool r)/\∀r,jw (eC aM j) ev=.bool r->if r=b then Y o ev w (Post aM ev Vs S i o w) else Post aM ev Vs S i o w au w
def Each(Y:mY)(aM:Array cY)(Vs:List Pred)(S:ak->Prop)(base:List (j5 × ai)):Nat->List cY->Prop
 |_,[]=>True
 |i,o::l=>RJ Y aM Vs S base i o/\Each Y aM Vs S base (i+1) l
def jy(S:ak->Prop):List Pred->Prop
 |[]=>True
 |V::l=>(∀u ds w w',S w->V u ds w->Bw w w'->V u ds w')/\jy S l
def ji(aM:Array cY)(n:Nat)(base:List (j5 × ai)):Bool:=
 ((aP aM.size).all fun i=>
  match aM[i]? with
  |none=>false
  |some o=>(o.after.toList.all fun e=>!Region.binds .any e||decide (e.on<i)) &&
   (match o.dst with|some d=>decide (d<n)&&(base.all fun p=>decide (p.1≠d))&&((aP i).all fun j=>decide (eC aM j≠some d))|none=>true) &&
   (match o.guard with|some (j,_)=>(o.after.toList.any fun e=>fR .any e&&decide (e.on=j))|none=>true)) &&
 (base.all fun p=>decide (p.1<n))
section
variable{P:aK}{aM:Array cY}{Q:Exit->jY->ak->Prop}{Vs:List Pred}{S:ak->Prop}{base:List (j5 × ai)}{n:Nat}
theorem Each.get{Y:mY}{i:Nat}{l:List cY}(h:Each Y aM Vs S base i l){j:Nat}{o:cY}(hj:l[j]?=some o):RJ Y aM Vs S base (i+j) o:=by
 induction l generalizing i j with
 |nil=>simp at hj
 |cons x l ih=>
  cases j with
  |zero=>simp at hj;subst hj;exact h.1
  |succ j=>have:=ih h.2 (j:=j) (by simpa using hj);rwa [oa,Nat.add_comm 1 j] at this
theorem jy.get(h:jy S Vs)(i:Nat){u:ai}{ds:List ai}{w w':ak}(hS:S w)(hb:Bw w w')(hv:gJ Vs i u ds w):gJ Vs i u ds w':=by
 induction Vs generalizing i with
 |nil=>trivial
 |cons V l ih=>
  cases i with
  |zero=>exact h.1 u ds w w' hS hv hb
  |succ i=>exact ih h.2 i hv
theorem gi.congr{ev Gh:bI->ai}{l:List (j5 × ai)}(h:gi ev l)(he:∀p∈l,Gh (.tmp p.1)=ev (.tmp p.1)):gi Gh l:=by
 induction l with
 |nil=>trivial
 |cons p l ih=>exact⟨(he p (by simp)).trans h.1,ih h.2 fun q hq=>he q (by simp[hq])⟩
theorem Hc.of{ev:bI->ai}{w:ak}{l:List Edge}(h:∀e∈l,fR .any e=true->gJ Vs e.on (jw (eC aM e.on) ev) (gK aM ev (gp aM e.on)) w):Hc aM Vs ev w l:=by
 induction l with
 |nil=>trivial
 |cons e l ih=>exact⟨h e (by simp),ih fun e' he=>h e' (by simp[he])⟩
theorem Ae(a:jY)(d:Option j5)(v:ai):(a.put d v).tmps.size=a.tmps.size:=by cases d<;>simp[Act.put]
theorem put_defers(a:jY)(d:Option j5)(v:ai):(a.put d v).defers=a.defers:=by cases d<;>rfl
theorem uT(a:jY)(d:Option j5)(v:ai)(t:j5)(h:d≠some t):(a.put d v).eval (.tmp t)=a.eval (.tmp t):=by
 cases d with
 |none=>rfl
 |some d=>
  have:d≠t:=fun e=>h (by rw[e]);simp[Act.put,Act.eval,aZ,bD,this]
theorem put_eq(a:jY)(d:j5)(v:ai)(h:d<a.tmps.size):(a.put (some d) v).eval (.tmp d)=v:=by
 simp[Act.put,Act.eval,aZ,bD,h]
structure jq(aM:Array cY)(Vs:List Pred)(S:ak->Prop)(a0:jY)(L:Array Bool)(a:jY)(w:ak):Prop where
 vF:L.size=aM.size
 size:a.tmps.size=a0.tmps.size
 defers:a.defers=a0.defers
 s:S w
 keep:∀t,(∀o∈aM.toList,o.dst≠some t)->a.eval (.tmp t)=a0.eval (.tmp t)
 closed:∀i e,L.getD i false=true->e∈gp aM i->fR .any e=true->L.getD e.on false=true
 vals:∀i,L.getD i false=true->gJ Vs i (jw (eC aM i) a.eval) (gK aM a.eval (gp aM i)) w
theorem N_{i:Nat}{e:Edge}(dp:ji aM n base=true)(he:e∈gp aM i)(hb:fR .any e=true):e.on<aM.size:=by
 unfold gp at he
 by_cases hi:i<aM.size
 .have xW:aM[i]?=some aM[i]:=aN hi;rw[xW] at he;unfold ji at dp;rw[aI,a7] at dp;have h2:=dp.1 i (bO.2 hi);rw[xW] at h2;simp only[aI] at h2;have h3:=a7.1 h2.1.1 e he;simp only[hb,Bool.not_true,Bool.false_or,decide_eq_true_eq] at h3;omega
 simp[fS (Nat.le_of_not_lt hi)] at he
theorem qI{ev Gh:bI->ai}{l:List Edge}(h:∀e∈l,fR .any e=true->jw (eC aM e.on) Gh=jw (eC aM e.on) ev):gK aM Gh l=gK aM ev l:=by
 unfold gK;apply Hn;intro e he;rw[kK] at he;exact h e he.1 he.2
theorem ready_nil{L:Array Bool}(dp:ji aM n base=true)(hL:L.size=aM.size)(h:ju .any aM L=[]):∀i,i<aM.size->L.getD i false=true:=by
 intro i
 induction i using Nat.strongRecOn with
 |ind i ih=>
  intro hi;refine Classical.byContradiction fun hc=>?_
  have hm:i∈ju .any aM L:=by
   unfold ju;rw[kK];have xW:aM[i]?=some aM[i]:=aN hi;refine⟨bO.2 hi,?_⟩;have nG:i<L.size:=by omega
   have h1:L.getD i true=false:=by
    simp[eM,nG] at hc ⊢;exact hc
   rw[h1,xW];simp only[Bool.not_false,Bool.true_and,dK,Option.getD_some];rw[Array.all_eq_true];intro k hk;unfold ji at dp;rw[aI,a7] at dp;have h2:=dp.1 i (bO.2 hi);rw[xW] at h2;simp only[aI] at h2;have h3:=a7.1 h2.1.1 (aM[i].after[k]) (by simp);simp only[Bool.or_eq_true,Bool.not_eq_true',decide_eq_true_eq] at h3 ⊢;rcases h3 with h3|h3
   .exact .inl h3
   exact .inr (ih _ h3 (by omega))
  rw[h] at hm;cases hm
def anyOf(oV:Nat->(jY->ak->Prop)->jY->ak->Prop)(aM:Array cY)(Q:Exit->jY->ak->Prop):Nat->Array Bool->jY->ak->Prop
 |0,L,a,w=>ju .any aM L=[]/\Q .normal a w
 |fuel+1,L,a,w=>(ju .any aM L=[]->Q .normal a w)/\∀i∈ju .any aM L,oV i (anyOf oV aM Q fuel (L.setIfInBounds i true)) a w
theorem ES:∀fuel L,wpAny P .any aM Q fuel L=anyOf (wpOp P aM Q) aM Q fuel L
 |0,L=>rfl
 |fuel+1,L=>by
  funext a w
  simp only[wpAny,anyOf];simp only[ES fuel]
theorem yY{a0:jY}{w:ak}(hS:S w):jq aM Vs S a0 (bz aM.size false) a0 w:=⟨by simp,rfl,rfl,hS,fun _ _=>rfl,fun i e hi _ _=>by
  simp[aZ,rS] at hi;split at hi<;>simp at hi,fun i hi=>by
  simp[aZ,rS] at hi
  split at hi<;>simp at hi⟩
theorem xe:(bz aM.size false).toList.countP (!·)<=aM.size:=by simpa using yQ (p:=(!·)) (l:=List.replicate aM.size false)
end
namespace Gd
open Go Go.RowKit
def RJ(Y:mY)(aM:Array cY)(Vs:List Pred)(S:ak->Prop)(base:List (j5 × ai))(i:Nat)(o:cY):Prop:=
 ∀(ev:bI->ai) (w:ak),S w->(∀v,ev (.const v)=v)->(∀g,ev (.global g)=.pointer (some ⟨g,0,none⟩))->(∀f,ev (.func f)=.func (.func f) #[] #[])->gi ev base->Hc aM Vs ev w o.after.toList->
  match o.guard with
  |none=>Y o ev w (Post aM ev Vs S i o w)
  |some (j,b)=>(jw (eC aM j) ev=.bool b->Y o ev w (Post aM ev Vs S i o w))/\(jw (eC aM j) ev≠.bool b->Post aM ev Vs S i o w au w)
def Each(Y:mY)(aM:Array cY)(Vs:List Pred)(S:ak->Prop)(base:List (j5 × ai)):Nat->List cY->Prop
 |_,[]=>True
 |i,o::l=>RJ Y aM Vs S base i o/\Each Y aM Vs S base (i+1) l
section
variable{P:aK}{aM:Array cY}{Q:Exit->jY->ak->Prop}{Vs:List Pred}{S:ak->Prop}{base:List (j5 × ai)}{n:Nat}
theorem Each.get{Y:mY}{i:Nat}{l:List cY}(h:Each Y aM Vs S base i l){j:Nat}{o:cY}(hj:l[j]?=some o):RJ Y aM Vs S base (i+j) o:=by
 induction l generalizing i j with
 |nil=>simp at hj
 |cons x l ih=>
  cases j with
  |zero=>simp at hj;subst hj;exact h.1
  |succ j=>have:=ih h.2 (j:=j) (by simpa using hj);rwa [oa,Nat.add_comm 1 j] at this
theorem Bl{Y:mY}{oV:Nat->(jY->ak->Prop)->jY->ak->Prop}
  (hs1:∀i o K a w R,aM[i]?=some o->dg o (ku aM a.tmps)=true->Y o a.eval w R->(∀v w',R v w'->K (a.put o.dst v) w')->oV i K a w)
  (hs2:∀i o K a w,aM[i]?=some o->¬dg o (ku aM a.tmps)=true->K (a.put o.dst au) w->oV i K a w)
  (dp:ji aM n base=true) (Cg:jy S Vs) (Jn:∀w w',S w->Bw w w'->S w') (a0:jY) (hn:a0.tmps.size=n) (hbase:gi a0.eval base) (lo:Nat) (hE:∀j o,lo<=j->aM[j]?=some o->RJ Y aM Vs S base j o)
  (hQ:∀a w,jq aM Vs S a0 (bz aM.size true) a w->Q .normal a w) :
  ∀fuel (L:Array Bool) (a:jY) (w:ak),L.toList.countP (!·)<=fuel->(∀k,k<lo->L.getD k false=true)->jq aM Vs S a0 L a w->anyOf oV aM Q fuel L a w:=by
 have fin:∀(L:Array Bool) (a:jY) (w:ak),ju .any aM L=[]->jq aM Vs S a0 L a w->Q .normal a w:=fun L a w hr h=>
  hQ a w ⟨by simp,h.size,h.defers,h.s,h.keep,fun i e hi he hb=>by
   have hlt:e.on<aM.size:=N_ dp he hb;simp[eM,hlt],fun i hi=>by
   by_cases hlt:i<aM.size
   .exact h.vals i (ready_nil dp h.vF hr i hlt)
   simp[eM,hlt] at hi⟩
 intro fuel
 induction fuel with
 |zero=>
  intro L a w hc hlo h
  have hr:ju .any aM L=[]:=by
   apply List.eq_nil_iff_forall_not_mem.2;intro i hi;unfold ju at hi;rw[kK,bO] at hi;obtain⟨hi,h2⟩:=hi;have nG:i<L.size:=by have:=h.vF;omega
   simp[eM,nG] at h2;have h0:=List.countP_eq_zero.1 (Nat.le_zero.1 hc) L[i] (by simp);simp[h2.1] at h0
  exact⟨hr,fin L a w hr h⟩
 |succ fuel ih=>
  intro L a w hc hlo h;refine⟨fun hr=>fin L a w hr h,fun i hi=>?_⟩;have hi':=hi;unfold ju at hi';rw[kK,bO] at hi';obtain⟨hlt,h2⟩:=hi';have nG:i<L.size:=by have:=h.vF;omega
  have xW:aM[i]?=some aM[i]:=aN hlt;generalize aM[i]=o at xW;rw[xW] at h2;simp only[aI,Bool.not_eq_true',dK,Option.getD_some,Array.all_eq_true] at h2;obtain⟨Wc,V4⟩:=h2
  have Zb:o∈aM.toList:=by
   have:=fB xW;simpa using this
  have tD:=dp;unfold ji at tD;rw[aI,a7,a7] at tD;have Ec:=tD.1 i (bO.2 hlt);rw[xW] at Ec;simp only[aI] at Ec;obtain⟨⟨acu,vU⟩,ab5⟩:=Ec
  have Wh:Hc aM Vs a.eval w o.after.toList:=Hc.of fun e he hb=>by
   obtain⟨k,hk,rfl⟩:=jJ he;have:=V4 k (by simpa using hk);simp only[r7] at hb ⊢;rw[hb] at this;simp only[Bool.not_true,Bool.false_or] at this;exact h.vals _ this
  have hBs:gi a.eval base:=hbase.congr fun p hp=>h.keep _ fun o' ho' hd=>by
   obtain⟨k,hk,rfl⟩:=jJ ho';have rU:k<aM.size:=by simpa using hk
   have h3:=tD.1 k (bO.2 rU);rw[aN rU] at h3;simp only[r7] at hd;simp only[aI,hd] at h3;have:=a7.1 h3.1.2.1.2 p hp;simp at this
  have hil:lo<=i:=by
   refine Nat.le_of_not_lt fun hc2=>?_;have:=hlo i hc2;simp[eM,nG] at Wc this;rw[Wc] at this;cases this
  have hO:=hE i o hil xW a.eval w h.s (fun _=>rfl) (fun _=>rfl) (fun _=>rfl) hBs Wh;have hao:gp aM i=o.after.toList:=by unfold gp;rw[xW]
  have M5:∀e∈o.after.toList,fR .any e=true->L.getD e.on false=true:=fun e he hb=>by
   obtain⟨k,hk,rfl⟩:=jJ he;have:=V4 k (by simpa using hk);simp only[r7] at hb ⊢;rw[hb] at this;simpa using this
  have hne:∀k,L.getD k false=true->k≠i/\k<aM.size:=fun k hk=>by
   refine⟨fun e=>?_,?_⟩
   .subst e;simp[eM,nG] at Wc hk;rw[Wc] at hk;cases hk
   rcases CQ k aM.size with h5|h5
   .exact h5
   have:¬k<L.size:=by have:=h.vF;omega
   simp[eM,this] at hk
  have next:∀v w',Post aM a.eval Vs S i o w v w'->anyOf oV aM Q fuel (L.setIfInBounds i true) (a.put o.dst v) w':=fun v w' hp=>by
   have hval:∀k,L.getD k false=true->jw (eC aM k) (a.put o.dst v).eval=jw (eC aM k) a.eval:=fun k rU=>by
    obtain⟨Bu,yB⟩:=hne k rU;cases Ol:eC aM k with
    |none=>rfl
    |some d=>
     refine uT _ _ _ _ fun hod=>?_;rcases Nat.lt_trichotomy k i with h5|h5|h5
     .rw[hod] at vU;simp only[aI,decide_eq_true_eq] at vU;have:=a7.1 vU.2 k (bO.2 h5);simp[Ol] at this
     .exact Bu h5
     have h6:=tD.1 k (bO.2 yB);rw[aN yB] at h6
     have h7:(aM[k]).dst=some d:=by
      unfold eC at Ol;rw[aN yB] at Ol;simpa using Ol
     simp only[aI,h7] at h6;have:=a7.1 h6.1.2.2 i (bO.2 h5);unfold eC at this;rw[xW] at this;simp[hod] at this
   have vS:∀k,L.getD k false=true->(L.setIfInBounds i true).getD k false=true:=fun k hk=>by
    have:=(hne k hk).1;simpa [aZ,bD,CP this] using hk
   have hback:∀k,k≠i->(L.setIfInBounds i true).getD k false=true->L.getD k false=true:=fun k Bu hk=>by
    simpa [aZ,bD,CP Bu] using hk
   refine ih _ _ _ ?_ (fun k hk=>vS k (hlo k hk)) ⟨by simp[h.vF],by rw[Ae,h.size],by rw[put_defers,h.defers],?_,fun t ht=>?_,fun k e hk he hb=>?_,fun k hk=>?_⟩
   .have hLv:L[i]=false:=by simpa [eM,nG] using Wc
    have h4:(L.setIfInBounds i true).toList.countP (!·)=L.toList.countP (!·)-1:=by
     rw[Array.toList_setIfInBounds,List.countP_set (by simpa using nG)];simp[hLv]
    omega
   .exact hp.2.elim (fun hb=>Jn _ _ h.s hb) fun hs=>hs.1
   .rw[uT _ _ _ _ (ht o Zb)];exact h.keep t ht
   .by_cases Bu:k=i
    .subst Bu;rw[hao] at he;exact vS _ (M5 e he hb)
    exact vS _ (h.closed k e (hback k Bu hk) he hb)
   by_cases Bu:k=i
   .subst Bu
    have hdd:gK aM (a.put o.dst v).eval (gp aM k)=gK aM a.eval o.after.toList:=by
     rw[hao];exact qI fun e he hb=>hval _ (M5 e he hb)
    rw[hdd];have:=hp.1;unfold eC jw;rw[xW];simp only[gZ];cases hd:o.dst with
    |none=>rw[hd] at this;exact this
    |some d=>
     rw[hd] at this vU;simp only[aI,decide_eq_true_eq] at vU;have h9:=put_eq a d v (by rw[h.size,hn];exact vU.1.1);simp only[] at this ⊢;rw[h9];exact this
   have rU:=hback k Bu hk;have hvk:=h.vals k rU;have hdd:gK aM (a.put o.dst v).eval (gp aM k)=gK aM a.eval (gp aM k):=qI fun e he hb=>hval _ (h.closed k e rU he hb);rw[hval k rU,hdd];exact hp.2.elim (fun hb=>Cg.get k h.s hb hvk) fun hs=>hs.2 k _ _ Bu hvk
  cases hg:o.guard with
  |none=>
   rw[hg] at hO;exact hs1 i o _ a w _ xW (by simp[dg,hg]) hO next
  |some jb=>
   obtain⟨j,b⟩:=jb;rw[hg] at hO;obtain⟨hO1,X4⟩:=hO
   by_cases hr:jw (eC aM j) a.eval=.bool b
   .have hy:ku aM a.tmps j=some b:=by
     unfold ku;unfold jw at hr;unfold eC at hr;cases hd:(aM[j]?).bind (·.dst) with
     |none=>rw[hd] at hr;simp[au] at hr
     |some d=>
      rw[hd] at hr;simp only[gZ]
      have h8:a.tmps[d]?=some (.bool b):=by
       unfold Act.eval at hr;simp only[] at hr
       by_cases Ed:d<a.tmps.size
       .simp[eM,Ed] at hr;rw[aN Ed,hr]
       simp[eM,Ed,au] at hr
      rw[h8]
    exact hs1 i o _ a w _ xW (by simp[dg,hg,hy]) (hO1 hr) next
   have hy:ku aM a.tmps j≠some b:=by
    intro hy;refine hr ?_;unfold ku at hy;unfold jw eC;cases hd:(aM[j]?).bind (·.dst) with
    |none=>rw[hd] at hy;simp at hy
    |some d=>
     rw[hd] at hy;simp only[gZ] at hy;simp only[];unfold Act.eval;simp only[];cases h8:a.tmps[d]? with
     |none=>rw[h8] at hy;simp at hy
     |some v=>
      rw[h8] at hy
      have hv:v=.bool b:=by
       revert hy;cases v<;>simp
      simp[aZ,h8,hv]
   exact hs2 i o _ a w xW (by simpa [dg,hg] using hy) (next _ _ (X4 hr))
theorem cy{id:Nat}{a0:jY}{w:ak}(hm:P.follows .mixedOrders=true)(Vs:List Pred)(S:ak->Prop)(base:List (j5 × ai))(dp:ji aM a0.tmps.size base=true)(Cg:jy S Vs)(Jn:∀w w',S w->Bw w w'->S w')
  (hS:S w.drew) (hbase:gi a0.eval base) (hE:Each (Yields P) aM Vs S base 0 aM.toList) (hQ:∀a w,jq aM Vs S a0 (bz aM.size true) a w->Q .normal a w):(CV id aM true).wp P Q a0 w:=
 wp_region_any hm (by
  rw[ES]
  exact Bl (Y:=Yields P) (fun i o K a w R ho hw hy hk=>wpOp_step ho fun K' hK=>by rw[if_pos hw];exact hy.wp fun v w' hv=>hK _ _ (hk v w' hv))
   (fun i o K a w ho hw hk=>wpOp_step ho fun K' hK=>by rw[if_neg hw];exact hK _ _ hk) dp Cg Jn a0 rfl hbase 0 (fun j o _ h=>by have:=hE.get (j:=j) (o:=o) (by simpa using h);rwa [dz] at this) hQ aM.size _ a0 _ xe (fun k hk=>by omega) (yY hS))
end
end Gd
section
variable{P:aK}{aM:Array cY}{Q:Exit->jY->ak->Prop}{Vs:List Pred}{S:ak->Prop}{base:List (j5 × ai)}{n:Nat}
theorem RJ.gd{Y:mY}{i:Nat}{o:cY}(h:RJ Y aM Vs S base i o):Gd.RJ Y aM Vs S base i o:=by
 intro ev w hS hc hg hf hb hd;have h1:=h ev w hS hc hg hf hb hd;cases hgd:o.guard with
 |none=>rw[hgd] at h1;exact h1
 |some jb=>
  obtain⟨j,b⟩:=jb;rw[hgd] at h1;obtain⟨⟨r,hr⟩,h2⟩:=h1;exact⟨fun e=>by have:=h2 b e;rwa [if_pos rfl] at this,fun e=>by have:=h2 r hr;rwa [if_neg (fun h=>e (hr.trans (congrArg _ h)))] at this⟩
theorem Each.gd{Y:mY}:∀ {i:Nat} {l:List cY},Each Y aM Vs S base i l->Gd.Each Y aM Vs S base i l
 |_,[],_=>trivial
 |_,_::_,h=>⟨h.1.gd,Each.gd h.2⟩
theorem cy{id:Nat}{a0:jY}{w:ak}(hm:P.follows .mixedOrders=true)(Vs:List Pred)(S:ak->Prop)(base:List (j5 × ai))(dp:ji aM a0.tmps.size base=true)(Cg:jy S Vs)(Jn:∀w w',S w->Bw w w'->S w')
  (hS:S w.drew) (hbase:gi a0.eval base) (hE:Each (Yields P) aM Vs S base 0 aM.toList) (hQ:∀a w,jq aM Vs S a0 (bz aM.size true) a w->Q .normal a w):(CV id aM true).wp P Q a0 w:=
 Gd.cy hm Vs S base dp Cg Jn hS hbase hE.gd hQ
def keeps(aM:Array cY)(t:j5):Bool:=aM.toList.all fun o=>decide (o.dst≠some t)
theorem jq.kept{a0 a:jY}{L:Array Bool}{w:ak}(h:jq aM Vs S a0 L a w){t:j5}(hk:keeps aM t=true):a.tmps.getD t au=a0.tmps.getD t undef:=
 h.keep t fun o ho=>by
  have:=a7.1 hk o ho;simpa using this
theorem jq.kp{a0 a:jY}{L:Array Bool}{w:ak}(h:jq aM Vs S a0 L a w)(t:j5)(hk:keeps aM t=true:=by kernel_rfl):a.tmps.getD t au=a0.tmps.getD t undef:=h.kept hk
theorem jq.val{a0 a:jY}{w:ak}(h:jq aM Vs S a0 (bz aM.size true) a w)(i:Nat)(hi:i<aM.size:=by decide):gJ Vs i (jw (eC aM i) a.eval) (gK aM a.eval (gp aM i)) w:=h.vals i (by simp[eM,hi])
theorem jq.act{a0 a:jY}{L:Array Bool}{w:ak}(h:jq aM Vs S a0 L a w):a=⟨((aP a0.tmps.size).map fun t=>a.tmps.getD t au).toArray,a0.defers⟩:=by
 have h1:=h.size;have h2:=h.defers;obtain⟨tm,df⟩:=a;simp only[] at h1 h2;subst h2;rw[<-h1]
 congr 1
 apply Array.ext
 .simp
 intro i h1 h2;simp[eM,h1]
theorem jq.lits{a0 a:jY}{L:Array Bool}{w:ak}(h:jq aM Vs S a0 L a w)(n:Nat)(hn:a0.tmps.size=n):a=⟨((aP n).map fun t=>a.tmps.getD t au).toArray,a0.defers⟩:=hn▸h.act
end
def lr(l:List ai)(i:Nat)(d:ai):l.toArray.getD i d=l.getD i d:=by simp[aZ,List.getD]
def sj{P:aK}{o:cY}{ev:bI->ai}{w:ak}{c a b:bI}{t:Bool}(ho:o.op=.pick c a b)(hc:ev c=.bool t):(cC ev o).run P w=.ok (.value (if t then ev a else ev b)) w:=by
 unfold cC;simp only[ho,hc,asBool,wu,CO,lT]
def Yields.aer{P:aK}{o:cY}{ev:bI->ai}{w:ak}{R:ai->ak->Prop}{c b:bI}{A B:Bool}(ho:o.op=.pick c (.const (.bool true)) b)(hc:∀v,ev (.const v)=v)(hA:ev c=.bool A)(hB:A=false->ev b=.bool B)(h:R (.bool (A||B)) w):Yields P o ev w R:=by
 refine .value (sj ho hA) ?_;cases A
 .rw[hB rfl];exact h
 rw[hc];exact h
def Yields.aes{P:aK}{o:cY}{ev:bI->ai}{w:ak}{R:ai->ak->Prop}{c b:bI}{A B:Bool}(ho:o.op=.pick c b (.const (.bool false)))(hc:∀v,ev (.const v)=v)(hA:ev c=.bool A)(hB:A=true->ev b=.bool B)(h:R (.bool (A&&B)) w):Yields P o ev w R:=by
 refine .value (sj ho hA) ?_;cases A
 .rw[hc];exact h
 rw[hB rfl];exact h
abbrev pV(x:ai):Pred:=fun v _ _=>v=x
abbrev pC(c:Bool)(x:ai):Pred:=fun v _ _=>c=true->v=x
def sV{S:ak->Prop}{x:ai}:∀(u:ai) (ds:List ai) (w w':ak),S w->pV x u ds w->Bw w w'->pV x u ds w':=fun _ _ _ _ _ h _=>h
def sC{S:ak->Prop}{c:Bool}{x:ai}:∀(u:ai) (ds:List ai) (w w':ak),S w->pC c x u ds w->Bw w w'->pC c x u ds w':=fun _ _ _ _ _ h _=>h
section
variable{P:aK}{aM:Array cY}{Vs:List Pred}{S:ak->Prop}{o:cY}{ev:bI->ai}{w:ak}{i:Nat}
theorem yv{v:ai}(he:(cC ev o).run P w=.ok (.value v) w)(hp:gJ Vs i (match o.dst with|some _=>v|none=>au) (gK aM ev o.after.toList) w):Yields P o ev w (Post aM ev Vs S i o w):=.value he ⟨hp,.inl (ay _ _)⟩
theorem kS{S:ak->Prop}{Q:ai->List ai->Prop}:∀(u:ai) (ds:List ai) (w w':ak),S w->Q u ds->gu w.heap.size w w'->Q u ds:=fun _ _ _ _ _ h _=>h
theorem tV{p:Prop}(h:p:=by refine yv ?_ rfl;go_simp):p:=h
theorem yO{c b:bI}{A B:Bool}(ho:o.op=.pick c (.const (.bool true)) b)(hc:∀v,ev (.const v)=v)(hA:ev c=.bool A)(hB:A=false->ev b=.bool B)(hp:gJ Vs i (match o.dst with | some _=>.bool (A||B) | none=>au) (gK aM ev o.after.toList) w):Yields P o ev w (Post aM ev Vs S i o w):=.aer ho hc hA hB ⟨hp,.inl (ay _ _)⟩
theorem yA{c b:bI}{A B:Bool}(ho:o.op=.pick c b (.const (.bool false)))(hc:∀v,ev (.const v)=v)(hA:ev c=.bool A)(hB:A=true->ev b=.bool B)(hp:gJ Vs i (match o.dst with|some _=>.bool (A&&B)|none=>au) (gK aM ev o.after.toList) w):Yields P o ev w (Post aM ev Vs S i o w):=.aes ho hc hA hB ⟨hp,.inl (ay _ _)⟩
theorem yc{f:en}{args:Array ai}{X:ai}(h:bm P f args w fun e w'=>e=.returned X/\Bw w w')(he:(cC ev o).run P w=.ok (.enter f args) w)(hp:∀w',gJ Vs i (match o.dst with|some _=>X|none=>au) (gK aM ev o.after.toList) w'):Yields P o ev w (Post aM ev Vs S i o w):=
 .call he h (by rintro e w2 ⟨rfl,hb⟩;exact⟨_,rfl,hp _,.inl hb⟩)
theorem yq{f:en}{args:Array ai}{X:ai}(h:bm P f args w fun e w'=>e=.returned X/\w=w')(he:(cC ev o).run P w=.ok (.enter f args) w)(hp:∀w',gJ Vs i (match o.dst with|some _=>X|none=>au) (gK aM ev o.after.toList) w'):Yields P o ev w (Post aM ev Vs S i o w):=
 .call he h (by rintro e w2 ⟨rfl,rfl⟩;exact⟨_,rfl,hp _,.inl (ay _ _)⟩)
end
section
variable{A b x:Bool}{val V0 u X:ai}{Y R Z:Prop}{w:ak}
theorem gC(d:val=V0)(l:V0=.bool b↔A=true)(h:A=true->Y):(val=.bool b->Y)/\(val≠.bool b->(A=true->u=X)/\(Bw w w\/Z)):=
 ⟨fun e=>h (l.1 (d.symm.trans e)),fun e=>⟨fun hc=>absurd (d.trans (l.2 hc)) e,.inl (ay _ _)⟩⟩
theorem gN(d:val=.bool x)(hne:(x==b)=false):(val=.bool b->Y)/\(val≠.bool b->True/\(Bw w w\/Z)):=
 ⟨fun e=>absurd (d.symm.trans e) (by intro h;cases h;simp at hne),fun _=>⟨trivial,.inl (ay _ _)⟩⟩
theorem gL(d:val=.bool b)(h:Y):(val=.bool b->Y)/\(val≠.bool b->R):=⟨fun _=>h,fun e=>absurd d e⟩
end
def Yields.iB{P:aK}{o:cY}{ev:bI->ai}{w:ak}{R:ai->ak->Prop}(ty:aV)(x y:bI)(ho:o.op=.store ty x y)(g:Nat)(cells:Array ai)(hx:ev x=.pointer (some ⟨g,0,none⟩))(hy:ev y=.agg cells)
  (t:aV) (old:Array ai) (hg:w.heap[g]?=some (.cells old t (0,0))) (hi:(P.info? ty).map (·.size)=some cells.size) (hold:old.size=cells.size) (h1:cells.all (·.oneCell')=true) (h:R au (w.setRow g cells)):Yields P o ev w R:=by
 refine Yields.skip (w':=w.setRow g cells) ?_ h;unfold cC;simp only[ho,hx,hy,Instr.storeAt,Instr.sureAddr,wu,CO,lT,run_storeVar_row w g t ty old cells hg hi hold h1]
def Yields.pD{P:aK}{o:cY}{ev:bI->ai}{w:ak}{R:ai->ak->Prop}(ty:aV)(x:bI)(ho:o.op=.load ty x)(g:Nat)(hx:ev x=.pointer (some ⟨g,0,none⟩))(t:aV)(cs:Array ai)(fr:Nat × Nat)(d:TypeDesc)(hg:w.heap[g]?=some (.cells cs t fr))
  (hu:P.underlying ty=some d) (hd:(match d with|.struct _|.array _ _=>true|_=>false)=true) (hi:(P.info? ty).map (·.size)=some cs.size) (h:R (.agg cs) w):Yields P o ev w R:=by
 refine Yields.value (v:=.agg cs) (w':=w) ?_ h;unfold cC;simp only[ho,hx,Instr.loadAt,Instr.sureAddr,wu,CO,lT,run_loadVar_row w g t ty cs fr d hg hu hd hi]
def BU{P:aK}{aM:Array cY}{Vs:List Pred}{S:ak->Prop}{o:cY}{ev:bI->ai}{w:ak}{i:Nat}(ty:aV){x:bI}(ho:o.op=.load ty x){g:Nat}(hx:ev x=.pointer (some ⟨g,0,none⟩)){t:aV}{cs:Array ai}{fr:Nat × Nat}{d:TypeDesc}(hg:w.heap[g]?=some (.cells cs t fr))
  (hu:P.underlying ty=some d) (hd:(match d with|.struct _|.array _ _=>true|_=>false)=true) (hi:(P.info? ty).map (·.size)=some cs.size) (hp:gJ Vs i (match o.dst with|some _=>.agg cs|none=>au) (gK aM ev o.after.toList) w):Yields P o ev w (Post aM ev Vs S i o w):=
 Yields.pD ty x ho g hx t cs fr d hg hu hd hi ⟨hp,.inl (ay _ _)⟩
namespace Gd
section
variable{P:aK}{aM:Array cY}{Q:Exit->jY->ak->Prop}{Vs:List Pred}{S:ak->Prop}{base:List (j5 × ai)}{n:Nat}
theorem qW{i:Nat}{o:cY}{e:Edge}(dp:ji aM n base=true)(ho:aM[i]?=some o)(he:e∈o.after.toList)(hb:fR .any e=true):e.on<i:=by
 have hi:i<aM.size:=(ag.1 ho).1;unfold ji at dp;rw[aI,a7] at dp;have h2:=dp.1 i (bO.2 hi);rw[ho] at h2;simp only[aI] at h2;have h3:=a7.1 h2.1.1 e he;simpa [hb] using h3
theorem Sx{L:Array Bool}{i:Nat}(dp:ji aM n base=true)(hlt:i<aM.size)(hL:L.size=aM.size)(hk:∀k,L.getD k false=decide (k<i)):i∈ju .any aM L:=by
 unfold ju;rw[kK];have xW:aM[i]?=some aM[i]:=aN hlt;refine⟨bO.2 hlt,?_⟩;have nG:i<L.size:=by omega
 have h1:L.getD i true=false:=by
  have:=hk i;simp[eM,nG] at this ⊢;exact this
 rw[h1,xW];simp only[Bool.not_false,Bool.true_and,dK,Option.getD_some];rw[Array.all_eq_true];intro k hk2;cases hb:fR .any aM[i].after[k] with
 |false=>rfl
 |true=>
  have:=qW dp xW (e:=aM[i].after[k]) (by simp) hb;rw[hk];simp[this]
theorem YP{L:Array Bool}{i:Nat}(nG:i<L.size)(hk:∀k,L.getD k false=decide (k<i))(k:Nat):(L.setIfInBounds i true).getD k false=decide (k<i+1):=by
 by_cases Bu:k=i
 .subst Bu;simp[aZ,bD,nG]
 have:=hk k;rw[aZ,bD,if_neg (CP Bu),<-aZ,this];simp;omega
theorem zR(dp:ji aM n base=true):∀(m i:Nat) (L:Array Bool) (a:jY) (w:ak),i+m=aM.size->L.size=aM.size->(∀k,L.getD k false=decide (k<i))->anyOf (wpOp P aM Q) aM Q m L a w->wpOps P aM Q (bN i m) a w
 |0,i,L,a,w,hi,hL,hk,h=>h.2
 |m+1,i,L,a,w,hi,hL,hk,h=>by
  show wpOps P aM Q (i::bN (i+1) m) a w;rw[wpOps_cons];exact wpOp_mono (fun a w h=>zR dp m (i+1) _ a w (by omega) (by simpa using hL) (YP (by omega) hk) h) (h.2 i (Sx dp (by omega) hL hk))
def Pm(n i:Nat):Array Bool:=((aP n).map fun k=>decide (k<i)).toArray
theorem Av(n i k:Nat)(hi:i<=n):(Pm n i).getD k false=decide (k<i):=by
 unfold Pm;rw[aZ]
 by_cases hk:k<n
 .simp[hk]
 have:¬k<i:=by omega
 simp[hk,this]
theorem JM{a0:jY}{w:ak}(i m:Nat)(him:i+m=aM.size)(Vs:List Pred)(S:ak->Prop)(base:List (j5 × ai))(dp:ji aM n base=true)(hn:a0.tmps.size=n)(Cg:jy S Vs)(Jn:∀w w',S w->Bw w w'->S w')
  (hS:S w) (hbase:gi a0.eval base) (PD:∀k,k<i->gJ Vs k (jw (eC aM k) a0.eval) (gK aM a0.eval (gp aM k)) w) (hE:Each (Yields P) aM Vs S base i (aM.toList.drop i)) (hQ:∀a w,jq aM Vs S a0 (bz aM.size true) a w->Q .normal a w):wpOps P aM Q (bN i m) a0 w:=by
 refine zR dp m i (Pm aM.size i) a0 w him (by simp[Pm]) (fun k=>Av _ _ _ (by omega)) ?_
 refine Bl (Y:=Yields P) (fun i o K a w R ho hw hy hk=>wpOp_step ho fun K' hK=>by rw[if_pos hw];exact hy.wp fun v w' hv=>hK _ _ (hk v w' hv))
  (fun i o K a w ho hw hk=>wpOp_step ho fun K' hK=>by rw[if_neg hw];exact hK _ _ hk) dp Cg Jn a0 hn hbase i (fun j o hj h=>by
   have:=hE.get (j:=j-i) (o:=o) (by rw[List.getElem?_drop,show i+(j-i)=j by omega];simpa using h)
   rwa [show i+(j-i)=j by omega] at this) hQ m _ a0 _ ?_ (fun k hk=>by rw[Av _ _ _ (by omega)];simpa using hk) ⟨by simp[Pm],rfl,rfl,hS,fun _ _=>rfl,fun k e hk he hb=>?_,fun k hk=>?_⟩
 .have e:(Pm aM.size i).toList=(aP i).map (fun _=>true)++(bN i m).map fun _=>false:=by
   unfold Pm;simp only
   have:aP aM.size=aP i++bN i m:=by
    rw[nv,nv,<-him,<-List.range'_append_1,dz]
   rw[this,d_]
   congr 1
   .apply Hn;intro k hk;simpa using hk
   apply Hn;intro k hk;have:=(List.mem_range'_1.1 hk).1;simp;omega
  rw[e,List.countP_append]
  have h1:((aP i).map fun _=>true).countP (!·)=0:=by
   rw[List.countP_eq_zero];intro x hx;simp at hx;simp[hx.2]
  have h2:=yQ (p:=(!·)) (l:=(bN i m).map fun _=>false);simp only[List.length_map,List.length_range'] at h2;omega
 .rw[Av _ _ _ (by omega)] at hk ⊢;have Bu:k<i:=by simpa using hk
  unfold gp at he;have hko:aM[k]?=some aM[k]:=aN (by omega);rw[hko] at he;have:=qW dp hko he hb;simp;omega
 rw[Av _ _ _ (by omega)] at hk;exact PD k (by simpa using hk)
theorem JN{id:Nat}{a0:jY}{w:ak}(Vs:List Pred)(S:ak->Prop)(base:List (j5 × ai))(dp:ji aM n base=true)(hn:a0.tmps.size=n)(Cg:jy S Vs)(Jn:∀w w',S w->Bw w w'->S w')
  (hS:S w) (hbase:gi a0.eval base) (hE:Each (Yields P) aM Vs S base 0 aM.toList) (hQ:∀a w,jq aM Vs S a0 (bz aM.size true) a w->Q .normal a w):(CV id aM false).wp P Q a0 w:=by
 refine wp_region ?_;rw[nv];exact JM 0 aM.size (by omega) Vs S base dp hn Cg Jn hS hbase (fun k hk=>by omega) hE hQ
end
end Gd
structure iw(n:Nat)(a:jY)(l:List (j5 × ai)):Prop where
 size:a.tmps.size=n
 defers:a.defers=[]
 base:gi a.eval l
def jq.fr{aM:Array cY}{Vs:List Pred}{S:ak->Prop}{a0 a:jY}{L:Array Bool}{w:ak}{n:Nat}{l:List (j5 × ai)}(h:jq aM Vs S a0 L a w)(h0:iw n a0 l)(hk:(l.all fun p=>keeps aM p.1)=true:=by kernel_rfl):iw n a l:=
 ⟨h.size.trans h0.size,h.defers.trans h0.defers,h0.base.congr fun p hp=>h.keep p.1 fun o ho=>by
  have h1:=a7.1 hk p hp;have:=a7.1 h1 o ho
  simpa using this⟩
def iw.g{n:Nat}{a:jY}{l:List (j5 × ai)}(h:iw n a l)(k:Nat){t:j5}{v:ai}(hk:l[k]?=some (t,v)):a.eval (.tmp t)=v:=by
 have h1:=h.base;clear h
 induction l generalizing k with
 |nil=>simp at hk
 |cons p l ih=>cases k with
  |zero=>cases hk;exact h1.1
  |succ k=>exact ih k (by simpa using hk) h1.2
def Yz:Op->Bool
 |.call c=>match c.callee with|.builtin _=>true|_=>false
 |.load ..=>false
 |_=>true
def yw{P:aK}{aM:Array cY}{Vs:List Pred}{S:ak->Prop}{o:cY}{ev:bI->ai}{w:ak}{i:Nat}{v:ai}(hq:Yz o.op=true)(he:(cC ev o).run P w=.ok (.value v) w)(hp:gJ Vs i (match o.dst with|some _=>v|none=>au) (gK aM ev o.after.toList) w):Yields P o ev w (Post aM ev Vs S i o w):=yv he hp
def lQ(t:j5):List (j5 × ai)->List (j5 × ai)
 |[]=>[]
 |p::l=>if p.1=t then l else p::lQ t l
def iw.del{n:Nat}{a:jY}{l:List (j5 × ai)}(h:iw n a l)(t:j5):iw n a (lQ t l):=⟨h.size,h.defers,by
 have h1:=h.base;clear h
 induction l with
 |nil=>trivial
 |cons p l ih=>
  unfold lQ;split
  .exact h1.2
  exact⟨h1.1,ih h1.2⟩⟩
def iw.tl{n:Nat}{a:jY}{p:j5 × ai}{l:List (j5 × ai)}(h:iw n a (p::l)):iw n a l:=⟨h.size,h.defers,h.base.2⟩
def iw.put{n:Nat}{a:jY}{l:List (j5 × ai)}(h:iw n a l)(d:j5)(v:ai)(hk:(l.all fun p=>!Nat.beq p.1 d)=true):iw n (a.put (some d) v) l:=
 ⟨(Ae _ _ _).trans h.size,(put_defers _ _ _).trans h.defers,h.base.congr fun p hp=>uT _ _ _ _ fun e=>by
  have h1:=a7.1 hk p hp;cases e
  simp at h1⟩
def iw.cons{n:Nat}{a:jY}{l:List (j5 × ai)}(h:iw n a l){t:j5}{v:ai}(hv:a.eval (.tmp t)=v):iw n a ((t,v)::l):=⟨h.size,h.defers,hv,h.base⟩
section
variable{P:aK}{aM:Array cY}{Q:Exit->jY->ak->Prop}{n:Nat}
end
namespace Ph
open Go Go.RowKit
abbrev Ls:=Nat->Bool
def upd(L:Ls)(i:Nat):Ls:=fun t=>if t=i then true else L t
def needs(aM:Array cY)(i t:Nat):Bool:=(gp aM t).any fun e=>fR .any e&&decide (e.on=i)
def zK(L:Ls)(ev:bI->ai):List (Nat × j5 × ai)->Prop
 |[]=>True
 |(i,t,v)::l=>(L i=false->ev (.tmp t)=v)/\zK L ev l
def G8(aM:Array cY)(ev:bI->ai):List (Nat × j5 × ai)->Prop
 |[]=>True
 |(i,t,v)::l=>(eC aM i=some t/\ev (.tmp t)=v)/\G8 aM ev l
def JK(L:Ls)(ev:bI->ai)(late:List (Nat × j5 × ai)):List (j5 × ai)->Prop
 |[]=>zK L ev late
 |(t,v)::l=>ev (.tmp t)=v/\JK L ev late l
def JK.of{L:Ls}{ev:bI->ai}{late:List (Nat × j5 × ai)}(h2:zK L ev late):∀ {base:List (j5 × ai)},gi ev base->JK L ev late base
 |[],_=>h2
 |(_,_)::_,h=>⟨h.1,JK.of h2 h.2⟩
def zK.of{aM:Array cY}{L:Ls}{ev Gh:bI->ai}(hk:∀i d,eC aM i=some d->L i=false->Gh (.tmp d)=ev (.tmp d)):∀ {late:List (Nat × j5 × ai)},G8 aM ev late->zK L Gh late
 |[],_=>trivial
 |(_,_,_)::_,h=>⟨fun e=>(hk _ _ h.1.1 e).trans h.1.2,zK.of hk h.2⟩
def Post(L:Ls)(aM:Array cY)(ev:bI->ai)(Vs:List Pred)(S:Ls->ak->Prop)(i:Nat)(o:cY)(w:ak)(v:ai)(w':ak):Prop:=
 gJ Vs i (match o.dst with|some _=>v|none=>au) (gK aM ev o.after.toList) w'/\(Bw w w'\/(S (upd L i) w'/\∀k u ds,k≠i->L k=true->gJ Vs k u ds w->gJ Vs k u ds w'))
def yv{P:aK}{L:Ls}{aM:Array cY}{Vs:List Pred}{S:Ls->ak->Prop}{o:cY}{ev:bI->ai}{w:ak}{i:Nat}{v:ai}(he:(cC ev o).run P w=.ok (.value v) w)(hp:gJ Vs i (match o.dst with|some _=>v|none=>au) (gK aM ev o.after.toList) w):Yields P o ev w (Post L aM ev Vs S i o w):=.value he ⟨hp,.inl (ay _ _)⟩
def tV{p:Prop}(h:p:=by refine yv ?_ rfl;go_simp):p:=h
def kS{S:Ls->ak->Prop}{Q:ai->List ai->Prop}:∀(u:ai) (ds:List ai) (L:Ls) (w w':ak),S L w->Q u ds->gu w.heap.size w w'->Q u ds:=fun _ _ _ _ _ _ h _=>h
def sV{S:Ls->ak->Prop}{x:ai}:∀(u:ai) (ds:List ai) (L:Ls) (w w':ak),S L w->pV x u ds w->Bw w w'->pV x u ds w':=fun _ _ _ _ _ _ h _=>h
def sC{S:Ls->ak->Prop}{c:Bool}{x:ai}:∀(u:ai) (ds:List ai) (L:Ls) (w w':ak),S L w->pC c x u ds w->Bw w w'->pC c x u ds w':=fun _ _ _ _ _ _ h _=>h
def RJ(Y:mY)(aM:Array cY)(Vs:List Pred)(S:Ls->ak->Prop)(base:List (j5 × ai))(late:List (Nat × j5 × ai))(i:Nat)(o:cY):Prop:=
 ∀(L:Ls) (ev:bI->ai) (w:ak),(∀t,needs aM i t=true->L t=false)->L i=false->S L w->(∀v,ev (.const v)=v)->(∀g,ev (.global g)=.pointer (some ⟨g,0,none⟩))->(∀f,ev (.func f)=.func (.func f) #[] #[])->JK L ev late base->Hc aM Vs ev w o.after.toList->
  match o.guard with
  |none=>Y o ev w (Post L aM ev Vs S i o w)
  |some (j,b)=>(∃r,jw (eC aM j) ev=.bool r)/\∀r,jw (eC aM j) ev=.bool r->if r=b then Y o ev w (Post L aM ev Vs S i o w) else Post L aM ev Vs S i o w au w
def Each(Y:mY)(aM:Array cY)(Vs:List Pred)(S:Ls->ak->Prop)(base:List (j5 × ai))(late:List (Nat × j5 × ai)):Nat->List cY->Prop
 |_,[]=>True
 |i,o::l=>RJ Y aM Vs S base late i o/\Each Y aM Vs S base late (i+1) l
def jy(S:Ls->ak->Prop):List Pred->Prop
 |[]=>True
 |V::l=>(∀u ds L w w',S L w->V u ds w->Bw w w'->V u ds w')/\jy S l
section
variable{P:aK}{aM:Array cY}{Q:Exit->jY->ak->Prop}{Vs:List Pred}{S:Ls->ak->Prop}{base:List (j5 × ai)}{late:List (Nat × j5 × ai)}{n:Nat}
theorem Each.get{Y:mY}{i:Nat}{l:List cY}(h:Each Y aM Vs S base late i l){j:Nat}{o:cY}(hj:l[j]?=some o):RJ Y aM Vs S base late (i+j) o:=by
 induction l generalizing i j with
 |nil=>simp at hj
 |cons x l ih=>
  cases j with
  |zero=>simp at hj;subst hj;exact h.1
  |succ j=>have:=ih h.2 (j:=j) (by simpa using hj);rwa [oa,Nat.add_comm 1 j] at this
theorem jy.get(h:jy S Vs)(i:Nat){L:Ls}{u:ai}{ds:List ai}{w w':ak}(hS:S L w)(hb:Bw w w')(hv:gJ Vs i u ds w):gJ Vs i u ds w':=by
 induction Vs generalizing i with
 |nil=>trivial
 |cons V l ih=>
  cases i with
  |zero=>exact h.1 u ds L w w' hS hv hb
  |succ i=>exact ih h.2 i hv
structure jq(aM:Array cY)(Vs:List Pred)(S:Ls->ak->Prop)(a0:jY)(L:Array Bool)(a:jY)(w:ak):Prop where
 vF:L.size=aM.size
 size:a.tmps.size=a0.tmps.size
 defers:a.defers=a0.defers
 s:S (fun t=>L.getD t false) w
 keep:∀t,(∀o∈aM.toList,o.dst≠some t)->a.eval (.tmp t)=a0.eval (.tmp t)
 late:∀i d,eC aM i=some d->L.getD i false=false->a.eval (.tmp d)=a0.eval (.tmp d)
 closed:∀i e,L.getD i false=true->e∈gp aM i->fR .any e=true->L.getD e.on false=true
 vals:∀i,L.getD i false=true->gJ Vs i (jw (eC aM i) a.eval) (gK aM a.eval (gp aM i)) w
theorem Bl{Y:mY}{oV:Nat->(jY->ak->Prop)->jY->ak->Prop}
  (hs1:∀i o K a w R,aM[i]?=some o->dg o (ku aM a.tmps)=true->Y o a.eval w R->(∀v w',R v w'->K (a.put o.dst v) w')->oV i K a w)
  (hs2:∀i o K a w,aM[i]?=some o->¬dg o (ku aM a.tmps)=true->K (a.put o.dst au) w->oV i K a w)
  (dp:ji aM n base=true) (Cg:jy S Vs) (Jn:∀(L L':Ls) w w',(∀t,L' t=false->L t=false)->S L w->Bw w w'->S L' w') (a0:jY) (hn:a0.tmps.size=n) (hbase:gi a0.eval base) (hlate:G8 aM a0.eval late) (hE:Each Y aM Vs S base late 0 aM.toList)
  (hQ:∀a w,jq aM Vs S a0 (bz aM.size true) a w->Q .normal a w) :
  ∀fuel (L:Array Bool) (a:jY) (w:ak),L.toList.countP (!·)<=fuel->jq aM Vs S a0 L a w->anyOf oV aM Q fuel L a w:=by
 have ajI:∀(L:Array Bool) (a:jY) (w:ak),ju .any aM L=[]->jq aM Vs S a0 L a w->S (fun t=>(bz aM.size true).getD t false) w:=fun L a w hr h=>
  Jn _ _ w w (fun t ht=>by
   by_cases hlt:t<aM.size
   .simp[eM,hlt] at ht
   have:¬t<L.size:=by have:=h.vF;omega
   simp[eM,this]) h.s (ay _ _)
 have fin:∀(L:Array Bool) (a:jY) (w:ak),ju .any aM L=[]->jq aM Vs S a0 L a w->Q .normal a w:=fun L a w hr h=>
  hQ a w ⟨by simp,h.size,h.defers,ajI L a w hr h,h.keep,fun i d hd hi=>by
   by_cases hlt:i<aM.size
   .simp[eM,hlt] at hi
   .unfold eC at hd;rw[fS (by omega)] at hd;simp at hd,fun i e hi he hb=>by
   have hlt:e.on<aM.size:=N_ dp he hb;simp[eM,hlt],fun i hi=>by
   by_cases hlt:i<aM.size
   .exact h.vals i (ready_nil dp h.vF hr i hlt)
   simp[eM,hlt] at hi⟩
 intro fuel
 induction fuel with
 |zero=>
  intro L a w hc h
  have hr:ju .any aM L=[]:=by
   apply List.eq_nil_iff_forall_not_mem.2;intro i hi;unfold ju at hi;rw[kK,bO] at hi;obtain⟨hi,h2⟩:=hi;have nG:i<L.size:=by have:=h.vF;omega
   simp[eM,nG] at h2;have h0:=List.countP_eq_zero.1 (Nat.le_zero.1 hc) L[i] (by simp);simp[h2.1] at h0
  exact⟨hr,fin L a w hr h⟩
 |succ fuel ih=>
  intro L a w hc h;refine⟨fun hr=>fin L a w hr h,fun i hi=>?_⟩;have hi':=hi;unfold ju at hi';rw[kK,bO] at hi';obtain⟨hlt,h2⟩:=hi';have nG:i<L.size:=by have:=h.vF;omega
  have xW:aM[i]?=some aM[i]:=aN hlt;generalize aM[i]=o at xW;rw[xW] at h2;simp only[aI,Bool.not_eq_true',dK,Option.getD_some,Array.all_eq_true] at h2;obtain⟨Wc,V4⟩:=h2
  have Zb:o∈aM.toList:=by
   have:=fB xW;simpa using this
  have tD:=dp;unfold ji at tD;rw[aI,a7,a7] at tD;have Ec:=tD.1 i (bO.2 hlt);rw[xW] at Ec;simp only[aI] at Ec;obtain⟨⟨acu,vU⟩,ab5⟩:=Ec
  have Wh:Hc aM Vs a.eval w o.after.toList:=Hc.of fun e he hb=>by
   obtain⟨k,hk,rfl⟩:=jJ he;have:=V4 k (by simpa using hk);simp only[r7] at hb ⊢;rw[hb] at this;simp only[Bool.not_true,Bool.false_or] at this;exact h.vals _ this
  have hBs:gi a.eval base:=hbase.congr fun p hp=>h.keep _ fun o' ho' hd=>by
   obtain⟨k,hk,rfl⟩:=jJ ho';have rU:k<aM.size:=by simpa using hk
   have h3:=tD.1 k (bO.2 rU);rw[aN rU] at h3;simp only[r7] at hd;simp only[aI,hd] at h3;have:=a7.1 h3.1.2.1.2 p hp;simp at this
  have af5:(fun t=>L.getD t false) i=false:=by
   simp[eM,nG] at Wc ⊢;exact Wc
  have afq:∀t,needs aM i t=true->L.getD t false=false:=fun t ht=>by
   cases hq:L.getD t false with
   |false=>rfl
   |true=>
    unfold needs at ht;obtain⟨e,he,h8⟩:=List.any_eq_true.1 ht;rw[aI,decide_eq_true_eq] at h8;have h9:=h.closed t e hq he h8.1;rw[h8.2] at h9;have h10:L.getD i false=false:=af5;rw[h10] at h9;cases h9
  have hO:=hE.get (j:=i) (o:=o) (by simpa using xW) (fun t=>L.getD t false) a.eval w (by rw[dz];exact afq) (by rw[dz];exact af5) h.s (fun _=>rfl) (fun _=>rfl) (fun _=>rfl) (JK.of (zK.of (fun k d hd hk=>h.late k d hd hk) hlate) hBs) Wh;rw[dz] at hO;have hao:gp aM i=o.after.toList:=by unfold gp;rw[xW]
  have M5:∀e∈o.after.toList,fR .any e=true->L.getD e.on false=true:=fun e he hb=>by
   obtain⟨k,hk,rfl⟩:=jJ he;have:=V4 k (by simpa using hk);simp only[r7] at hb ⊢;rw[hb] at this;simpa using this
  have hne:∀k,L.getD k false=true->k≠i/\k<aM.size:=fun k hk=>by
   refine⟨fun e=>?_,?_⟩
   .subst e;simp[eM,nG] at Wc hk;rw[Wc] at hk;cases hk
   rcases CQ k aM.size with h5|h5
   .exact h5
   have:¬k<L.size:=by have:=h.vF;omega
   simp[eM,this] at hk
  have next:∀v w',Post (fun t=>L.getD t false) aM a.eval Vs S i o w v w'->anyOf oV aM Q fuel (L.setIfInBounds i true) (a.put o.dst v) w':=fun v w' hp=>by
   have hval:∀k,L.getD k false=true->jw (eC aM k) (a.put o.dst v).eval=jw (eC aM k) a.eval:=fun k rU=>by
    obtain⟨Bu,yB⟩:=hne k rU;cases Ol:eC aM k with
    |none=>rfl
    |some d=>
     refine uT _ _ _ _ fun hod=>?_;rcases Nat.lt_trichotomy k i with h5|h5|h5
     .rw[hod] at vU;simp only[aI,decide_eq_true_eq] at vU;have:=a7.1 vU.2 k (bO.2 h5);simp[Ol] at this
     .exact Bu h5
     have h6:=tD.1 k (bO.2 yB);rw[aN yB] at h6
     have h7:(aM[k]).dst=some d:=by
      unfold eC at Ol;rw[aN yB] at Ol;simpa using Ol
     simp only[aI,h7] at h6;have:=a7.1 h6.1.2.2 i (bO.2 h5);unfold eC at this;rw[xW] at this;simp[hod] at this
   have vS:∀k,L.getD k false=true->(L.setIfInBounds i true).getD k false=true:=fun k hk=>by
    have:=(hne k hk).1;simpa [aZ,bD,CP this] using hk
   have hback:∀k,k≠i->(L.setIfInBounds i true).getD k false=true->L.getD k false=true:=fun k Bu hk=>by
    simpa [aZ,bD,CP Bu] using hk
   refine ih _ _ _ ?_ ⟨by simp[h.vF],by rw[Ae,h.size],by rw[put_defers,h.defers],?_,fun t ht=>?_,fun k d hd hk=>?_,fun k e hk he hb=>?_,fun k hk=>?_⟩
   .have hLv:L[i]=false:=by simpa [eM,nG] using Wc
    have h4:(L.setIfInBounds i true).toList.countP (!·)=L.toList.countP (!·)-1:=by
     rw[Array.toList_setIfInBounds,List.countP_set (by simpa using nG)];simp[hLv]
    omega
   .have hup:(fun t=>(L.setIfInBounds i true).getD t false)=upd (fun t=>L.getD t false) i:=by
     funext t
     unfold upd
     by_cases ht:t=i
     .subst ht;simp[aZ,bD,nG]
     simp[aZ,bD,CP ht,ht]
    rw[hup]
    exact hp.2.elim (fun hb=>Jn _ _ _ _ (fun t ht=>by
     unfold upd at ht;split at ht
     .cases ht
     exact ht) h.s hb) fun hs=>hs.1
   .rw[uT _ _ _ _ (ht o Zb)];exact h.keep t ht
   .have Bu:k≠i:=by
     rintro rfl;simp[aZ,bD,nG] at hk
    have Rh:L.getD k false=false:=by
     simpa [aZ,bD,CP Bu] using hk
    have yB:k<aM.size:=by
     rcases CQ k aM.size with h5|h5
     .exact h5
     unfold eC at hd;rw[fS h5] at hd;simp at hd
    rw[uT _ _ _ _ fun hod=>?_]
    .exact h.late k d hd Rh
    rcases Nat.lt_trichotomy k i with h5|h5|h5
    .rw[hod] at vU;simp only[aI,decide_eq_true_eq] at vU;have:=a7.1 vU.2 k (bO.2 h5);simp[hd] at this
    .exact Bu h5
    have h6:=tD.1 k (bO.2 yB);rw[aN yB] at h6
    have h7:(aM[k]).dst=some d:=by
     unfold eC at hd;rw[aN yB] at hd;simpa using hd
    simp only[aI,h7] at h6;have:=a7.1 h6.1.2.2 i (bO.2 h5);unfold eC at this;rw[xW] at this;simp[hod] at this
   .by_cases Bu:k=i
    .subst Bu;rw[hao] at he;exact vS _ (M5 e he hb)
    exact vS _ (h.closed k e (hback k Bu hk) he hb)
   by_cases Bu:k=i
   .subst Bu
    have hdd:gK aM (a.put o.dst v).eval (gp aM k)=gK aM a.eval o.after.toList:=by
     rw[hao];exact qI fun e he hb=>hval _ (M5 e he hb)
    rw[hdd];have:=hp.1;unfold eC jw;rw[xW];simp only[gZ];cases hd:o.dst with
    |none=>rw[hd] at this;exact this
    |some d=>
     rw[hd] at this vU;simp only[aI,decide_eq_true_eq] at vU;have h9:=put_eq a d v (by rw[h.size,hn];exact vU.1.1);simp only[] at this ⊢;rw[h9];exact this
   have rU:=hback k Bu hk;have hvk:=h.vals k rU;have hdd:gK aM (a.put o.dst v).eval (gp aM k)=gK aM a.eval (gp aM k):=qI fun e he hb=>hval _ (h.closed k e rU he hb);rw[hval k rU,hdd];exact hp.2.elim (fun hb=>Cg.get k h.s hb hvk) fun hs=>hs.2 k _ _ Bu rU hvk
  cases hg:o.guard with
  |none=>
   rw[hg] at hO;exact hs1 i o _ a w _ xW (by simp[dg,hg]) hO next
  |some jb=>
   obtain⟨j,b⟩:=jb;rw[hg] at hO;obtain⟨⟨r,hr⟩,hO⟩:=hO;have hO:=hO r hr
   have hy:ku aM a.tmps j=some r:=by
    unfold ku;unfold jw at hr;unfold eC at hr;cases hd:(aM[j]?).bind (·.dst) with
    |none=>rw[hd] at hr;simp[au] at hr
    |some d=>
     rw[hd] at hr;simp only[gZ]
     have h8:a.tmps[d]?=some (.bool r):=by
      unfold Act.eval at hr;simp only[] at hr
      by_cases Ed:d<a.tmps.size
      .simp[eM,Ed] at hr;rw[aN Ed,hr]
      simp[eM,Ed,au] at hr
     rw[h8]
   by_cases hrb:r=b
   .rw[if_pos hrb] at hO;exact hs1 i o _ a w _ xW (by simp[dg,hg,hy,hrb]) hO next
   rw[if_neg hrb] at hO;exact hs2 i o _ a w xW (by simp[dg,hg,hy,hrb]) (next _ _ hO)
theorem yY{a0:jY}{w:ak}(hS:S (fun t=>(bz aM.size false).getD t false) w):jq aM Vs S a0 (bz aM.size false) a0 w:=⟨by simp,rfl,rfl,hS,fun _ _=>rfl,fun _ _ _ _=>rfl,fun i e hi _ _=>by
  simp[aZ,rS] at hi;split at hi<;>simp at hi,fun i hi=>by
  simp[aZ,rS] at hi
  split at hi<;>simp at hi⟩
theorem xe:(bz aM.size false).toList.countP (!·)<=aM.size:=by simpa using yQ (p:=(!·)) (l:=List.replicate aM.size false)
theorem qZ{id:Nat}{a0:jY}{w:ak}(hm:P.follows .mixedOrders=true)(Vs:List Pred)(S:Ls->ak->Prop)(base:List (j5 × ai))(dp:ji aM a0.tmps.size base=true)(Cg:jy S Vs)(Jn:∀(L L':Ls) w w',(∀t,L' t=false->L t=false)->S L w->Bw w w'->S L' w')
  (hS:S (fun _=>false) w.drew) (hbase:gi a0.eval base) (hlate:G8 aM a0.eval late) (hE:Each (Yields P) aM Vs S base late 0 aM.toList) (hQ:∀a w,jq aM Vs S a0 (bz aM.size true) a w->Q .normal a w):(CV id aM true).wp P Q a0 w:=
 wp_region_any hm (by
  rw[ES]
  exact Bl (Y:=Yields P) (fun i o K a w R ho hw hy hk=>wpOp_step ho fun K' hK=>by rw[if_pos hw];exact hy.wp fun v w' hv=>hK _ _ (hk v w' hv))
   (fun i o K a w ho hw hk=>wpOp_step ho fun K' hK=>by rw[if_neg hw];exact hK _ _ hk) dp Cg Jn a0 rfl hbase hlate hE hQ aM.size _ a0 _ xe (yY (by
   have e:(fun t=>(bz aM.size false).getD t false)=fun _=>false:=by
    funext t
    simp[aZ,rS];split<;>simp
   rw[e];exact hS)))
theorem cy{id:Nat}{a0:jY}{w:ak}(hm:P.follows .mixedOrders=true)(Vs:List Pred)(S:Ls->ak->Prop)(base:List (j5 × ai))(dp:ji aM a0.tmps.size base=true)(Cg:jy S Vs)(Jn:∀(L L':Ls) w w',(∀t,L' t=false->L t=false)->S L w->Bw w w'->S L' w')
  (hS:S (fun _=>false) w.drew) (hbase:gi a0.eval base) (hE:Each (Yields P) aM Vs S base [] 0 aM.toList) (hQ:∀a w,jq aM Vs S a0 (bz aM.size true) a w->Q .normal a w):(CV id aM true).wp P Q a0 w:=
 qZ (late:=[]) hm Vs S base dp Cg Jn hS hbase trivial hE hQ
theorem jq.kept{a0 a:jY}{L:Array Bool}{w:ak}(h:jq aM Vs S a0 L a w){t:j5}(hk:keeps aM t=true):a.tmps.getD t au=a0.tmps.getD t undef:=
 h.keep t fun o ho=>by
  have:=a7.1 hk o ho;simpa using this
theorem jq.kp{a0 a:jY}{L:Array Bool}{w:ak}(h:jq aM Vs S a0 L a w)(t:j5)(hk:keeps aM t=true:=by kernel_rfl):a.tmps.getD t au=a0.tmps.getD t undef:=h.kept hk
theorem jq.val{a0 a:jY}{w:ak}(h:jq aM Vs S a0 (bz aM.size true) a w)(i:Nat)(hi:i<aM.size:=by decide):gJ Vs i (jw (eC aM i) a.eval) (gK aM a.eval (gp aM i)) w:=h.vals i (by simp[eM,hi])
theorem jq.act{a0 a:jY}{L:Array Bool}{w:ak}(h:jq aM Vs S a0 L a w):a=⟨((aP a0.tmps.size).map fun t=>a.tmps.getD t au).toArray,a0.defers⟩:=by
 have h1:=h.size;have h2:=h.defers;obtain⟨tm,df⟩:=a;simp only[] at h1 h2;subst h2;rw[<-h1]
 congr 1
 apply Array.ext
 .simp
 intro i h1 h2;simp[eM,h1]
theorem jq.lits{a0 a:jY}{L:Array Bool}{w:ak}(h:jq aM Vs S a0 L a w)(n:Nat)(hn:a0.tmps.size=n):a=⟨((aP n).map fun t=>a.tmps.getD t au).toArray,a0.defers⟩:=hn▸h.act
end
end Ph
def Nk(c:Bool)(v:ai):Value:=if c then v else au
def zG{x:Bool}:((.bool x:ai)=.bool true)↔x=true:=by simp
def mR{x:Bool}:((.bool x:ai)=.bool false)↔(!x)=true:=by cases x<;>simp
abbrev pG(c:Bool)(x:ai):Pred:=fun v _ _=>v=Nk c x
end Go.Lag
namespace Go.RowKit
def Below.tr{w W W':ak}(h:Bw w W)(ho:Bw W W'):Bw w W':=h.trans (ho.mono h.size)
end Go.RowKit
namespace Go.Lag
open Go Go.RowKit
def aA{W W':ak}{B:Nat}{o:Obj}(h:W.heap[B]?=some o)(ho:Bw W W'):W'.heap[B]?=some o:=(ho.block _ (ag.1 h).1).trans h
section
variable{P:aK}{aM:Array cY}{Q:Exit->jY->ak->Prop}{n:Nat}
theorem ox{id:Nat}{y:Code}{a0:jY}{W:ak}(Vs:List Pred)(base:List (j5 × ai))(dp:ji aM n base=true)(hn:a0.tmps.size=n)(hbase:gi a0.eval base)(Cg:jy (fun w=>Bw W w) Vs)
  (hE:Gd.Each (Yields P) aM Vs (fun w=>Bw W w) base 0 aM.toList) (hy:∀a w,jq aM Vs (fun w=>Bw W w) a0 (bz aM.size true) a w->y.wp P Q a w):(Code.seq (.region id aM false) y).wp P Q a0 W:=
 wp_seq (Gd.JN Vs (fun w=>Bw W w) base dp hn Cg (fun _ _ h hb=>h.trans (hb.mono h.size)) (ay _ _) hbase hE fun a w h=>hy a w h)
theorem Jt(hm:P.follows .mixedOrders=true){id:Nat}{y:Code}{a0:jY}{W:ak}(Vs:List Pred)(base:List (j5 × ai))(dp:ji aM n base=true)(hn:a0.tmps.size=n)(hbase:gi a0.eval base)(Cg:jy (fun w=>Bw W w) Vs)
  (hE:Gd.Each (Yields P) aM Vs (fun w=>Bw W w) base 0 aM.toList) (hy:∀a w,jq aM Vs (fun w=>Bw W w) a0 (bz aM.size true) a w->y.wp P Q a w):(Code.seq (.region id aM true) y).wp P Q a0 W:=
 wp_seq (Gd.cy hm Vs (fun w=>Bw W w) base (by rw[hn];exact dp) Cg (fun _ _ h hb=>h.trans (hb.mono h.size)) (ay _ _).drew hbase hE fun a w h=>hy a w h)
theorem agB(hm:P.follows .mixedOrders=true){id:Nat}{a0:jY}{W:ak}(Vs:List Pred)(base:List (j5 × ai))(dp:ji aM n base=true)(hn:a0.tmps.size=n)(hbase:gi a0.eval base)(Cg:jy (fun w=>Bw W w) Vs)
  (hE:Gd.Each (Yields P) aM Vs (fun w=>Bw W w) base 0 aM.toList) (hy:∀a w,jq aM Vs (fun w=>Bw W w) a0 (bz aM.size true) a w->Q .normal a w):(CV id aM true).wp P Q a0 W:=
 Gd.cy hm Vs (fun w=>Bw W w) base (by rw[hn];exact dp) Cg (fun _ _ h hb=>h.trans (hb.mono h.size)) (ay _ _).drew hbase hE fun a w h=>hy a w h
theorem Ph.jq.fr{Vs:List Pred}{S:Ph.Ls->ak->Prop}{a0 a:jY}{L:Array Bool}{w:ak}{n:Nat}{l:List (j5 × ai)}(h:Ph.jq aM Vs S a0 L a w)(h0:iw n a0 l)(hk:(l.all fun p=>keeps aM p.1)=true):iw n a l:=
 ⟨h.size.trans h0.size,h.defers.trans h0.defers,h0.base.congr fun p hp=>h.keep p.1 fun o ho=>by
  have h1:=a7.1 hk p hp;have:=a7.1 h1 o ho
  simpa using this⟩
theorem jB{args:Array ai}{k t:Nat}{v:ai}(h:args[t]?=some v):(⟨args++bz k au,[]⟩:jY).eval (.tmp t)=v:=by
 have hl:=(ag.1 h).1;unfold Act.eval;simp only[aZ];rw[Array.getElem?_append_left hl,h];rfl
theorem Ga{args:Array ai}{n:Nat}(hn:args.size<=n)(l:List (j5 × ai))(h:gi (⟨args++bz (n-args.size) au,[]⟩:jY).eval l):iw n ⟨args++bz (n-args.size) au,[]⟩ l:=⟨by simp;omega,rfl,h⟩
theorem nY{P:aK}{fn:Func}{c:Code}{f:en}{args:Array ai}{w:ak}{R:Ending->ak->Prop}(hf:P.funcs[f]?=some fn)(hb:fn.body=some c){n:Nat}(hn:fn.ntmps=n)(l:List (j5 × ai))(hl:gi (⟨args++bz (n-args.size) au,[]⟩:jY).eval l)(h:∀a W,iw n a l->Bw w W->c.wp P (bodyPost P fn R) a W)(hs:args.size<=n:=by simp):bm P f args w R:=
 calls_of_wp hf hb (by rw[hn];exact h _ w (Ga hs l hl) (ay _ _))
theorem lu{P:aK}{fn:Func}{c:Code}{f:en}{args:Array ai}{w:ak}{R:Ending->ak->Prop}(hf:P.funcs[f]?=some fn)(hb:fn.body=some c){n:Nat}(hn:fn.ntmps=n)(l:List (j5 × ai))(hl:gi (⟨args++bz (n-args.size) au,[]⟩:jY).eval l)(h:∀a,iw n a l->c.wp P (bodyPost P fn R) a w)(hs:args.size<=n:=by simp):bm P f args w R:=
 calls_of_wp hf hb (by rw[hn];exact h _ (Ga hs l hl))
end
end Go.Lag
