/- THE BELL IN PLAIN LEAN: a book's numbers, plans by bits, the air minut .. -/
import Derived.WalkKit
import Derived.Lib.Hide
import Derived.Deep.RegionHeld3
import Derived.RangeFuncRecord
import Derived.Maps.OwnOps
import Derived.Test.YtffladgmkiimjaaGreatDoorRows
import Derived.LaidMore
import Derived.OpenShut
import Derived.ProofKit
import Derived.OrdersIn
set_option linter.all false
set_option maxHeartbeats 0
set_option maxRecDepth 1000000
open Array renaming getElem?_eq_getElem -> aQ,getD_eq_getD_getElem? -> a_,getElem?_eq_some_iff -> ah,replicate -> bF,getElem?_setIfInBounds -> bK,getD -> eH,getElem?_eq_none -> fS,mem_of_getElem? -> fq,getElem_toList -> rG,getElem?_replicate -> ry
open Bool renaming and_eq_true -> aJ,false_eq_true -> bG,not_true -> vH
open Go renaming TypeId -> a7,Program -> aN,Value -> aj,World -> ak,undef -> aw,Operand -> bI,execOp -> bY,Calls -> bm,Oper -> cO,FuncId -> d_,Act -> j6,yielded -> j8,Tmp -> jR,underlying -> ji,step -> oD,MapEntry -> uM
open Go.Addr renaming add -> jP
open Go.Code renaming region -> Ch
open Go.Ending renaming returned -> aY,returned -> bA
open Go.Instr renaming mapUpdate -> A3,findKey -> DK,findAsking -> jC,index -> ni
open Go.IntKind renaming i64 -> af
open Go.Lib renaming hid -> ai
open Go.Obj renaming cells -> au
open Go.Proofs.Tryz renaming prog -> aq,underlying25 -> ek
open Go.Region renaming wanted -> cU,binds -> fR,ready -> jm
open Go.Result renaming andThen -> Hy,andThen_ok -> h_
open Go.RowKit renaming Below -> fV
open Go.RowKit.Below renaming refl -> aB,heap_alloc -> aZ
open Go.Sem renaming run_pure -> Ca,run_bind -> mI
open Go.Value renaming int -> aD,bool -> aI,agg -> aR,slice -> ae,int -> ag,slice -> eE,pointer -> eX
open Go.World renaming alloc_heap_new -> az,ownsRow_nil -> dG,cell? -> dP,cell?_alloc_lt -> eD
open List renaming getElem?_append_left -> AW,foldl_append -> Cc,map_congr_left -> Gy,eq_nil_of_length_eq_zero -> a8,range -> aS,all_eq_true -> aX,range' -> bN,take_succ_eq_append_getElem -> bO,getElem_mem -> bQ,mem_range -> bV,map_cons -> cV,drop_eq_getElem_cons -> dW,take_of_length_le -> di,map_append -> eF,mem_of_mem_take -> eU,getElem_of_mem -> iG,mem_filter -> kD,range_eq_range' -> ng,countP_le_length -> yj
open List.cons renaming injEq -> A2
open Nat renaming le_refl -> aO,lt_of_lt_of_le -> bw,zero_add -> dh,add_assoc -> ru,mul_comm -> vD
open Ne renaming symm -> Cb
open Option renaming map_some -> dM,bind_some -> gW
open Option.some renaming inj -> bp
open Or renaming inl -> cJ
open Prod.mk renaming injEq -> iq
namespace Go
def oM{p:Prop}(h:p:=by omega):p:=h
def kQ{p:Prop}(h:p:=by kernel_rfl):p:=h
def sM{p:Prop}(h:p:=by simp):p:=h
def dC{p:Prop}(h:p:=by decide):p:=h
def sO{p:Prop}(h:p:=by simp;omega):p:=h
abbrev Bw(u v:Go.World):Prop:=Go.RowKit.Below u.heap.size u v
abbrev AZ:Array Go.Value:=#[ag af 0,ag af 0,ag af 0,ag af 0,ag af 0,ag af 0,ag af 0,ag af 0,ag af 0,ag af 0,ag af 0,ag af 0,ae none 0 0,ae none 0 0,ae none 0 0]
def dx{w:Go.World}{o:Go.Obj}:Bw w (w.alloc o):=(Go.RowKit.Below.refl _ _).alloc (aO _) _
abbrev Rt(w:Go.World)(v:Go.Value):Go.Ending->Go.World->Prop:=fun e w'=>e=aY v/\Bw w w'
end Go
namespace Go.Proofs.YtffladgmkiimjaaGreatDoor
open Go
def fO(n:Int)(h₀:0<=n)(h₁:n<2 ^ 62):IntKind.i64.wrap n=n:=by rw[IntKind.wrap_i64];omega
def aam(a b:Nat)(ha:a<2 ^ 62)(hb:b<2 ^ 62):bits .and af (a:Int) (b:Int)=((a &&& b:Nat):Int):=(bits_nat af 62 dC fO a b ha hb).1
def adZ(a b:Nat)(ha:a<2 ^ 62)(hb:b<2 ^ 62):bits .or af (a:Int) (b:Int)=((a ||| b:Nat):Int):=(bits_nat af 62 dC fO a b ha hb).2
def xm(n m:Nat)(hn:n<512):(bits BinOp.and IntKind.i64 (↑n / 2 ^ m) 1==1)=n.testBit m:=by
 have e:((n:Int) / 2 ^ m)=((n / 2 ^ m:Nat):Int):=sM;have hlt:n / 2 ^ m<2 ^ 62:=Nat.lt_of_le_of_lt (Nat.div_le_self _ _) oM;rw[e,show(1:Int)=((1:Nat):Int) from rfl,aam _ 1 hlt dC];rw[Nat.testBit_eq_decide_div_mod_eq,Nat.and_one_is_mod,Bool.eq_iff_iff];simp only[beq_iff_eq,decide_eq_true_eq];omega
structure BB where
 room:Int
 depth:Int
 least:Int
 minutes:Int
 bS:Int
 iU:Int
 eI:Int
 iO:Int
 ll:Int
 lm:Int
 pl:Int
 pm:Int
abbrev BB.cells(b:BB)(bq aM aC:aj):Array Value:=#[ag af b.room,ag af b.depth,ag af b.least,ag af b.minutes,ag af b.bS,ag af b.iU,ag af b.eI,ag af b.iO,ag af b.ll,ag af b.lm,ag af b.pl,ag af b.pm,bq,aM,aC]
abbrev BB.sl(b:BB)(p:Option Addr)(n c:Nat)(q:Option Addr)(k d:Nat)(r:Option Addr)(l e:Nat):Array Value:=b.cells (eE p n c) (eE q k d) (eE r l e)
abbrev BB.br(b:BB)(p:Option Addr)(n c:Nat):Array Value:=b.cells (eE p n c) (eE none 0 0) (eE none 0 0)
structure BB.Ok(b:BB):Prop where
 room:1<=b.room/\b.room<=99
 depth:0<=b.depth/\b.depth<=99
 least:0<=b.least/\b.least<=99
 minutes:1<=b.minutes/\b.minutes<=8
 bS:0<=b.bS/\b.bS<=99
 iU:0<=b.iU/\b.iU<=99
 eI:0<=b.eI/\b.eI<=3
 iO:0<=b.iO/\b.iO<=99
 leak:0<=b.ll/\b.ll<=b.lm/\b.lm<=99/\b.lm-b.ll<3
 Oh:1<=b.pl/\b.pl<=b.pm/\b.pm<=b.minutes
def BB.holds(b:BB):Int:=b.room*(33+b.depth) / 33
def BB.xg(b:BB)(n:Int):Int:=n*33 / (33+b.depth)
structure dS where
 leak:Int
 m0:Int
 m1:Int
 m2:Int
deriving DecidableEq
abbrev dS.cells(a:dS):Array Value:=#[ag af a.leak,ag af a.m0,ag af a.m1,ag af a.m2]
structure dS.Ok(a:dS):Prop where
 leak:0<=a.leak/\a.leak<=400
 m0:0<=a.m0/\a.m0<=99
 m1:0<=a.m1/\a.m1<=99
 m2:0<=a.m2/\a.m2<=99
def dS.used(a:dS):Int:=a.leak+a.m0+a.m1+a.m2
def BB.wb(b:BB)(h:b.Ok):b.room<=b.holds/\b.holds<=396:=by
 have h1:=h.room;have h2:=h.depth;unfold BB.holds;have h3:b.room*33<=b.room*(33+b.depth):=Int.mul_le_mul_of_nonneg_left oM oM;have h4:b.room*(33+b.depth)<=99*132:=Int.mul_le_mul oM oM oM oM;omega
def BB.VS(b:BB)(h:b.Ok){n:Int}(h0:0<=n)(h1:n<=999):0<=n*33/\n*33<=32967/\0<33+b.depth/\33+b.depth<=132:=by
 have h2:=h.depth;omega
def BB.step(b:BB)(used:Int)(p:Nat)(m:Nat)(n:Int):Int:=
 max 0 (min ((n+if p.testBit m then b.iU else 0)+if b.pl<=m/\m<=b.pm then b.iO else 0) b.holds-used)
def BB.rj(b:BB)(used:Int)(p:Nat):Nat->Int
 |0=>b.room
 |m+1=>b.step used p (m+1) (b.rj used p m)
def BB.js(b:BB)(used:Int)(p k:Nat):List Int:=(aS k).map fun i=>b.rj used p (i+1)
def BB.Iu(b:BB)(used:Int)(p k:Nat):b.js used p (k+1)=b.js used p k++[b.rj used p (k+1)]:=by
 simp[BB.js,List.range_succ]
def BB.oV(b:BB)(used:Int)(p k:Nat):(b.js used p k).length=k:=by simp[BB.js]
def BB.BU(b:BB)(h:b.Ok){used:Int}(hu:0<=used)(p:Nat):∀k,0<=b.rj used p k/\b.rj used p k<=396:=by
 intro k;have hh:=b.wb h;have h1:=h.room;cases k with
 |zero=>simp only[BB.rj];omega
 |succ k=>simp only[BB.rj,BB.step];omega
def upTo(p k:Nat):List Nat:=(bN 1 k).filter p.testBit
def Ic(p k:Nat):upTo p (k+1)=upTo p k++if p.testBit (k+1) then[k+1] else[]:=by
 unfold upTo;rw[show bN 1 (k+1)=bN 1 k++[k+1] by rw[List.range'_concat];simp[Nat.add_comm]];rw[List.filter_append]
 congr 1
 by_cases h:p.testBit (k+1)<;>simp[h]
def wS(p k:Nat):(upTo p k).length<=k:=by
 unfold upTo;have:=List.length_filter_le p.testBit (bN 1 k);simpa using this
open Go.RowKit
def qI{a b:Bool}(h:a=b):bA (aI a)=aY (aI b):=by rw[h]
def gR{k:IntKind}{a b:Int}(h:a=b):bA (ag k a)=aY (ag k b):=by rw[h]
def aV(n l m:Int):Bool:=decide (l<=n)&&decide (n<=m)
def qQ(n l m:Int)(w:ak):bm aq 138 #[ag af n,ag af l,ag af m] w fun e w'=>e=aY (aI (aV n l m))/\w=w':=by
 by_cases h1:l<=n
 .have h:aV n l m=decide (n<=m):=by simp[aV,h1]
  rw[h];have H:=ai h;clear h
  go_enter Tryz.func138,Tryz.ntmps138
  go_wp2
  all_goals (go_ret;first|exact⟨rfl,rfl⟩|(refine⟨qI ?_,rfl⟩;simp))
 have h:aV n l m=false:=by simp[aV,h1]
 rw[h];have H:=ai h;clear h
 go_enter Tryz.func138,Tryz.ntmps138
 go_wp2
 all_goals (go_ret;first|exact⟨rfl,rfl⟩|(refine⟨qI ?_,rfl⟩;simp))
def Ke(n m:Nat)(hn:n<512)(hm:m<9)(w:ak):bm aq 162 #[ag af n,ag af m] w fun e w'=>e=aY (aI (n.testBit m))/\w=w':=by
 go_enter Tryz.func162,Tryz.ntmps162
 go_wp2
 go_ret
 exact⟨qI (xm n m hn),rfl⟩
def info3:(Tryz.prog.info? 3).map (fun i=>(i.zero,i.size,i.bytes))=some (some (ag af 0),1,8):=kQ
def qz{B e n size:Nat}{xs:List aj}{w wr w1:ak}{u:aj}{o:Obj}(hB:B<=wr.heap.size)(hown:wr.ownsRow B e size u n xs)(eh:fV B w wr)(hgrow:(wr.alloc o).grownBy w1 u.ownBlock):fV B w w1:=
 (eh.alloc hB o).grown hgrow sO fun j hj=>(hown.lt j hj).1
def Md(p:Nat)(hp:p<512)(w:ak) :
  bm aq 99 #[ag af p] w fun e w'=>∃v,e=aY v/\w'.ownsRow w.heap.size 3 1 v (upTo p 8).length ((upTo p 8).map fun(m:Nat)=>aD af (m:Int))/\Bw w w':=by
 obtain⟨i0,hi,hz0,hz1,hz2⟩:=info_parts info3
 go_enter Tryz.func99,Tryz.ntmps99
 go_wp2
 go_loopw [3,4] (fun v i wr=>∃k:Nat,k<=8/\i=ag af (k+1)/\wr.ownsRow w.heap.size 3 1 v (upTo p k).length ((upTo p k).map fun(m:Nat)=>aD af (m:Int))/\Bw w wr)
  (fun _ i _=>9-(intOf i).toNat)
 case atStart=>exact⟨0,oM,rfl,dG _ _ _ _,aB _ _⟩
 case round=>
  obtain⟨k,hk,rfl,hown,eh⟩:=hrel;have hle:=wS p k
  by_cases hlt:k<8
  .cases hb:p.testBit (k+1)
   .have e1:upTo p (k+1)=upTo p k:=by rw[Ic,hb];simp
    have hc:=Ke p (k+1) hp oM;rw[hb] at hc;have HC:=ai hc;have H1:=ai e1;clear e1 hb hc
    go_wp2_with (go_at_call 162;refine(HC.out _).mono ?_;rintro e w' ⟨rfl,rfl⟩)
    go_roundw
    case rel=>exact⟨k+1,oM,by go_num,by rw[H1.out];exact hown,eh⟩
    case measure=>simp[intOf];omega
   have e1:upTo p (k+1)=upTo p k++[k+1]:=by rw[Ic,hb];simp
   have hc:=Ke p (k+1) hp oM;rw[hb] at hc;have HC:=ai hc;have H1:=ai e1;clear e1 hb hc;have hB:=eh.size
   go_wp2_with (first
    |(go_at_call 162;refine(HC.out _).mono ?_;rintro e w' ⟨rfl,rfl⟩)
    |(at_builtin;refine wpList_append_own _ rfl _ _ 25 rfl w.heap.size 3 i0 (ag af 0) 1 8 ek hi hz0 hz1 hz2 rfl dC _ _ _ rfl (hown.alloc _) ⟨wr.heap.size,0,none⟩ 1 1 [ag af (k+1)] rfl rfl ?c1 ?c2 ?c3 ?c4 ?c5 ?_))
   case c1=>
    intro j u hj
    match j,hj with
    |0,hj=>simp at hj;subst hj;simp[jP]
   case c2=>intro u hu;simp at hu;subst hu;rfl
   case c3=>unfold maxLen;omega
   case c4=>omega
   case c5=>simp;omega
   intro v' w1 hown' hgrow _;have hb1:Bw w w1:=qz hB hown eh hgrow;clear hgrow eh hown;go_wp2;go_roundw
   case rel=>exact⟨k+1,oM,by go_num,by rw[H1.out];simpa using hown',hb1⟩
   case measure=>simp[intOf];omega
  obtain rfl:k=8:=oM;go_wp2
  go_ret
  exact⟨_,rfl,hown,eh⟩
def tX(p:Nat)(hp:p<512)(w:ak):bm aq 97 #[ag af p] w (Rt w (ag af (upTo p 8).length)):=by
 go_enter Tryz.func97,Tryz.ntmps97
 go_wp2_with fail
 refine(Md p hp _).mono ?_;rintro e w1 ⟨v,rfl,hown,hb⟩;rcases hown.2 with⟨rfl,h0⟩|⟨g,cap,cur,rfl,_,_,_,_,_,_⟩
 .have H0:=ai h0;clear h0 hown;go_wp2
  go_ret
  exact⟨gR (by rw[H0.out];rfl),hb⟩
 clear hown;go_wp2
 go_ret
 exact⟨rfl,hb⟩
def IP(b:BB)(hb:b.Ok)(bq aM aC:aj)(w:ak):bm aq 115 #[aR (b.cells bq aM aC)] w (Rt w (ag af b.holds)):=by
 have h1:=hb.room;have h2:=hb.depth;have h3:=b.wb hb;have h4:b.room*(33+b.depth)<=99*132:=Int.mul_le_mul oM oM oM oM;have h5:0<=b.room*(33+b.depth):=Int.mul_nonneg oM oM
 go_enter Tryz.func115,Tryz.ntmps115
 go_wp2
 go_ret
 exact⟨gR rfl,dx⟩
def Ko(b:BB)(hb:b.Ok)(bq aM aC:aj)(n:Int)(hn:0<=n/\n<=999)(w:ak):bm aq 139 #[aR (b.cells bq aM aC),ag af n] w (Rt w (ag af (b.xg n))):=by
 have h2:=hb.depth;have h1:=b.VS hb hn.1 hn.2
 go_enter Tryz.func139,Tryz.ntmps139
 go_wp2
 go_ret
 exact⟨gR rfl,dx⟩
def Lg(a:dS)(ha:a.Ok)(w:ak):bm aq 165 #[aR a.cells] w (Rt w (ag af a.used)):=by
 have h1:=ha.leak;have h2:=ha.m0;have h3:=ha.m1;have h4:=ha.m2;have ix:∀(x y z:Int) w,(ni 132 (aR #[ag af x,ag af y,ag af z]) (ag af 0)).run aq w=.ok (ag af x) w:=fun _ _ _ _=>by kernel_rfl
 have iy:∀(x y z:Int) w,(ni 132 (aR #[ag af x,ag af y,ag af z]) (ag af 1)).run aq w=.ok (ag af y) w:=fun _ _ _ _=>by kernel_rfl
 have iz:∀(x y z:Int) w,(ni 132 (aR #[ag af x,ag af y,ag af z]) (ag af 2)).run aq w=.ok (ag af z) w:=fun _ _ _ _=>by kernel_rfl
 go_enter Tryz.func165,Tryz.ntmps165
 go_wp2
 go_loop [3,10] (fun n i=>(i=ag af 0/\n=ag af a.leak)\/(i=ag af 1/\n=ag af (a.leak+a.m0))\/(i=ag af 2/\n=ag af (a.leak+a.m0+a.m1))\/(i=ag af 3/\n=ag af (a.leak+a.m0+a.m1+a.m2))) (fun _ i=>3-(intOf i).toNat)
 case atStart=>exact cJ ⟨rfl,rfl⟩
 case round=>
  rcases hrel with⟨rfl,rfl⟩|⟨rfl,rfl⟩|⟨rfl,rfl⟩|⟨rfl,rfl⟩
  .go_wp2
   go_round
   case rel=>exact .inr (cJ ⟨rfl,rfl⟩)
   case measure=>simp[intOf]
  .go_wp2
   go_round
   case rel=>exact .inr (.inr (cJ ⟨rfl,rfl⟩))
   case measure=>simp[intOf]
  .go_wp2
   go_round
   case rel=>exact .inr (.inr (.inr ⟨rfl,rfl⟩))
   case measure=>simp[intOf]
  go_wp2
  go_ret
  exact⟨gR rfl,dx⟩
abbrev Oj(b:BB)(bq aM aC:aj)(a:dS)(w w':ak):Prop:=w'.cell? ⟨w.heap.size,0,none⟩=some (ag af b.room)/\w'.cell? ⟨w.heap.size,4,none⟩=some (ag af b.bS)/\w'.cell? ⟨w.heap.size+1,0,none⟩=some (ag af a.leak)/\w'.cell? ⟨w.heap.size+1,1,none⟩=some (ag af a.m0)/\w'.cell? ⟨w.heap.size+1,2,none⟩=some (ag af a.m1)/\w'.cell? ⟨w.heap.size+1,3,none⟩=some (ag af a.m2)/\fV (w.heap.size+2) ((w.alloc (au (b.cells bq aM aC) 119)).alloc (au a.cells 134)) w'
def JB(b:BB)(bq aM aC:aj)(a:dS)(w:ak):Oj b bq aM aC a w ((w.alloc (au (b.cells bq aM aC) 119)).alloc (au a.cells 134)).drew:=by
 refine⟨?_,?_,?_,?_,?_,?_,(aB _ _).drew⟩<;>go_simp
def LP{b:BB}{bq aM aC:aj}{a:dS}{w w1 w2:ak}(h:Oj b bq aM aC a w w1)(hb:Bw w1 w2):Oj b bq aM aC a w w2:=by
 obtain⟨h1,h2,h3,h4,h5,h6,h7⟩:=h;have hs:=h7.size;simp at hs;refine⟨(hb.cell sO).trans h1,(hb.cell sO).trans h2,(hb.cell sO).trans h3,(hb.cell sO).trans h4,(hb.cell sO).trans h5,(hb.cell sO).trans h6,h7.trans (hb.mono oM)⟩
def ownsRow_base{w:ak}{B B':Nat}{e:a7}{size:Nat}{v:aj}{n:Nat}{xs:List aj}(h:w.ownsRow B e size v n xs)(hB:B'<=B):w.ownsRow B' e size v n xs:=
 ⟨h.1,h.2.imp id fun⟨g,cap,cur,h1,h2,h3⟩=>⟨g,cap,cur,h1,Nat.le_trans hB h2,h3⟩⟩
def cg{w:ak}{B:Nat}{b:BB}{bq aM aC:aj}{T:a7}(h:w.heap[B]?=some (au (b.cells bq aM aC) T (0,0))) :
  w.cell? ⟨B,0,none⟩=some (ag af b.room)/\w.cell? ⟨B,1,none⟩=some (ag af b.depth)/\w.cell? ⟨B,2,none⟩=some (ag af b.least)/\w.cell? ⟨B,3,none⟩=some (ag af b.minutes)/\w.cell? ⟨B,4,none⟩=some (ag af b.bS)/\w.cell? ⟨B,5,none⟩=some (ag af b.iU)/\w.cell? ⟨B,6,none⟩=some (ag af b.eI)/\
  w.cell? ⟨B,7,none⟩=some (ag af b.iO)/\w.cell? ⟨B,8,none⟩=some (ag af b.ll)/\w.cell? ⟨B,9,none⟩=some (ag af b.lm)/\w.cell? ⟨B,10,none⟩=some (ag af b.pl)/\w.cell? ⟨B,11,none⟩=some (ag af b.pm)/\w.cell? ⟨B,12,none⟩=some bq/\w.cell? ⟨B,13,none⟩=some aM/\w.cell? ⟨B,14,none⟩=some aC:=by
 unfold dP;simp only[h];exact⟨rfl,rfl,rfl,rfl,rfl,rfl,rfl,rfl,rfl,rfl,rfl,rfl,rfl,rfl,rfl⟩
def uK(w:ak)(o o':Obj):((w.alloc o).alloc o').heap[w.heap.size]?=some o:=by
 rw[aZ _ _ _ sM];exact az w o
def BB.Zd(b:BB)(used:Int)(p k:Nat)(hk:0<k):b.rj used p k=b.step used p k (b.rj used p (k-1)):=by
 cases k with
 |zero=>omega
 |succ k=>rfl
def BB.Ud(b:BB)(used:Int)(p k:Nat)(hk:0<k):b.js used p k=b.js used p (k-1)++[b.rj used p k]:=by
 cases k with
 |zero=>omega
 |succ k=>exact b.Iu used p k
def gU{n l m:Int}:aV n l m=true↔l<=n/\n<=m:=by simp[aV]
def II{n l m:Int}(h:aV n l m=false):¬(l<=n/\n<=m):=fun h'=>by rw[gU.2 h'] at h;cases h
section
variable{b:BB}{used n:Int}{p k:Nat}
theorem XI(h1:p.testBit k=false)(h2:aV k b.pl b.pm=false):b.step used p k n=max 0 (min n b.holds-used):=by
 unfold BB.step;rw[h1,if_neg (II h2)];simp
theorem XF(h1:p.testBit k=true)(h2:aV k b.pl b.pm=false):b.step used p k n=max 0 (min (n+b.iU) b.holds-used):=by
 unfold BB.step;rw[h1,if_neg (II h2)];simp
theorem XH(h1:p.testBit k=false)(h2:aV k b.pl b.pm=true):b.step used p k n=max 0 (min (n+b.iO) b.holds-used):=by
 unfold BB.step;rw[h1,if_pos (gU.1 h2)];simp
theorem XE(h1:p.testBit k=true)(h2:aV k b.pl b.pm=true):b.step used p k n=max 0 (min (n+b.iU+b.iO) b.holds-used):=by
 unfold BB.step;rw[h1,if_pos (gU.1 h2)];simp
end
def GR{w w':ak}{B:Nat}{e:a7}{size:Nat}{v:aj}{n:Nat}{xs:List aj}(h:w.ownsRow B e size v n xs)(hb:Bw w w'):w'.ownsRow B e size v n xs:=
 ⟨h.1,h.2.imp id fun⟨g,cap,cur,h1,h2,h3,h4⟩=>⟨g,cap,cur,h1,h2,by rw[hb.block g (ah.1 h3).1];exact h3,h4⟩⟩
def ZB{W:ak}{ad:Addr}{v:aj}(h:W.cell? ad=some v):∀j u,[v][j]?=some u->W.cell? (ad.add j)=some u:=by
 intro j u hj
 match j,hj with
 |0,hj=>simp at hj;subst hj;simpa [jP] using h
def Na(w:ak)(v:aj)(T:a7):(w.alloc (au #[v] T)).cell? ⟨w.heap.size,0,none⟩=some v:=by
 rw[World.cell?_alloc_at _ _ _ _ rfl];rfl
def Uz{v:aj}(h:v.oneCell'=true):∀u∈[v],u.oneCell'=true:=by
 intro u hu;simp at hu;subst hu;exact h
def zH(b:BB)(hb:b.Ok)(bq aM aC:aj)(a:dS)(ha:a.Ok)(p:Nat)(hp:p<512)(w:ak) :
  bm aq 114 #[aR (b.cells bq aM aC),aR a.cells,ag af p] w fun e w'=>∃v,e=aY v/\w'.ownsRow w.heap.size 3 1 v b.minutes.toNat ((b.js (b.bS+a.used) p b.minutes.toNat).map (aD af))/\Bw w w':=by
 have abo:=hb.bS;have xu:=hb.minutes;have afp:=hb.iU;have aeM:=hb.iO;have hroom:=hb.room;have hu:0<=a.used/\a.used<=697:=by have:=ha.leak;have:=ha.m0;have:=ha.m1;have:=ha.m2;unfold dS.used;omega
 have hw:IntKind.i64.wrap (b.bS+a.used)=b.bS+a.used:=fO _ oM oM;obtain⟨i0,hi,hz0,hz1,hz2⟩:=info_parts info3
 go_enter Tryz.func114,Tryz.ntmps114
 go_wp2
 go_region_held3 (fun w'=>w'.cell? ⟨w.heap.size,0,none⟩=some (ag af b.room)/\w'.cell? ⟨w.heap.size,4,none⟩=some (ag af b.bS)/\w'.cell? ⟨w.heap.size+1,0,none⟩=some (ag af a.leak)/\w'.cell? ⟨w.heap.size+1,1,none⟩=some (ag af a.m0)/\w'.cell? ⟨w.heap.size+1,2,none⟩=some (ag af a.m1)/\w'.cell? ⟨w.heap.size+1,3,none⟩=some (ag af a.m2)/\fV (w.heap.size+2) ((w.alloc (au (b.cells bq aM aC) 119)).alloc (au a.cells 134)) w')
  (first|exact JB b bq aM aC a w|exact LP (by assumption) (by assumption))
  (first|(go_at_call 165;refine(Lg a ha _).mono ?_;rintro e w1 ⟨rfl,hb1⟩))
 rename _/\_=>hS;obtain⟨-,-,-,-,-,-,hB1⟩:=hS
 have lJ:w1.heap[w.heap.size]?=some (au (b.cells bq aM aC) 119 (0,0)):=by
  rw[hB1.block _ oM];exact uK _ _ _
 obtain⟨-,-,-,hc3,-,-,-,-,-,-,-,-,-,-,-⟩:=cg lJ;clear hb1 hw;generalize ZK:b.bS+a.used=used at *;have hu2:0<=used/\used<=796:=oM;have HH:=ai ZK;clear ZK hu;go_wp2
 go_loopw [7,8,24] (fun v n i wr=>∃k:Nat,(k:Int)<=b.minutes+1/\i=ag af k/\n=ag af (b.rj used p (k-1))/\wr.ownsRow (w.heap.size+2) 3 1 v (k-1) ((b.js used p (k-1)).map (aD af))/\fV (w.heap.size+2) ((w.alloc (au (b.cells bq aM aC) 119)).alloc (au a.cells 134)) wr)
  (fun _ _ i _=>b.minutes.toNat+1-(intOf i).toNat)
 case atStart=>exact⟨0,oM,rfl,rfl,dG _ _ _ _,hB1⟩
 case round=>
  obtain⟨k,hk,rfl,rfl,hown,eh⟩:=hrel
  have lJ:wr.heap[w.heap.size]?=some (au (b.cells bq aM aC) 119 (0,0)):=by
   rw[eh.block _ oM];exact uK _ _ _
  have hcc:=cg lJ;have Vp:=b.BU hb hu2.1 p (k-1);have ai5:=b.wb hb;have hB:=eh.size;simp at hB
  by_cases hlt:(k:Int)<b.minutes+1
  .rcases Nat.eq_zero_or_pos k with rfl|jX
   .obtain⟨hc0,hc1,hc2,hc3,hc4,hc5,hc6,hc7,hc8,Sv,O4,ajp,ajo,Sw,Vk⟩:=hcc;go_wp2;go_roundw
    case rel=>exact⟨1,oM,rfl,rfl,hown,eh⟩
    case measure=>simp[intOf]
   have hst:=b.Zd used p k jX;have hpl:=b.Ud used p k jX;have hlen:(b.js used p (k-1)).length=k-1:=b.oV used p (k-1);have hne:((k:Int)==0)=false:=sO;generalize b.rj used p (k-1)=n at *;obtain⟨hc0,hc1,hc2,hc3,hc4,hc5,hc6,hc7,hc8,Sv,O4,ajp,ajo,Sw,Vk⟩:=hcc;have H1:=ai hst;have H2:=ai hpl;have H3:=ai hlen;clear hst hpl hlen;cases abV:p.testBit k<;>cases hin:aV k b.pl b.pm
   all_goals
    have HB:=ai abV;have HI:=ai hin;have HA:=Ke p k hp oM;rw[abV] at HA;have HAH:=ai HA;have IA:=qQ k b.pl b.pm;rw[hin] at IA;have IAH:=ai IA;clear abV hin HA IA
    go_wp2_with (first
     |(go_at_call 162;refine(HAH.out _).mono ?_;rintro e w' ⟨rfl,rfl⟩)
     |(go_at_call 138;refine(IAH.out _).mono ?_;rintro e w' ⟨rfl,rfl⟩)
     |(go_at_call 115;refine(IP b hb bq aM aC _).mono ?_;rintro e w2 ⟨rfl,hb2⟩;have hown2:=GR hown hb2;have aoQ:=hb2.size)
     |(at_builtin;refine wpList_append_own _ rfl (.tmp 59) (.tmp 61) 25 rfl (w.heap.size+2) 3 i0 (ag af 0) 1 8 ek hi hz0 hz1 hz2 rfl dC _ _ _ rfl (hown2.alloc _) ⟨w2.heap.size,0,none⟩ 1 1 [_] rfl rfl (ZB (Na _ _ _)) (Uz rfl) ?_ ?_ ?_ ?_))
   all_goals first
    |(simp;omega;done)
    |(unfold maxLen;omega;done)
    |(omega;done)
    |skip
   all_goals
    intro v' w3 hown' hgrow _;have hb3:=((eh.trans (hb2.mono oM)).alloc (by have:=hb2.size;omega) _).grown hgrow sO (fun j hj=>(hown2.lt j hj).1);clear hgrow;go_wp2;go_roundw
    case rel=>
     have hS:b.step used p k n=max 0 (min (n+(if p.testBit k then b.iU else 0)+(if aV k b.pl b.pm then b.iO else 0)) b.holds-used):=by
      first
       |(rw[XI HB.out HI.out,HB.out,HI.out];simp;done)
       |(rw[XF HB.out HI.out,HB.out,HI.out];simp;done)
       |(rw[XH HB.out HI.out,HB.out,HI.out];simp;done)
       |(rw[XE HB.out HI.out,HB.out,HI.out];simp;done)
     rw[HB.out,HI.out] at hS;simp only[if_true,bG,if_false,Int.add_zero] at hS;refine⟨k+1,oM,by go_num,?_,?_,hb3⟩
     .rw[Nat.add_sub_cancel,H1.out,hS]
      congr 1
      skip
      omega
     rw[Nat.add_sub_cancel,H2.out,H1.out,hS];have qT:k-1+1=k:=oM;rw[qT] at hown';rw[eF];refine(congrArg (fun y=>w3.ownsRow (w.heap.size+2) 3 1 v' k (List.map (aD af) (b.js used p (k-1))++[aD af y])) ?_).mp hown';clear hown'
     skip
     omega
    case measure=>simp[intOf];omega
  have s5:k=b.minutes.toNat+1:=oM;go_wp2
  go_ret
  refine⟨_,rfl,?_,?_⟩
  .rw[HH.out];have e:k-1=b.minutes.toNat:=oM;rw[e] at hown;exact ownsRow_base hown oM
  exact(dx.alloc sM _).trans (eh.mono oM)
def De{w w':ak}{B:Nat}{b:BB}{bq aM aC:aj}(h:w.heap[B]?=some (au (b.cells bq aM aC) 119 (0,0)))(hb:Bw w w'):(w'.cell? ⟨B,0,none⟩=some (ag af b.room)/\w'.cell? ⟨B,1,none⟩=some (ag af b.depth)/\w'.cell? ⟨B,2,none⟩=some (ag af b.least)/\w'.cell? ⟨B,3,none⟩=some (ag af b.minutes)/\w'.cell? ⟨B,4,none⟩=some (ag af b.bS)/\w'.cell? ⟨B,5,none⟩=some (ag af b.iU)/\w'.cell? ⟨B,6,none⟩=some (ag af b.eI)/\w'.cell? ⟨B,7,none⟩=some (ag af b.iO)/\w'.cell? ⟨B,8,none⟩=some (ag af b.ll)/\w'.cell? ⟨B,9,none⟩=some (ag af b.lm)/\w'.cell? ⟨B,10,none⟩=some (ag af b.pl)/\w'.cell? ⟨B,11,none⟩=some (ag af b.pm)/\w'.cell? ⟨B,12,none⟩=some bq/\w'.cell? ⟨B,13,none⟩=some aM/\w'.cell? ⟨B,14,none⟩=some aC)/\Bw w w':=by
 have hlt:B<w.heap.size:=(ah.1 h).1;have h':w'.heap[B]?=some (au (b.cells bq aM aC) 119 (0,0)):=by rw[hb.block B hlt];exact h
 exact⟨cg h',hb⟩
def Py{w w1 w':ak}{B:Nat}{b:BB}{bq aM aC:aj}(h:w.heap[B]?=some (au (b.cells bq aM aC) 119 (0,0)))(h1:Bw w w1)(h2:Bw w1 w'):(w'.cell? ⟨B,0,none⟩=some (ag af b.room)/\w'.cell? ⟨B,1,none⟩=some (ag af b.depth)/\w'.cell? ⟨B,2,none⟩=some (ag af b.least)/\w'.cell? ⟨B,3,none⟩=some (ag af b.minutes)/\w'.cell? ⟨B,4,none⟩=some (ag af b.bS)/\w'.cell? ⟨B,5,none⟩=some (ag af b.iU)/\w'.cell? ⟨B,6,none⟩=some (ag af b.eI)/\w'.cell? ⟨B,7,none⟩=some (ag af b.iO)/\w'.cell? ⟨B,8,none⟩=some (ag af b.ll)/\w'.cell? ⟨B,9,none⟩=some (ag af b.lm)/\w'.cell? ⟨B,10,none⟩=some (ag af b.pl)/\w'.cell? ⟨B,11,none⟩=some (ag af b.pm)/\w'.cell? ⟨B,12,none⟩=some bq/\w'.cell? ⟨B,13,none⟩=some aM/\w'.cell? ⟨B,14,none⟩=some aC)/\Bw w w':=
 De h (h1.trans (h2.mono h1.size))
def Nn(b:BB)(hb:b.Ok)(bq aM aC:aj)(n:Int)(hn:0<=n/\n<=999)(B:Nat)(w:ak)(lJ:w.heap[B]?=some (au (b.cells bq aM aC) 119 (0,0))) :
  bm aq 171 #[ag af n,eX (some ⟨B,0,none⟩)] w (Rt w (aI (decide (b.xg n<b.least)))):=by
 have HK:=ai lJ;clear lJ
 go_enter Tryz.func171,Tryz.ntmps171
 go_wp2
 go_region_held3 (fun w'=>(w'.cell? ⟨B,0,none⟩=some (ag af b.room)/\w'.cell? ⟨B,1,none⟩=some (ag af b.depth)/\w'.cell? ⟨B,2,none⟩=some (ag af b.least)/\w'.cell? ⟨B,3,none⟩=some (ag af b.minutes)/\w'.cell? ⟨B,4,none⟩=some (ag af b.bS)/\w'.cell? ⟨B,5,none⟩=some (ag af b.iU)/\w'.cell? ⟨B,6,none⟩=some (ag af b.eI)/\w'.cell? ⟨B,7,none⟩=some (ag af b.iO)/\w'.cell? ⟨B,8,none⟩=some (ag af b.ll)/\w'.cell? ⟨B,9,none⟩=some (ag af b.lm)/\w'.cell? ⟨B,10,none⟩=some (ag af b.pl)/\w'.cell? ⟨B,11,none⟩=some (ag af b.pm)/\w'.cell? ⟨B,12,none⟩=some bq/\w'.cell? ⟨B,13,none⟩=some aM/\w'.cell? ⟨B,14,none⟩=some aC)/\Bw w w')
  (first|exact De HK.out (aB _ _).drew|exact Py HK.out (And.right (by assumption)) (by assumption))
  (first|(go_at_call 139;refine(Ko b hb bq aM aC n hn _).mono ?_;rintro e w1 ⟨rfl,hb1⟩))
 rename _/\_=>hS;have hBw:=hS.2;clear hS;go_wp2
 go_ret
 exact⟨rfl,hBw⟩
end Go.Proofs.YtffladgmkiimjaaGreatDoor
namespace Go.Lag
open Go Go.ChangeMaps Go.MapKept
structure zh(P:aN)(T K E:a7)(key:Int->aj):Prop where
 map:P.underlying T=some (.map K E)
 plain:∃d,P.underlying K=some d/\∀a b,Instr.sameNow d a b=none
 check:∀(e:Bool) (u:Int) (w:ak),(Instr.checkKey e 10000 K (key u)).run P w=.ok () w
 eql:∀(u v:Int) (w:ak),(Op.equal K (key u) (key v)).run P w=.ok (decide (u=v)) w
 zero:∀w,(zeroValue E).run P w=.ok (aI false) w
def mR(w:ak)(b:Nat)(key:Int->aj)(us:List Int):Prop:=
 ∃es clock,w.heap[b]?=some (.map es clock)/\es.toList.map (fun e:uM=>(e.key,e.val))=us.map fun u=>(key u,aI true)
section
variable{P:aN}{T K E:a7}{key:Int->aj}
theorem wC(L:zh P T K E key)(u:Int)(w:ak):∀(us:List Int) (es:List uM) (i:Nat),es.map (fun e:uM=>(e.key,e.val))=us.map (fun u=>(key u,Value.bool true))->
  ∃r,(jC K (key u) es i).run P w=.ok r w/\(u∈us->∃j,r=some (j,aI true))/\(u ∉ us->r=none)
 |[],es,i,h=>by
  have:es=[]:=by simpa using h
  subst this;exact⟨none,rfl,by simp,by simp⟩
 |v::us,[],i,h=>by simp at h
 |v::us,e::es,i,h=>by
  simp only[cV,A2,iq] at h;obtain⟨⟨hk,hv⟩,ht⟩:=h;obtain⟨r,hr,h1,h2⟩:=wC L u w us es (i+1) ht;have hq:=L.eql u v w;rw[<-hk] at hq
  have e1:(jC K (key u) (e::es) i).run P w=if decide (u=v)=true then .ok (some (i,e.val)) w else(jC K (key u) es (i+1)).run P w:=by
   show((Op.equal K (key u) e.key).bind fun c=>if c=true then Sem.pure (some (i,e.val)) else jC K (key u) es (i+1)).run P w=_;rw[Sem.run_bind',hq]
   by_cases h:u=v<;>simp[h,Sem.run,Hy]
  by_cases huv:u=v
  .subst huv;refine⟨some (i,aI true),?_,fun _=>⟨i,rfl⟩,fun h=>absurd (List.mem_cons_self ..) h⟩;rw[e1,if_pos (by simp),hv]
  refine⟨r,?_,fun h=>h1 ((List.mem_cons.1 h).resolve_left huv),fun h=>h2 fun h'=>h (List.mem_cons_of_mem _ h')⟩;rw[e1,if_neg (by simpa using huv),hr]
theorem C5(L:zh P T K E key)(u:Int)(w:ak){us:List Int}{es:List uM}(h:es.map (fun e:uM=>(e.key,e.val))=us.map (fun u=>(key u,Value.bool true))) :
  ∃r,(DK K (key u) es).run P w=.ok r w/\(u∈us->∃j,r=some (j,aI true))/\(u ∉ us->r=none):=by
 obtain⟨d,hd,hs⟩:=L.plain;obtain⟨r,hr,h1,h2⟩:=wC L u w us es 0 h
 have hu:(ji K).run P w=.ok d w:=by
  exact run_underlying hd w
 have e1:(DK K (key u) es).run P w=(match Instr.findNow d (key u) es 0 with|some r=>Sem.pure r|none=>jC K (key u) es 0).run P w:=by
  show((ji K).bind _).run P w=_;rw[Sem.run_bind',hu];rfl
 cases es with
 |nil=>
  have:us=[]:=by simpa using h.symm
  subst this;exact⟨none,by rw[e1];rfl,by simp,by simp⟩
 |cons e es=>
  refine⟨r,?_,h1,h2⟩;rw[e1]
  have:Instr.findNow d (key u) (e::es) 0=none:=by
   simp only[Instr.findNow,hs]
  rw[this];exact hr
theorem Ey(L:zh P T K E key){w:ak}{b:Nat}{us:List Int}(h:mR w b key us)(u:Int) :
  (Instr.lookup T (.map (some b)) (key u) false).run P w=.ok (aI (decide (u∈us))) w:=by
 obtain⟨es,clock,hb,he⟩:=h;obtain⟨r,hr,h1,h2⟩:=C5 L u w he
 have hu:(ji T).run P w=.ok (.map K E) w:=by
  exact run_underlying L.map w
 have hck:=L.check es.isEmpty u w;have hz:=L.zero w;have hg:(getObj b).run P w=.ok (.map es clock) w:=by simp only[getObj,Sem.run,hb]
 unfold Instr.lookup;show((ji T).bind _).run P w=_;rw[Sem.run_bind',hu]
 by_cases hm:u∈us
 .obtain⟨j,rfl⟩:=h1 hm;simp[Hy,hg,hck,hr,hm]
 obtain rfl:=h2 hm;simp[Hy,hg,hck,hr,hm,hz]
theorem Ex(L:zh P T K E key){w:ak}{b:Nat}{us:List Int}(h:mR w b key us)(u:Int)(hu':u ∉ us) :
  ∃es clock,(A3 T (.map (some b)) (key u) (aI true)).run P w=.ok () (setBlock w b (.map es clock))/\mR (setBlock w b (.map es clock)) b key (us++[u]):=by
 obtain⟨es,clock,hb,he⟩:=h;obtain⟨r,hr,h1,h2⟩:=C5 L u w he;obtain rfl:=h2 hu'
 have hu:(ji T).run P w=.ok (.map K E) w:=by
  exact run_underlying L.map w
 have hck:=L.check false u w;refine⟨es.push { key:=key u,val:=aI true,born:=clock },clock+1,?_,?_⟩
 .unfold A3;show((ji T).bind _).run P w=_;rw[Sem.run_bind',hu];have hg:(getObj b).run P w=.ok (.map es clock) w:=by simp only[getObj,Sem.run,hb]
  simp[Hy,hg,hck,hr,setObj,Sem.run,hb,setBlock]
 refine⟨es.push { key:=key u,val:=aI true,born:=clock },clock+1,?_,by simp[he]⟩;have hlt:b<w.heap.size:=(ah.1 hb).1;simp[setBlock,hlt]
theorem mR.keep{w w':ak}{b:Nat}{us:List Int}(h:mR w b key us)(hk:w'.heap[b]?=w.heap[b]?):mR w' b key us:=by
 obtain⟨es,clock,hb,he⟩:=h;exact⟨es,clock,hk.trans hb,he⟩
theorem mR.lt{w:ak}{b:Nat}{us:List Int}(h:mR w b key us):b<w.heap.size:=by
 obtain⟨es,clock,hb,he⟩:=h;exact(ah.1 hb).1
theorem mR.below{w w':ak}{b:Nat}{us:List Int}(h:mR w b key us)(hb:RowKit.Below w.heap.size w w'):mR w' b key us:=h.keep (hb.block b h.lt)
theorem mR.made(w:ak)(key:Int->aj):mR (w.alloc (.map #[] 0)) w.heap.size key []:=⟨#[],0,(MapKept.heap_alloc w _).1,rfl⟩
theorem nD(w:ak){aP:Array cO}{rest:List cO}{o:cO}{a:j6}{Q:Exit->j6->ak->Prop}(hg:o.guard=none)(m x:bI)(t:a7)(hop:o.op=Op.lookup t m x false)
  (L:zh P t K E key) (b:Nat) {us:List Int} (hm:a.eval m=.map (some b)) (hown:mR w b key us) (u:Int) (hx:a.eval x=key u)
  (hK:wpList P aP Q rest (a.put o.dst (aI (decide (u∈us)))) w):wpList P aP Q (o::rest) a w:=by
 refine wpList_plain hg fun K' hK'=>?_;have hrun:=Ey L hown u;unfold Oper.wp;simp[bY,hop,hm,hx,hrun,Hy];exact hK' _ _ (by simpa using hK)
theorem rK(w:ak){aP:Array cO}{rest:List cO}{o:cO}{a:j6}{Q:Exit->j6->ak->Prop}(hg:o.guard=none)(m x v:bI)(t:a7)(hop:o.op=Op.mapUpdate t m x v)
  (L:zh P t K E key) (b:Nat) {us:List Int} (hm:a.eval m=.map (some b)) (hown:mR w b key us) (u:Int) (hx:a.eval x=key u) (hv:a.eval v=aI true) (hu:u ∉ us)
  (hK:∀w',mR w' b key (us++[u])->w.grownBy w' (some b)->wpList P aP Q rest (a.put o.dst aw) w'):wpList P aP Q (o::rest) a w:=by
 refine wpList_plain hg fun K' hK'=>?_;obtain⟨es,clock,hrun,vp⟩:=Ex L hown u hu;obtain⟨es0,akp,hb,_⟩:=hown;unfold Oper.wp;simp[bY,hop,hm,hx,hv,hrun,Hy];exact hK' _ _ (hK _ vp ⟨rfl,rfl,rfl,by simp[setBlock],fun i _ hi=>heap_setBlock_other hb _ (fun e=>hi (by rw[e]))⟩)
end
end Go.Lag
namespace Go.Proofs.YtffladgmkiimjaaGreatDoor
open Go.RowKit Go.Lag
def Reads(w:ak)(v:aj)(n:Nat)(xs:List aj):Prop:=
 (v=ae none 0 0/\n=0/\xs=[])\/∃g off cap,v=ae (some ⟨g,off,none⟩) n cap/\(n<=4294967296/\n<=cap)/\g<w.heap.size/\∀j u,xs[j]?=some u->w.cell? ⟨g,off+j,none⟩=some u
def Reads.below{w w':ak}{v:aj}{n:Nat}{xs:List aj}(h:Reads w v n xs)(hb:Bw w w'):Reads w' v n xs:=by
 rcases h with h|⟨g,off,cap,h1,h2,h3,h4⟩
 .exact cJ h
 exact .inr ⟨g,off,cap,h1,h2,bw h3 hb.size,fun j u hj=>(hb.cell (p:=⟨g,off+j,none⟩) h3).trans (h4 j u hj)⟩
def Reads.iA{w:ak}{B:Nat}{e:a7}{size:Nat}{v:aj}{n:Nat}{xs:List aj}(h:w.ownsRow B e size v n xs)(hn:n<=4294967296)(hs:xs.length=n*size):Reads w v n xs:=by
 have hc:=fun g hg=>h.cells (g:=g) hg;have hl:=h.lt;rcases h.2 with⟨rfl,rfl⟩|⟨g,cap,cur,rfl,h2⟩
 .refine cJ ⟨rfl,rfl,by simpa using hs⟩
 refine .inr ⟨g,0,cap,rfl,⟨hn,h2.2.2.1⟩,(hl g rfl).2,fun j u hj=>?_⟩;have:=hc g rfl j u hj;cases j<;>simpa [jP] using this
def ij(b:BB):List Int->Nat->Int
 |[],_=>-1
 |n::r,k=>if b.xg n<b.least then k else ij b r (k+1)
def KA(b:BB)(xs:List Int)(k:Nat)(hk:k<xs.length):ij b (xs.drop k) k=if b.xg xs[k]<b.least then(k:Int) else ij b (xs.drop (k+1)) (k+1):=by
 rw[dW hk];rfl
def Nq(b:BB)(xs:List Int):ij b (xs.drop xs.length) xs.length = -1:=by simp[ij]
def Ga(b:BB):∀(xs:List Int) (k:Nat),-1<=ij b xs k/\ij b xs k<=k+xs.length:=by
 intro xs
 induction xs with
 |nil=>intro k;simp only[ij];constructor<;>simp<;>omega
 |cons n r ih=>
  intro k;simp only[ij];have:=ih (k+1);split
  .simp;omega
  simp at this ⊢;omega
def J1(b:BB)(hb:b.Ok)(bq aM aC:aj)(xs:List Int)(NH:∀x∈xs,0<=x/\x<=999)(hlen:xs.length<=1000)(v:aj)(B:Nat)(w:ak)(hv:Reads w v xs.length (xs.map (aD af)))
  (lJ:w.heap[B]?=some (au (b.cells bq aM aC) 119 (0,0))) :
  bm aq 170 #[v,.func (.func 171) #[] #[eX (some ⟨B,0,none⟩)]] w (Rt w (ag af (ij b xs 0))):=by
 have HK:=ai lJ;clear lJ;rcases hv with⟨rfl,hn,hx0⟩|⟨g,off,cap,rfl,hn,hg,hc⟩
 .obtain rfl:xs=[]:=by simpa using hx0
  clear hx0 hn
  go_enter Tryz.func170,Tryz.ntmps170
  go_wp2
  go_loopw [8] (fun i wr=>i=ag af 0/\Bw w wr) (fun _ _=>0)
  case atStart=>exact⟨rfl,aB _ _⟩
  case round=>
   obtain⟨rfl,eh⟩:=hrel;go_wp2
   go_ret
   exact⟨rfl,eh⟩
 have HC:=ai hc;clear hc;generalize hL:xs.length=L at *;have HL:=ai hL;clear hL
 go_enter Tryz.func170,Tryz.ntmps170
 go_wp2
 go_loopw [5,8] (fun _ i wr=>∃k:Nat,k<=L/\i=ag af k/\ij b xs 0=ij b (xs.drop k) k/\Bw w wr) (fun _ i _=>L-(intOf i).toNat)
 case atStart=>exact⟨0,oM,rfl,rfl,aB _ _⟩
 case round=>
  obtain⟨k,hk,rfl,lK,eh⟩:=hrel;have hB1:=eh.size
  by_cases hlt:k<L
  .have jY:k<xs.length:=by rw[HL.out];exact hlt
   have hcell:wr.cell? ⟨g,off+k,none⟩=some (ag af xs[k]):=(eh.cell (p:=⟨g,off+k,none⟩) hg).trans (HC.out k _ (by simp[jY]))
   have lJ:wr.heap[B]?=some (au (b.cells bq aM aC) 119 (0,0)):=by
    rw[eh.block B (ah.1 HK.out).1];exact HK.out
   have hx:=NH xs[k] (bQ jY);have hT:=Nn b hb bq aM aC xs[k] hx B wr lJ;have hst:=KA b xs k jY;rw[hst] at lK;clear hst;generalize xs[k]=x at *
   by_cases hd:b.xg x<b.least
   .rw[if_pos hd] at lK;rw[decide_eq_true hd] at hT;have HB:=ai lK;have HT:=ai hT;clear lK hT hd lJ
    go_wp2_with (go_at_call 171;refine HT.out.mono ?_;rintro e w2 ⟨rfl,hb2⟩)
    go_ret
    exact⟨gR HB.out.symm,eh.trans (hb2.mono hB1)⟩
   rw[if_neg hd] at lK;rw[decide_eq_false hd] at hT;have HB:=ai lK;have HT:=ai hT;clear lK hT hd lJ
   go_wp2_with (go_at_call 171;refine HT.out.mono ?_;rintro e w2 ⟨rfl,hb2⟩)
   go_roundw
   case rel=>exact⟨k+1,oM,by go_num,HB.out,eh.trans (hb2.mono hB1)⟩
   case measure=>simp[intOf];omega
  obtain rfl:k=L:=oM;have e1:ij b xs 0 = -1:=by rw[lK,<-HL.out];exact Nq b xs
  have HE:=ai e1;clear e1 lK;go_wp2
  go_ret
  exact⟨gR HE.out.symm,eh⟩
def BB.bad(b:BB)(used:Int)(p:Nat):Int:=1+ij b (b.js used p b.minutes.toNat) 0
def Kz(b:BB)(hb:b.Ok)(bq aM aC:aj)(a:dS)(ha:a.Ok)(p:Nat)(hp:p<512)(w:ak) :
  bm aq 118 #[aR (b.cells bq aM aC),aR a.cells,ag af p] w (Rt w (ag af (b.bad (b.bS+a.used) p))):=by
 have xu:=hb.minutes;have abo:=hb.bS;have hu:0<=b.bS+a.used:=by have:=ha.leak;have:=ha.m0;have:=ha.m1;have:=ha.m2;unfold dS.used;omega
 have Ae:=Ga b (b.js (b.bS+a.used) p b.minutes.toNat) 0;rw[b.oV] at Ae;have Vp:=b.BU hb hu p
 go_enter Tryz.func118,Tryz.ntmps118
 go_wp2_with fail
 refine(zH b hb bq aM aC a ha p hp _).mono ?_;rintro e w1 ⟨v,rfl,hown,hb1⟩
 have lJ:w1.heap[w.heap.size]?=some (au (b.cells bq aM aC) 119 (0,0)):=by
  rw[hb1.block _ sO];exact uK _ _ _
 have CW:=Reads.iA hown oM (by simp[b.oV])
 have hI:=J1 b hb bq aM aC (b.js (b.bS+a.used) p b.minutes.toNat) (fun x hx=>by
  obtain⟨i,_,rfl⟩:=List.mem_map.1 hx
  have:=Vp (i+1);omega) (by rw[b.oV];omega) v w.heap.size w1 (by rw[b.oV];exact CW) lJ
 have HI:=ai hI;have hs1:=hb1.size;simp at hs1;clear hI lJ CW hown Vp
 go_wp2_with (go_at_call 170;refine HI.out.mono ?_;rintro e w2 ⟨rfl,hb2⟩)
 go_ret
 exact⟨gR rfl,((dx.alloc sM _).trans (hb1.mono sO)).trans (hb2.mono oM)⟩
def Bh(u:Int):Value:=aR #[ag af u,ag af 0,ag af 0,ag af 0]
def acC(u v:Int)(w:ak):(Op.equal 134 (Bh u) (Bh v)).run aq w=.ok (decide (u=v)) w:=by
 have ht:Tryz.prog.underlying 134=some (.struct (Tryz.prog.fieldsOf 134)):=kQ;have hp:Tryz.prog.stoodInHeld 134=false:=kQ
 have hf:(Tryz.prog.fieldsOf 134).toList=[{ name:= "leak",type:=3,offset:=0,embedded:=false,tag:= "",pkgPath:= "lagan/bell",byteOffset:=0 },{ name:= "men",type:=132,offset:=1,embedded:=false,tag:= "",pkgPath:= "lagan/bell",byteOffset:=8 }]:=kQ;have p1:∀x w,(part 3 #[ag af x,ag af 0,ag af 0,ag af 0] 0).run aq w=.ok (ag af x) w:=fun _ _=>by kernel_rfl
 have p2:∀x w,(part 132 #[ag af x,ag af 0,ag af 0,ag af 0] 1).run aq w=.ok (aR #[ag af 0,ag af 0,ag af 0]) w:=fun _ _=>by kernel_rfl
 have e1:(Op.equalIn 9999 3 (ag af u) (ag af v)).run aq w=.ok (u==v) w:=kQ;have e2:(Op.equalIn 9999 132 (aR #[ag af 0,ag af 0,ag af 0]) (aR #[ag af 0,ag af 0,ag af 0])).run aq w=.ok true w:=kQ;unfold Op.equal Bh;rw[show Op.maxDepth=9999+1 from rfl,run_equalIn_struct w 9999 134 _ _ ht hp,hf]
 have n1:("leak" : String)≠ "_":=dC
 have n2:("men" : String)≠ "_":=dC;simp only[Op.eqFields,n1,n2,ne_eq,not_false_eq_true,if_true,mI,p1,p2,e1,h_]
 by_cases h:u=v
 .subst h;simp only[beq_self_eq_true,vH,bG,if_false];simp[p2 u w,e2]
 simp[h]
def Ek:zh aq 177 134 4 Bh:=
 ⟨Tryz.underlying177,⟨_,Tryz.underlying134,fun _ _=>rfl⟩,fun _ _ _=>by kernel_rfl,acC,fun _=>by kernel_rfl⟩
abbrev BB.open(b:BB)(bq aM aC all:aj):Array Value:=b.cells bq aM aC++#[all]
def rowOf(l:List dS):List Value:=l.flatMap fun a=>a.cells.toList
def Rv(l:List dS):(rowOf l).length=4*l.length:=by
 induction l with
 |nil=>rfl
 |cons a l ih=>simp[rowOf,dS.cells] at ih ⊢;omega
def tF:∀(l:List dS) (k j:Nat) (hk:k<l.length),j<4->(rowOf l)[4*k+j]?=l[k].cells[j]?
 |[],k,j,hk,_=>by simp at hk
 |a::l,0,j,_,hj=>by
  have:rowOf (a::l)=a.cells.toList++rowOf l:=rfl;rw[this,AW sO];simp
 |a::l,k+1,j,hk,hj=>by
  have e:rowOf (a::l)=a.cells.toList++rowOf l:=rfl;rw[e,List.getElem?_append_right sO];have:=tF l k j (by simpa using hk) hj;simp only[List.getElem_cons_succ];rw[<-this]
  congr 1
  simp;omega
def BB.sure(b:BB)(all:List dS)(p:Nat):Bool:=all.all fun a=>decide (b.bad (b.bS+a.used) p<=0)
def Q_(b:BB)(all:List dS)(p k:Nat)(hk:k<all.length):b.sure (all.drop k) p=(decide (b.bad (b.bS+all[k].used) p<=0)&&b.sure (all.drop (k+1)) p):=by
 rw[dW hk];rfl
def Reads.cell{w:ak}{g off n cap:Nat}{l:List dS}(hc:∀j u,(rowOf l)[j]?=some u->w.cell? ⟨g,off+j,none⟩=some u)(k:Nat)(hk:k<l.length) :
  w.cell? ⟨g,off+k*4,none⟩=some (ag af l[k].leak)/\w.cell? ⟨g,off+k*4+1,none⟩=some (ag af l[k].m0)/\w.cell? ⟨g,off+k*4+2,none⟩=some (ag af l[k].m1)/\w.cell? ⟨g,off+k*4+3,none⟩=some (ag af l[k].m2):=
 ⟨hc (k*4) _ (by have:=tF l k 0 hk oM;rw[vD];simpa using this),hc (k*4+1) _ (by rw[vD,tF l k 1 hk oM];rfl),hc (k*4+2) _ (by rw[vD,tF l k 2 hk oM];rfl),hc (k*4+3) _ (by rw[vD,tF l k 3 hk oM];rfl)⟩
def jJ{w:ak}{B:Nat}{b:BB}{bq aM aC all:aj}{T:a7}(h:w.heap[B]?=some (au (b.open bq aM aC all) T (0,0))) :
  w.cell? ⟨B,0,none⟩=some (ag af b.room)/\w.cell? ⟨B,1,none⟩=some (ag af b.depth)/\w.cell? ⟨B,2,none⟩=some (ag af b.least)/\w.cell? ⟨B,3,none⟩=some (ag af b.minutes)/\w.cell? ⟨B,4,none⟩=some (ag af b.bS)/\w.cell? ⟨B,5,none⟩=some (ag af b.iU)/\w.cell? ⟨B,6,none⟩=some (ag af b.eI)/\
  w.cell? ⟨B,7,none⟩=some (ag af b.iO)/\w.cell? ⟨B,8,none⟩=some (ag af b.ll)/\w.cell? ⟨B,9,none⟩=some (ag af b.lm)/\w.cell? ⟨B,10,none⟩=some (ag af b.pl)/\w.cell? ⟨B,11,none⟩=some (ag af b.pm)/\w.cell? ⟨B,12,none⟩=some bq/\w.cell? ⟨B,13,none⟩=some aM/\w.cell? ⟨B,14,none⟩=some aC/\w.cell? ⟨B,15,none⟩=some all:=by
 unfold dP;simp only[h];exact⟨rfl,rfl,rfl,rfl,rfl,rfl,rfl,rfl,rfl,rfl,rfl,rfl,rfl,rfl,rfl,rfl⟩
def qA{w:ak}{B:Nat}{a:dS}{T:a7}(h:w.heap[B]?=some (au a.cells T (0,0))) :
  w.cell? ⟨B,0,none⟩=some (ag af a.leak)/\w.cell? ⟨B,1,none⟩=some (ag af a.m0)/\w.cell? ⟨B,2,none⟩=some (ag af a.m1)/\w.cell? ⟨B,3,none⟩=some (ag af a.m2):=by
 unfold dP;simp only[h];exact⟨rfl,rfl,rfl,rfl⟩
def Eg{w wr w2 w3:ak}{X O O2:Obj}(h0:wr.heap[w.heap.size]?=some X)(hsz:w.heap.size+1<wr.heap.size)(hb2:fV (wr.alloc O).heap.size (wr.alloc O) w2)(hg:(w2.alloc O2).grownBy w3 (some (w.heap.size+1))) :
  w3.heap[w.heap.size]?=some X/\w3.heap[wr.heap.size]?=some O:=by
 have hs2:=hb2.size;simp at hs2;constructor
 .rw[hg.block _ sO sM,aZ _ _ _ oM,hb2.block _ sO,aZ _ _ _ oM];exact h0
 rw[hg.block _ sO sO,aZ _ _ _ oM,hb2.block _ sM];exact az wr O
end Go.Proofs.YtffladgmkiimjaaGreatDoor
namespace Go.Lag
open Go Go.RowKit
def mR.alloc{w:ak}{b:Nat}{key:Int->aj}{us:List Int}(h:mR w b key us)(o:Obj):mR (w.alloc o) b key us:=h.keep (by
 have:=(MapKept.heap_alloc w o).2 b;exact aZ _ _ _ h.lt)
end Go.Lag
namespace Go.Proofs.YtffladgmkiimjaaGreatDoor
open Go.RowKit Go.Lag
def yo(b:BB)(hb:b.Ok)(bq aM aC v:aj)(l:List dS)(hl:∀a∈l,a.Ok)(p:Nat)(hp:p<512)(w:ak)(hv:Reads w v l.length (rowOf l)) :
  bm aq 105 #[aR (b.open bq aM aC v),ag af p] w (Rt w (aI (b.sure l p))):=by
 rcases hv with⟨rfl,hn,hx0⟩|⟨g,off,cap,rfl,hn,hg,hc⟩
 .obtain rfl:l=[]:=a8 hn;clear hn hx0;have hmm:=@run_makeMap aq
  go_enter Tryz.func105,Tryz.ntmps105
  go_wp2
  go_loopw [13] (fun i wr=>i=ag af 0/\Bw w wr) (fun _ _=>0)
  case atStart=>exact⟨rfl,dx.alloc sM _⟩
  case round=>
   obtain⟨rfl,eh⟩:=hrel;go_wp2
   go_ret
   exact⟨rfl,eh⟩
 have HC:=ai hc;clear hc;generalize hL:l.length=L at *;have HL:=ai hL;clear hL;have hmm:=@run_makeMap aq
 go_enter Tryz.func105,Tryz.ntmps105
 go_wp2;clear hmm
 go_loopw [7,8,13] (fun _ _ i wr=>∃(k:Nat) (us:List Int),k<=L/\i=ag af k/\mR wr (w.heap.size+1) Bh us/\(∀u∈us,b.bad (b.bS+u) p<=0)/\b.sure l p=b.sure (l.drop k) p/\fV (w.heap.size+1) (w.alloc (au (b.open bq aM aC (ae (some ⟨g,off,none⟩) L cap)) 122)) wr) (fun _ _ i _=>L-(intOf i).toNat)
 case atStart=>exact⟨0,[],oM,rfl,by have:=mR.made (w.alloc (au (b.open bq aM aC (ae (some ⟨g,off,none⟩) L cap)) 122)) Bh;simpa using this,sM,rfl,(aB _ _).alloc sM _⟩
 case round=>
  obtain⟨k,us,hk,rfl,vp,hus,Mm,eh⟩:=hrel
  by_cases hlt:k<L
  .have jY:k<l.length:=by rw[HL.out];exact hlt
   have DY:∀o,wr.cell? ⟨g,o,none⟩=w.cell? ⟨g,o,none⟩:=fun o=>(eh.cell (p:=⟨g,o,none⟩) (by show g<_;omega)).trans (eD _ _ _ hg);obtain⟨hc0,hc1,hc2,hc3⟩:=Reads.cell (w:=wr) (cap:=cap) (n:=L) (fun j u hj=>(DY _).trans (HC.out j u hj)) k jY;clear DY;have ha:=hl l[k] (bQ jY);have Z1:=Q_ b l p k jY;rw[Z1] at Mm;clear Z1;generalize l[k]=a at *
   have lJ:wr.heap[w.heap.size]?=some (au (b.open bq aM aC (ae (some ⟨g,off,none⟩) L cap)) 122 (0,0)):=by
    rw[eh.block _ oM];exact az w _
   have hsz:=eh.size;simp at hsz;have HS:=ai Mm;have HU:=ai hus;clear Mm hus;have hU:=Lg a ha
   by_cases hm:a.used∈us
   .have lK:=HU.out a.used hm
    go_wp2_with (first
     |(go_at_call 165;refine(hU _).mono ?_;rintro e w2 ⟨rfl,hb2⟩;have CV:=(vp.alloc _).below hb2)
     |(at_lookup;refine nD _ rfl _ _ 177 rfl Ek (w.heap.size+1) rfl (CV.alloc _) a.used rfl ?_))
    have hs2:=hb2.size;simp at hs2;go_roundw
    case rel=>
     exact⟨k+1,us,oM,by go_num,CV.alloc _,HU.out,by rw[HS.out,decide_eq_true lK];rfl,((eh.alloc oM _).trans (hb2.mono sO)).alloc oM _⟩
    case measure=>simp[intOf];omega
   have hB:=Kz b hb bq aM aC a ha p hp;obtain⟨bd,Ae⟩:∃bd,b.bad (b.bS+a.used) p=bd:=⟨_,rfl⟩
   simp only[Ae] at hB;have HBD:=ai Ae;clear Ae
   by_cases lK:bd<=0
   .have ux:decide (0<bd)=false:=sO;have HB:=ai lK;clear lK
    go_wp2_with (first
     |(go_at_call 165;refine(hU _).mono ?_;rintro e w2 ⟨rfl,hb2⟩;have CV:=(vp.alloc _).below hb2)
     |(at_lookup;refine nD _ rfl _ _ 177 rfl Ek (w.heap.size+1) rfl (CV.alloc _) a.used rfl ?_)
     |(at_mapUpdate;refine rK _ rfl _ _ _ 177 rfl Ek (w.heap.size+1) rfl (CV.alloc _) a.used rfl rfl hm ?_;intro w3 Qs J_;obtain⟨hxx,hyy⟩:=Eg lJ vp.lt hb2 J_;have hx3:=jJ hxx;have ha3:=qA (a:=a) hyy;obtain⟨x0,x1,x2,x3,x4,x5,x6,x7,x8,x9,qD,qC,rH,rz,rB,x15⟩:=hx3;obtain⟨y0,y1,y2,y3⟩:=ha3)
     |(go_at_call 118;refine(hB _).mono ?_;rintro e w4 ⟨rfl,hb4⟩))
    have hlt3:=vp.lt;have hs2:=hb2.size;have hs4:=hb4.size;have hs3:=Qs.lt;have hg3:=J_.size;simp at hs2 hg3;have QB:=(((eh.alloc oM _).trans (hb2.mono sO)).alloc oM _).grown J_ sO (fun j e=>by cases e;exact aO _);have hB4:=QB.trans (hb4.mono oM);clear QB J_;go_roundw
    case rel=>
     refine⟨k+1,us++[a.used],oM,by go_num,Qs.below hb4,fun u hu=>?_,?_,hB4⟩
     .rcases List.mem_append.1 hu with h|h
      .exact HU.out u h
      rw[List.mem_singleton.1 h,HBD.out];exact HB.out
     rw[HS.out,HBD.out,decide_eq_true HB.out];rfl
    case measure=>simp[intOf];omega
   have ux:decide (0<bd)=true:=sO;have HB:=ai lK;clear lK
   go_wp2_with (first
    |(go_at_call 165;refine(hU _).mono ?_;rintro e w2 ⟨rfl,hb2⟩;have CV:=(vp.alloc _).below hb2)
    |(at_lookup;refine nD _ rfl _ _ 177 rfl Ek (w.heap.size+1) rfl (CV.alloc _) a.used rfl ?_)
    |(at_mapUpdate;refine rK _ rfl _ _ _ 177 rfl Ek (w.heap.size+1) rfl (CV.alloc _) a.used rfl rfl hm ?_;intro w3 Qs J_;obtain⟨hxx,hyy⟩:=Eg lJ vp.lt hb2 J_;have hx3:=jJ hxx;have ha3:=qA (a:=a) hyy;obtain⟨x0,x1,x2,x3,x4,x5,x6,x7,x8,x9,qD,qC,rH,rz,rB,x15⟩:=hx3;obtain⟨y0,y1,y2,y3⟩:=ha3)
    |(go_at_call 118;refine(hB _).mono ?_;rintro e w4 ⟨rfl,hb4⟩))
   have hlt3:=vp.lt;have hs2:=hb2.size;have hs4:=hb4.size;have hs3:=Qs.lt;have hg3:=J_.size;simp at hs2 hg3;have QB:=(((eh.alloc oM _).trans (hb2.mono sO)).alloc oM _).grown J_ sO (fun j e=>by cases e;exact aO _);have hB4:=QB.trans (hb4.mono oM);clear QB J_
   go_ret
   exact⟨qI (by rw[HS.out,HBD.out,decide_eq_false (by have:=HB.out;omega)];rfl),dx.trans (hB4.mono oM)⟩
  obtain rfl:k=L:=oM;have e1:b.sure l p=true:=by rw[Mm,<-HL.out,List.drop_length];rfl
  have HE:=ai e1;clear e1 Mm;go_wp2
  go_ret
  exact⟨qI HE.out.symm,dx.trans (eh.mono oM)⟩
structure Mk where
 minute:Int
 lo:Int
 hi:Int
deriving DecidableEq
abbrev Mk.cells(m:Mk):Array Value:=#[ag af m.minute,ag af m.lo,ag af m.hi]
def dV(l:List Mk):List Value:=l.flatMap fun m=>m.cells.toList
def qo(l:List Mk):(dV l).length=3*l.length:=by
 induction l with
 |nil=>rfl
 |cons a l ih=>simp[dV] at ih ⊢;omega
def nu:∀(l:List Mk) (k j:Nat) (hk:k<l.length),j<3->(dV l)[3*k+j]?=l[k].cells[j]?
 |[],k,j,hk,_=>by simp at hk
 |a::l,0,j,_,hj=>by
  have:dV (a::l)=a.cells.toList++dV l:=rfl;rw[this,AW sO];simp
 |a::l,k+1,j,hk,hj=>by
  have e:dV (a::l)=a.cells.toList++dV l:=rfl;rw[e,List.getElem?_append_right sO];have:=nu l k j (by simpa using hk) hj;simp only[List.getElem_cons_succ];rw[<-this]
  congr 1
  simp;omega
def xd{w:ak}{g off:Nat}{l:List Mk}(hc:∀j u,(dV l)[j]?=some u->w.cell? ⟨g,off+j,none⟩=some u)(k:Nat)(hk:k<l.length) :
  w.cell? ⟨g,off+k*3,none⟩=some (ag af l[k].minute)/\w.cell? ⟨g,off+k*3+1,none⟩=some (ag af l[k].lo)/\w.cell? ⟨g,off+k*3+2,none⟩=some (ag af l[k].hi):=
 ⟨hc (k*3) _ (by have:=nu l k 0 hk oM;rw[vD];simpa using this),hc (k*3+1) _ (by rw[vD,nu l k 1 hk oM];rfl),hc (k*3+2) _ (by rw[vD,nu l k 2 hk oM];rfl)⟩
def JQ(n m:Int):(if n<m then m else n)=max n m:=oM
def zg(ss:List Int):Int:=ss.foldl (fun n k=>max n (k+1)) 1
def DF(n:Int)(ms:List Mk):Int:=ms.foldl (fun n m=>max n (m.minute+1)) n
def dD(ss:List Int)(ms:List Mk):Int:=DF (zg ss) ms
def I4(ss:List Int)(k:Nat)(hk:k<ss.length):zg (ss.take (k+1))=max (zg (ss.take k)) (ss[k]+1):=by
 unfold zg;rw[bO hk,Cc];rfl
def I5(n:Int)(ms:List Mk)(k:Nat)(hk:k<ms.length):DF n (ms.take (k+1))=max (DF n (ms.take k)) (ms[k].minute+1):=by
 unfold DF;rw[bO hk,Cc];rfl
def Fx{α:Type}(f:α->Int)(hi:Int):∀(l:List α) (n:Int),(∀a∈l,f a+1<=hi)->n<=hi->n<=l.foldl (fun n k=>max n (f k+1)) n/\l.foldl (fun n k=>max n (f k+1)) n<=hi
 |[],n,_,h=>⟨Int.le_refl _,h⟩
 |a::l,n,h,hn=>by
  have h1:=Fx f hi l (max n (f a+1)) (fun b hb=>h b (by simp[hb])) (by have:=h a sM;omega);simp only[List.foldl_cons];omega
def AO(ss:List Int)(h:∀s∈ss,s<=8):1<=zg ss/\zg ss<=9:=Fx (fun k:Int=>k) 9 ss 1 (fun a ha=>by have:=h a ha;omega) oM
def Ky(n:Int)(hn:n<=9)(ms:List Mk)(h:∀s∈ms,s.minute<=8):n<=DF n ms/\DF n ms<=9:=Fx Mk.minute 9 ms n (fun a ha=>by have:=h a ha;omega) hn
def Tj(ss:List Int)(ms:List Mk)(hs:∀s∈ss,s<=8)(hm:∀s∈ms,s.minute<=8):1<=dD ss ms/\dD ss ms<=9:=by
 have h1:=AO ss hs;have h2:=Ky (zg ss) h1.2 ms hm;unfold dD;omega
def Ti(b:BB)(bq:aj)(w:ak) :
  bm aq 155 #[aR (b.cells bq (ae none 0 0) (ae none 0 0))] w (Rt w (ag af (dD [] []))):=by
 have HK:Hid ((w.alloc (au (b.cells bq (ae none 0 0) (ae none 0 0)) 119)).heap[w.heap.size]?=some (au (b.cells bq (ae none 0 0) (ae none 0 0)) 119 (0,0))):=ai (az w _)
 go_enter Tryz.func155,Tryz.ntmps155
 go_wp2
 go_loopw [3,5,12] (fun n _ i wr=>i=ag af 0/\n=ag af 1/\fV (w.heap.size+1) (w.alloc (au (b.cells bq (ae none 0 0) (ae none 0 0)) 119)) wr) (fun _ _ _ _=>0)
 case atStart=>exact⟨rfl,rfl,aB _ _⟩
 case round=>
  obtain⟨rfl,rfl,tQ⟩:=hrel;obtain⟨nb,J7⟩:∃nb:Int,zg []=nb:=⟨_,rfl⟩
  have abl:nb=1:=J7.symm;subst abl;have HNB:=ai J7;clear J7;have U9:(1:Int)<=9:=oM;obtain⟨x0,x1,x2,x3,x4,x5,x6,x7,x8,x9,qD,qC,rH,rz,rB⟩:=cg ((tQ.block w.heap.size oM).trans HK.out);have hw1:=tQ.size;simp at hw1;go_wp2;obtain⟨wo,Qr⟩:∃wo:ak,wo=wr:=⟨_,rfl⟩
  rw[<-Qr] at tQ ⊢;clear Qr
  go_loopw [3,7,25] (fun n _ i wq=>i=ag af 0/\n=ag af 1/\fV (w.heap.size+1) (w.alloc (au (b.cells bq (ae none 0 0) (ae none 0 0)) 119)) wq) (fun _ _ _ _=>0)
  case atStart=>exact⟨rfl,rfl,tQ⟩
  case round=>
   obtain⟨rfl,rfl,xr⟩:=hrel;go_wp2
   go_ret
   exact⟨gR (by rw[dD,HNB.out];rfl),dx.trans (xr.mono oM)⟩
def Tf(b:BB)(bq:aj)(w:ak)(ss:List Int)(nQ:∀s∈ss,1<=s/\s<=8)(gs os S cs:Nat)(hS:ss.length=S)(SB:S<=4294967296)(qU:gs<w.heap.size)(hcs:∀j u,(ss.map (aD af))[j]?=some u->w.cell? ⟨gs,os+j,none⟩=some u) :
  bm aq 155 #[aR (b.cells bq (ae (some ⟨gs,os,none⟩) S cs) (ae none 0 0))] w (Rt w (ag af (dD ss []))):=by
 have HS:=ai hS;have HCS:=ai hcs;have TG:=ai nQ;clear hS hcs nQ;have HK:Hid ((w.alloc (au (b.cells bq (ae (some ⟨gs,os,none⟩) S cs) (ae none 0 0)) 119)).heap[w.heap.size]?=some (au (b.cells bq (ae (some ⟨gs,os,none⟩) S cs) (ae none 0 0)) 119 (0,0))):=ai (az w _)
 go_enter Tryz.func155,Tryz.ntmps155
 go_wp2
 go_loopw [3,5,12] (fun n _ i wr=>∃k:Nat,k<=S/\i=ag af k/\n=ag af (zg (ss.take k))/\fV (w.heap.size+1) (w.alloc (au (b.cells bq (ae (some ⟨gs,os,none⟩) S cs) (ae none 0 0)) 119)) wr) (fun _ _ i _=>S-(intOf i).toNat)
 case atStart=>exact⟨0,oM,rfl,rfl,aB _ _⟩
 case round=>
  obtain⟨k,hk,rfl,rfl,tQ⟩:=hrel
  by_cases hlt:k<S
  .have jY:k<ss.length:=by rw[HS.out];exact hlt
   have hcell:wr.cell? ⟨gs,os+k,none⟩=some (ag af ss[k]):=(tQ.cell (p:=⟨gs,os+k,none⟩) (by show gs<_;omega)).trans ((eD _ _ _ qU).trans (HCS.out k _ (by simp[jY])));have hx:=TG.out ss[k] (bQ jY);have hst:=I4 ss k jY;have Ae:=AO (ss.take k) (fun s hs=>(TG.out s (eU hs)).2);generalize ss[k]=x at *;generalize zg (ss.take k)=n at *;have HST:=ai hst;clear hst;go_wp2;go_roundw
   case rel=>exact⟨k+1,oM,by go_num,by rw[HST.out,JQ],tQ⟩
   case measure=>simp[intOf];omega
  obtain rfl:S=k:=oM;have Ae:=AO (ss.take S) (fun s hs=>(TG.out s (eU hs)).2);have sY:ss.take S=ss:=di (by rw[HS.out];exact aO _);rw[sY] at Ae ⊢;clear sY;obtain⟨nb,J7⟩:∃nb:Int,zg ss=nb:=⟨_,rfl⟩
  rw[J7] at Ae ⊢;have HNB:=ai J7;clear J7;have U9:nb<=9:=Ae.2;have aiJ:1<=nb:=Ae.1;clear Ae;obtain⟨x0,x1,x2,x3,x4,x5,x6,x7,x8,x9,qD,qC,rH,rz,rB⟩:=cg ((tQ.block w.heap.size oM).trans HK.out);have hw1:=tQ.size;simp at hw1;go_wp2;obtain⟨wo,Qr⟩:∃wo:ak,wo=wr:=⟨_,rfl⟩
  rw[<-Qr] at tQ ⊢;clear Qr
  go_loopw [3,7,25] (fun n _ i wq=>i=ag af 0/\n=ag af nb/\fV (w.heap.size+1) (w.alloc (au (b.cells bq (ae (some ⟨gs,os,none⟩) S cs) (ae none 0 0)) 119)) wq) (fun _ _ _ _=>0)
  case atStart=>exact⟨rfl,rfl,tQ⟩
  case round=>
   obtain⟨rfl,rfl,xr⟩:=hrel;go_wp2
   go_ret
   exact⟨gR (by rw[dD,HNB.out];rfl),dx.trans (xr.mono oM)⟩
def Tg(b:BB)(bq:aj)(w:ak)(ms:List Mk)(Ms:∀m∈ms,1<=m.minute/\m.minute<=8)(gm om M cm:Nat)(hM:ms.length=M)(hM2:M<=4294967296)(YD:gm<w.heap.size)(hcm:∀j u,(dV ms)[j]?=some u->w.cell? ⟨gm,om+j,none⟩=some u) :
  bm aq 155 #[aR (b.cells bq (ae none 0 0) (ae (some ⟨gm,om,none⟩) M cm))] w (Rt w (ag af (dD [] ms))):=by
 have HM:=ai hM;have QV:=ai hcm;have HMM:=ai Ms;clear hM hcm Ms;have HK:Hid ((w.alloc (au (b.cells bq (ae none 0 0) (ae (some ⟨gm,om,none⟩) M cm)) 119)).heap[w.heap.size]?=some (au (b.cells bq (ae none 0 0) (ae (some ⟨gm,om,none⟩) M cm)) 119 (0,0))):=ai (az w _)
 go_enter Tryz.func155,Tryz.ntmps155
 go_wp2
 go_loopw [3,5,12] (fun n _ i wr=>i=ag af 0/\n=ag af 1/\fV (w.heap.size+1) (w.alloc (au (b.cells bq (ae none 0 0) (ae (some ⟨gm,om,none⟩) M cm)) 119)) wr) (fun _ _ _ _=>0)
 case atStart=>exact⟨rfl,rfl,aB _ _⟩
 case round=>
  obtain⟨rfl,rfl,tQ⟩:=hrel;obtain⟨nb,J7⟩:∃nb:Int,zg []=nb:=⟨_,rfl⟩
  have abl:nb=1:=J7.symm;subst abl;have HNB:=ai J7;clear J7;have U9:(1:Int)<=9:=oM;obtain⟨x0,x1,x2,x3,x4,x5,x6,x7,x8,x9,qD,qC,rH,rz,rB⟩:=cg ((tQ.block w.heap.size oM).trans HK.out);have hw1:=tQ.size;simp at hw1;go_wp2;obtain⟨wo,Qr⟩:∃wo:ak,wo=wr:=⟨_,rfl⟩
  rw[<-Qr] at tQ ⊢;clear Qr
  go_loopw [3,7,25] (fun n _ i wq=>∃k:Nat,k<=M/\i=ag af k/\n=ag af (DF 1 (ms.take k))/\fV (w.heap.size+1) (w.alloc (au (b.cells bq (ae none 0 0) (ae (some ⟨gm,om,none⟩) M cm)) 119)) wq) (fun _ _ i _=>M-(intOf i).toNat)
  case atStart=>exact⟨0,oM,rfl,rfl,tQ⟩
  case round=>
   obtain⟨k,hk,rfl,rfl,xr⟩:=hrel
   by_cases hlt:k<M
   .have jY:k<ms.length:=by rw[HM.out];exact hlt
    have DY:∀o,wr.cell? ⟨gm,o,none⟩=w.cell? ⟨gm,o,none⟩:=fun o=>(xr.cell (p:=⟨gm,o,none⟩) (by show gm<_;omega)).trans (eD _ _ _ YD);obtain⟨hc0,hc1,hc2⟩:=xd (w:=wr) (fun j u hj=>(DY _).trans (QV.out j u hj)) k jY;clear DY;have hx:=HMM.out ms[k] (bQ jY);have hst:=I5 1 ms k jY;have Ae:=Ky 1 U9 (ms.take k) (fun s hs=>(HMM.out s (eU hs)).2);generalize ms[k]=x at *;generalize DF 1 (ms.take k)=n at *;have HST:=ai hst;clear hst;have hw2:=xr.size;simp at hw2;go_wp2;go_roundw
    case rel=>exact⟨k+1,oM,by go_num,by rw[HST.out,JQ],xr.alloc oM _⟩
    case measure=>simp[intOf];omega
   obtain rfl:M=k:=oM;have sY:ms.take M=ms:=di (by rw[HM.out];exact aO _);rw[sY];clear sY;obtain⟨nc,vF⟩:∃nc:Int,DF 1 ms=nc:=⟨_,rfl⟩
   rw[vF];have HNC:=ai vF;clear vF;go_wp2
   go_ret
   exact⟨gR (by rw[dD,HNB.out,HNC.out]),dx.trans (xr.mono oM)⟩
def Te(b:BB)(bq:aj)(w:ak)(ss:List Int)(nQ:∀s∈ss,1<=s/\s<=8)(gs os S cs:Nat)(hS:ss.length=S)(SB:S<=4294967296)(qU:gs<w.heap.size)(hcs:∀j u,(ss.map (aD af))[j]?=some u->w.cell? ⟨gs,os+j,none⟩=some u)(ms:List Mk)(Ms:∀m∈ms,1<=m.minute/\m.minute<=8)(gm om M cm:Nat)(hM:ms.length=M)(hM2:M<=4294967296)(YD:gm<w.heap.size)(hcm:∀j u,(dV ms)[j]?=some u->w.cell? ⟨gm,om+j,none⟩=some u) :
  bm aq 155 #[aR (b.cells bq (ae (some ⟨gs,os,none⟩) S cs) (ae (some ⟨gm,om,none⟩) M cm))] w (Rt w (ag af (dD ss ms))):=by
 have HS:=ai hS;have HCS:=ai hcs;have TG:=ai nQ;clear hS hcs nQ;have HM:=ai hM;have QV:=ai hcm;have HMM:=ai Ms;clear hM hcm Ms;have HK:Hid ((w.alloc (au (b.cells bq (ae (some ⟨gs,os,none⟩) S cs) (ae (some ⟨gm,om,none⟩) M cm)) 119)).heap[w.heap.size]?=some (au (b.cells bq (ae (some ⟨gs,os,none⟩) S cs) (ae (some ⟨gm,om,none⟩) M cm)) 119 (0,0))):=ai (az w _)
 go_enter Tryz.func155,Tryz.ntmps155
 go_wp2
 go_loopw [3,5,12] (fun n _ i wr=>∃k:Nat,k<=S/\i=ag af k/\n=ag af (zg (ss.take k))/\fV (w.heap.size+1) (w.alloc (au (b.cells bq (ae (some ⟨gs,os,none⟩) S cs) (ae (some ⟨gm,om,none⟩) M cm)) 119)) wr) (fun _ _ i _=>S-(intOf i).toNat)
 case atStart=>exact⟨0,oM,rfl,rfl,aB _ _⟩
 case round=>
  obtain⟨k,hk,rfl,rfl,tQ⟩:=hrel
  by_cases hlt:k<S
  .have jY:k<ss.length:=by rw[HS.out];exact hlt
   have hcell:wr.cell? ⟨gs,os+k,none⟩=some (ag af ss[k]):=(tQ.cell (p:=⟨gs,os+k,none⟩) (by show gs<_;omega)).trans ((eD _ _ _ qU).trans (HCS.out k _ (by simp[jY])));have hx:=TG.out ss[k] (bQ jY);have hst:=I4 ss k jY;have Ae:=AO (ss.take k) (fun s hs=>(TG.out s (eU hs)).2);generalize ss[k]=x at *;generalize zg (ss.take k)=n at *;have HST:=ai hst;clear hst;go_wp2;go_roundw
   case rel=>exact⟨k+1,oM,by go_num,by rw[HST.out,JQ],tQ⟩
   case measure=>simp[intOf];omega
  obtain rfl:S=k:=oM;have Ae:=AO (ss.take S) (fun s hs=>(TG.out s (eU hs)).2);have sY:ss.take S=ss:=di (by rw[HS.out];exact aO _);rw[sY] at Ae ⊢;clear sY;obtain⟨nb,J7⟩:∃nb:Int,zg ss=nb:=⟨_,rfl⟩
  rw[J7] at Ae ⊢;have HNB:=ai J7;clear J7;have U9:nb<=9:=Ae.2;have aiJ:1<=nb:=Ae.1;clear Ae;obtain⟨x0,x1,x2,x3,x4,x5,x6,x7,x8,x9,qD,qC,rH,rz,rB⟩:=cg ((tQ.block w.heap.size oM).trans HK.out);have hw1:=tQ.size;simp at hw1;go_wp2;obtain⟨wo,Qr⟩:∃wo:ak,wo=wr:=⟨_,rfl⟩
  rw[<-Qr] at tQ ⊢;clear Qr
  go_loopw [3,7,25] (fun n _ i wq=>∃k:Nat,k<=M/\i=ag af k/\n=ag af (DF nb (ms.take k))/\fV (w.heap.size+1) (w.alloc (au (b.cells bq (ae (some ⟨gs,os,none⟩) S cs) (ae (some ⟨gm,om,none⟩) M cm)) 119)) wq) (fun _ _ i _=>M-(intOf i).toNat)
  case atStart=>exact⟨0,oM,rfl,rfl,tQ⟩
  case round=>
   obtain⟨k,hk,rfl,rfl,xr⟩:=hrel
   by_cases hlt:k<M
   .have jY:k<ms.length:=by rw[HM.out];exact hlt
    have DY:∀o,wr.cell? ⟨gm,o,none⟩=w.cell? ⟨gm,o,none⟩:=fun o=>(xr.cell (p:=⟨gm,o,none⟩) (by show gm<_;omega)).trans (eD _ _ _ YD);obtain⟨hc0,hc1,hc2⟩:=xd (w:=wr) (fun j u hj=>(DY _).trans (QV.out j u hj)) k jY;clear DY;have hx:=HMM.out ms[k] (bQ jY);have hst:=I5 nb ms k jY;have Ae:=Ky nb U9 (ms.take k) (fun s hs=>(HMM.out s (eU hs)).2);generalize ms[k]=x at *;generalize DF nb (ms.take k)=n at *;have HST:=ai hst;clear hst;have hw2:=xr.size;simp at hw2;go_wp2;go_roundw
    case rel=>exact⟨k+1,oM,by go_num,by rw[HST.out,JQ],xr.alloc oM _⟩
    case measure=>simp[intOf];omega
   obtain rfl:M=k:=oM;have sY:ms.take M=ms:=di (by rw[HM.out];exact aO _);rw[sY];clear sY;obtain⟨nc,vF⟩:∃nc:Int,DF nb ms=nc:=⟨_,rfl⟩
   rw[vF];have HNC:=ai vF;clear vF;go_wp2
   go_ret
   exact⟨gR (by rw[dD,HNB.out,HNC.out]),dx.trans (xr.mono oM)⟩
def F8(b:BB)(bq aM aC:aj)(ss:List Int)(ms:List Mk)(nQ:∀s∈ss,1<=s/\s<=8)(Ms:∀m∈ms,1<=m.minute/\m.minute<=8)(w:ak)(hs:Reads w aM ss.length (ss.map (aD af)))(hm:Reads w aC ms.length (dV ms)) :
  bm aq 155 #[aR (b.cells bq aM aC)] w (Rt w (ag af (dD ss ms))):=by
 rcases hs with⟨rfl,hn,_⟩|⟨gs,os,cs,rfl,SB,qU,hcs⟩
 .obtain rfl:=a8 hn;rcases hm with⟨rfl,hn,_⟩|⟨gm,om,cm,rfl,hM2,YD,hcm⟩
  .obtain rfl:=a8 hn;exact Ti b bq w
  exact Tg b bq w ms Ms gm om _ cm rfl hM2.1 YD hcm
 rcases hm with⟨rfl,hn,_⟩|⟨gm,om,cm,rfl,hM2,YD,hcm⟩
 .obtain rfl:=a8 hn;exact Tf b bq w ss nQ gs os _ cs rfl SB.1 qU hcs
 exact Te b bq w ss nQ gs os _ cs rfl SB.1 qU hcs ms Ms gm om _ cm rfl hM2.1 YD hcm
def bJ(ss:List Int):Nat:=ss.foldl (fun p s=>p ||| 2 ^ s.toNat) 0
def Ol(ss:List Int)(k:Nat)(hk:k<ss.length):bJ (ss.take (k+1))=bJ (ss.take k) ||| 2 ^ ss[k].toNat:=by
 unfold bJ;rw[bO hk,Cc];rfl
def EM:∀(l:List Int) (n:Nat),(∀s∈l,1<=s/\s<=8)->n<512->l.foldl (fun p s=>p ||| 2 ^ s.toNat) n<512
 |[],n,_,h=>h
 |a::l,n,h,hn=>by
  refine EM l _ (fun s hs=>h s (by simp[hs])) ?_;have ha:=h a sM;have:2 ^ a.toNat<2 ^ 9:=Nat.pow_lt_pow_right oM oM;exact Nat.or_lt_two_pow (n:=9) hn this
def mM(ss:List Int)(h:∀s∈ss,1<=s/\s<=8):bJ ss<512:=EM ss 0 h oM
def kH(ss:List Int)(nQ:∀s∈ss,1<=s/\s<=8)(v:aj)(w:ak)(hv:Reads w v ss.length (ss.map (aD af))) :
  bm aq 106 #[v] w fun e w'=>e=aY (ag af (bJ ss))/\w=w':=by
 rcases hv with⟨rfl,hn,_⟩|⟨g,off,cap,rfl,hn,hg,hc⟩
 .obtain rfl:=a8 hn;clear hn
  go_enter Tryz.func106,Tryz.ntmps106
  go_wp2
  go_loop [3,8] (fun p i=>i=ag af 0/\p=ag af 0) (fun _ _=>0)
  case atStart=>exact⟨rfl,rfl⟩
  case round=>
   obtain⟨rfl,rfl⟩:=hrel;go_wp2
   go_ret
   exact⟨rfl,rfl⟩
 have HC:=ai hc;have TG:=ai nQ;clear hc nQ;generalize hL:ss.length=L at *;have HL:=ai hL;clear hL
 go_enter Tryz.func106,Tryz.ntmps106
 go_wp2
 go_loop [3,5,8] (fun p _ i=>∃k:Nat,k<=L/\i=ag af k/\p=ag af (bJ (ss.take k))) (fun _ _ i=>L-(intOf i).toNat)
 case atStart=>exact⟨0,oM,rfl,rfl⟩
 case round=>
  obtain⟨k,hk,rfl,rfl⟩:=hrel
  by_cases hlt:k<L
  .have jY:k<ss.length:=by rw[HL.out];exact hlt
   have hcell:w.cell? ⟨g,off+k,none⟩=some (ag af ss[k]):=HC.out k _ (by simp[jY]);have hx:=TG.out ss[k] (bQ jY);have hst:=Ol ss k jY;have Ae:=mM (ss.take k) (fun s hs=>TG.out s (eU hs));obtain⟨x,hxn⟩:∃x:Nat,ss[k]=(x:Int):=⟨ss[k].toNat,oM⟩
   rw[hxn] at hx hst hcell;clear hxn;generalize bJ (ss.take k)=n at *;have HST:=ai hst;clear hst;go_wp2
   go_round
   case rel=>
    refine⟨k+1,oM,by go_num,?_⟩;rw[HST.out];have h1:(2:Nat) ^ x<512:=Nat.pow_lt_pow_right (m:=x) (n:=9) oM oM
    have h2:wrap64 (2 ^ x)=((2 ^ x:Nat):Int):=by
     have e:(2:Int) ^ x=((2 ^ x:Nat):Int):=sM;rw[e,<-IntWalk.i64_left];exact fO _ (Int.natCast_nonneg _) (Int.lt_trans (Int.ofNat_lt.2 h1) dC)
    rw[h2,adZ n (2 ^ x) oM oM,Int.toNat_natCast]
   case measure=>simp[intOf];omega
  obtain rfl:k=L:=oM;have sY:ss.take k=ss:=di (by rw[HL.out];exact aO _);rw[sY];clear sY;go_wp2
  go_ret
  exact⟨rfl,rfl⟩
def tH(lo hi l m:Int)(w:ak)(h1:l<=lo)(h2:lo<=hi)(h3:hi<=m):bm aq 152 #[aR #[ag af lo,ag af hi],ag af l,ag af m] w (Rt w (aI true)):=by
 go_enter Tryz.func152,Tryz.ntmps152
 go_wp2
 go_ret
 exact⟨rfl,dx⟩
def iQ(n l m:Int)(h1:l<=n)(h2:n<=m)(w:ak):bm aq 138 #[ag af n,ag af l,ag af m] w fun e w'=>e=aY (aI true)/\w=w':=by
 have:=qQ n l m w;rw[gU.2 ⟨h1,h2⟩] at this;exact this
def nK(b:BB)(bq aM aC:aj)(n:Int)(h1:1<=n)(h2:n<=b.minutes)(w:ak):bm aq 132 #[aR (b.cells bq aM aC),ag af n] w (Rt w (aI true)):=by
 go_enter Tryz.func132,Tryz.ntmps132
 go_wp2_with (go_at_call 138;refine(iQ _ _ _ oM oM _).mono ?_;rintro e w' ⟨rfl,rfl⟩)
 go_ret
 exact⟨rfl,dx⟩
def Pt(b:BB)(hb:b.Ok)(bq aM aC:aj)(w:ak):bm aq 218 #[aR (b.cells bq aM aC)] w (Rt w (ag af 0)):=by
 have h1:=hb.room;have h2:=hb.depth;have h3:=hb.least;have h4:=hb.minutes
 go_enter Tryz.func218,Tryz.ntmps218
 go_wp2_with (go_at_call 138;refine(iQ _ _ _ oM oM _).mono ?_;rintro e w' ⟨rfl,rfl⟩)
 go_ret
 exact⟨rfl,dx⟩
def Pr(b:BB)(hb:b.Ok)(bq aM aC:aj)(w:ak):bm aq 219 #[aR (b.cells bq aM aC)] w (Rt w (ag af 0)):=by
 have h1:=hb.bS;have h2:=hb.iU;have h3:=hb.iO;have h4:=hb.eI;have h5:=hb.leak;have h6:=hb.Oh;have h7:=hb.minutes;have HK:Hid ((w.alloc (au (b.cells bq aM aC) 119)).heap[w.heap.size]?=some (au (b.cells bq aM aC) 119 (0,0))):=ai (az w _)
 go_enter Tryz.func219,Tryz.ntmps219
 go_wp2
 go_loopw [4,16] (fun _ i wr=>((i=ag af 0\/i=ag af 1)\/(i=ag af 2\/i=ag af 3))/\wr=(w.alloc (au (b.cells bq aM aC) 119)).alloc (au #[ag af b.bS,ag af b.iU,ag af b.iO] 3)) (fun _ i _=>3-(intOf i).toNat)
 case atStart=>exact⟨cJ (cJ rfl),rfl⟩
 case round=>
  obtain⟨hi,rfl⟩:=hrel;rcases hi with(rfl|rfl)|(rfl|rfl)
  .go_wp2_with (go_at_call 138;refine(iQ _ _ _ oM oM _).mono ?_;rintro e w' ⟨rfl,rfl⟩)
   go_roundw
   case rel=>exact⟨cJ (.inr rfl),trivial⟩
   case measure=>simp[intOf]
  .go_wp2_with (go_at_call 138;refine(iQ _ _ _ oM oM _).mono ?_;rintro e w' ⟨rfl,rfl⟩)
   go_roundw
   case rel=>exact⟨.inr (cJ rfl),trivial⟩
   case measure=>simp[intOf]
  .go_wp2_with (go_at_call 138;refine(iQ _ _ _ oM oM _).mono ?_;rintro e w' ⟨rfl,rfl⟩)
   go_roundw
   case rel=>exact⟨.inr (.inr rfl),trivial⟩
   case measure=>simp[intOf]
  go_wp2_with (go_at_call 138;refine(iQ _ _ _ oM oM _).mono ?_;rintro e w' ⟨rfl,rfl⟩)
  go_at_call 152
  refine(tH _ _ _ _ _ oM oM oM).mono ?_;rintro e w2 ⟨rfl,hb2⟩;have hk2:w2.heap[w.heap.size]?=some (au (b.cells bq aM aC) 119 (0,0)):=(hb2.block _ sO).trans ((aZ _ _ _ sM).trans HK.out);have hs2:=hb2.size;simp at hs2;obtain⟨x0,x1,x2,x3,x4,x5,x6,x7,x8,x9,qD,qC,rH,rz,rB⟩:=cg hk2
  go_wp2_with fail
  refine(tH _ _ _ _ _ oM oM oM).mono ?_;rintro e w3 ⟨rfl,hb3⟩;clear x0 x1 x2 x3 x4 x5 x6 x7 x8 x9 qD qC rH rz rB;obtain⟨x0,x1,x2,x3,x4,x5,x6,x7,x8,x9,qD,qC,rH,rz,rB⟩:=cg ((hb3.block _ oM).trans hk2);go_wp2
  go_ret
  exact⟨rfl,((dx.alloc sM _).trans (hb2.mono sO)).trans (hb3.mono oM)⟩
structure fM(b:BB)(pl:List Int):Prop where
 mem:∀p∈pl,1<=p/\p<=b.minutes
 asc:∀(k:Nat) (h:k+1<pl.length),pl[k]<pl[k+1]
 len:(pl.length:Int)<=b.eI
def qL(b:BB)(hb:b.Ok)(bq aM aC v:aj)(pl:List Int)(hp:fM b pl)(w:ak)(hv:Reads w v pl.length (pl.map (aD af))) :
  bm aq 113 #[aR (b.cells bq aM aC),v] w (Rt w (ag af 0)):=by
 have hc3:=hb.eI;have xu:=hb.minutes;have HP:=ai hp;rcases hv with⟨rfl,hn,_⟩|⟨g,off,cap,rfl,hn,hg,hc⟩
 .obtain rfl:=a8 hn;clear hn hp;have HK:Hid ((w.alloc (au (b.cells bq aM aC) 119)).heap[w.heap.size]?=some (au (b.cells bq aM aC) 119 (0,0))):=ai (az w _)
  go_enter Tryz.func113,Tryz.ntmps113
  go_wp2
  go_loopw [9] (fun i wr=>i=ag af 0/\fV (w.heap.size+1) (w.alloc (au (b.cells bq aM aC) 119)) wr) (fun _ _=>0)
  case atStart=>exact⟨rfl,aB _ _⟩
  case round=>
   obtain⟨rfl,eh⟩:=hrel;obtain⟨x0,x1,x2,x3,x4,x5,x6,x7,x8,x9,qD,qC,rH,rz,rB⟩:=cg ((eh.block w.heap.size oM).trans HK.out);go_wp2
   go_ret
   exact⟨rfl,dx.trans (eh.mono oM)⟩
 have HC:=ai hc;have hlen:=hp.len;clear hc hp;generalize hL:pl.length=L at *;have HL:=ai hL;clear hL;have HK:Hid ((w.alloc (au (b.cells bq aM aC) 119)).heap[w.heap.size]?=some (au (b.cells bq aM aC) 119 (0,0))):=ai (az w _)
 go_enter Tryz.func113,Tryz.ntmps113
 go_wp2
 go_loopw [5,6,9,14,19] (fun _ _ i _ _ wr=>∃k:Nat,k<=L/\i=ag af k/\fV (w.heap.size+1) (w.alloc (au (b.cells bq aM aC) 119)) wr) (fun _ _ i _ _ _=>L-(intOf i).toNat)
 case atStart=>exact⟨0,oM,rfl,aB _ _⟩
 case round=>
  obtain⟨k,hk,rfl,eh⟩:=hrel;have hsz:=eh.size;simp at hsz;have Yp:w.heap.size<wr.heap.size:=oM;have hk2:wr.heap[w.heap.size]?=some (au (b.cells bq aM aC) 119 (0,0)):=(eh.block w.heap.size oM).trans HK.out;obtain⟨x0,x1,x2,x3,x4,x5,x6,x7,x8,x9,qD,qC,rH,rz,rB⟩:=cg hk2
  by_cases hlt:k<L
  .have jY:k<pl.length:=by rw[HL.out];exact hlt
   have DY:∀o,wr.cell? ⟨g,o,none⟩=w.cell? ⟨g,o,none⟩:=fun o=>(eh.cell (p:=⟨g,o,none⟩) (by show g<_;omega)).trans (eD _ _ _ hg);have hcell:wr.cell? ⟨g,off+k,none⟩=some (ag af pl[k]):=(DY _).trans (HC.out k _ (by simp[jY]));have hx:=HP.out.mem pl[k] (bQ jY)
   by_cases h0:k=0
   .have ux:decide ((0:Int)<(k:Int))=false:=decide_eq_false oM;have aph:decide (0<k)=false:=decide_eq_false oM;have H0:=ai h0;clear h0;clear DY;generalize pl[k]=x at *;have Hu:=ai hk2;clear hk2
    go_wp2_with fail
    refine(nK b bq aM aC x hx.1 hx.2 _).mono ?_;rintro e w2 ⟨rfl,hb2⟩;go_wp2;go_roundw
    case rel=>exact⟨k+1,oM,by go_num,eh.trans (hb2.mono oM)⟩
    case measure=>simp[intOf];omega
   obtain⟨j,rfl⟩:∃j,k=j+1:=⟨k-1,oM⟩
   have hcj:wr.cell? ⟨g,off+j,none⟩=some (ag af pl[j]):=(DY _).trans (HC.out j _ (by simp[show j<pl.length by omega]));have has:=HP.out.asc j jY;have HGW:=ai DY;clear DY;generalize pl[j+1]=x at *;generalize pl[j]=y at *;have Hu:=ai hk2;clear hk2;have ux:decide ((0:Int)<((j+1:Nat):Int))=true:=decide_eq_true oM;have hjj:IntKind.i64.wrap (((j+1:Nat):Int)-1)=(j:Int):=by rw[show((j+1:Nat):Int)-1=(j:Int) by omega];exact fO _ oM oM
   go_wp2_with fail
   refine(nK b bq aM aC x hx.1 hx.2 _).mono ?_;rintro e w2 ⟨rfl,hb2⟩;have hc2:w2.cell? ⟨g,off+j,none⟩=some (ag af y):=(hb2.cell (p:=⟨g,off+j,none⟩) (by show g<_;omega)).trans hcj;go_wp2;go_roundw
   case rel=>exact⟨j+1+1,oM,by go_num,eh.trans (hb2.mono oM)⟩
   case measure=>simp[intOf];omega
  obtain rfl:L=k:=oM;go_wp2
  go_ret
  exact⟨rfl,dx.trans (eh.mono oM)⟩
def Ps(b:BB)(hb:b.Ok)(bq aM aC:aj)(pl:List Int)(hp:fM b pl)(w:ak)(hv:Reads w aM pl.length (pl.map (aD af))) :
  bm aq 221 #[aR (b.cells bq aM aC)] w (Rt w (ag af 0)):=by
 have hv1:Reads (w.alloc (au (b.cells bq aM aC) 119)) aM pl.length (pl.map (aD af)):=hv.below dx;have hP:=qL b hb bq aM aC aM pl hp _ hv1;clear hv hv1
 go_enter Tryz.func221,Tryz.ntmps221
 go_wp2_with (go_at_call 113;refine hP.mono ?_;rintro e w2 ⟨rfl,hb2⟩)
 go_ret
 exact⟨rfl,dx.trans (hb2.mono sM)⟩
structure lI(b:BB)(ms:List Mk):Prop where
 mem:∀m∈ms,1<=m.minute/\m.minute<=b.minutes/\0<=m.lo/\m.lo<=m.hi/\m.hi<=99
 len:ms.length<=3
def M9(b:BB)(hb:b.Ok)(bq aM aC:aj)(ms:List Mk)(hm:lI b ms)(w:ak)(hv:Reads w aC ms.length (dV ms)) :
  bm aq 222 #[aR (b.cells bq aM aC)] w (Rt w (ag af 0)):=by
 have xu:=hb.minutes;have HM:=ai hm;have h3:=hm.len;rcases hv with⟨rfl,hn,_⟩|⟨g,off,cap,rfl,hn,hg,hc⟩
 .obtain rfl:=a8 hn;clear hn hm h3;have HK:Hid ((w.alloc (au (b.cells bq aM (ae none 0 0)) 119)).heap[w.heap.size]?=some (au (b.cells bq aM (ae none 0 0)) 119 (0,0))):=ai (az w _)
  go_enter Tryz.func222,Tryz.ntmps222
  go_wp2
  go_loopw [14] (fun i wr=>i=ag af 0/\fV (w.heap.size+1) (w.alloc (au (b.cells bq aM (ae none 0 0)) 119)) wr) (fun _ _=>0)
  case atStart=>exact⟨rfl,aB _ _⟩
  case round=>
   obtain⟨rfl,eh⟩:=hrel;go_wp2
   go_ret
   exact⟨rfl,dx.trans (eh.mono oM)⟩
 have HC:=ai hc;clear hc hm;generalize hL:ms.length=L at *;have HL:=ai hL;clear hL;have HK:Hid ((w.alloc (au (b.cells bq aM (ae (some ⟨g,off,none⟩) L cap)) 119)).heap[w.heap.size]?=some (au (b.cells bq aM (ae (some ⟨g,off,none⟩) L cap)) 119 (0,0))):=ai (az w _)
 go_enter Tryz.func222,Tryz.ntmps222
 go_wp2
 go_loopw [4,14,18,24] (fun _ i _ _ wr=>∃k:Nat,k<=L/\i=ag af k/\fV (w.heap.size+1) (w.alloc (au (b.cells bq aM (ae (some ⟨g,off,none⟩) L cap)) 119)) wr) (fun _ i _ _ _=>L-(intOf i).toNat)
 case atStart=>exact⟨0,oM,rfl,aB _ _⟩
 case round=>
  obtain⟨k,hk,rfl,eh⟩:=hrel;have hsz:=eh.size;simp at hsz;have Yp:w.heap.size<wr.heap.size:=oM;have hk2:wr.heap[w.heap.size]?=some (au (b.cells bq aM (ae (some ⟨g,off,none⟩) L cap)) 119 (0,0)):=(eh.block w.heap.size oM).trans HK.out;obtain⟨x0,x1,x2,x3,x4,x5,x6,x7,x8,x9,qD,qC,rH,rz,rB⟩:=cg hk2
  by_cases hlt:k<L
  .have jY:k<ms.length:=by rw[HL.out];exact hlt
   have DY:∀o,wr.cell? ⟨g,o,none⟩=w.cell? ⟨g,o,none⟩:=fun o=>(eh.cell (p:=⟨g,o,none⟩) (by show g<_;omega)).trans (eD _ _ _ hg);obtain⟨y0,y1,y2⟩:=xd (w:=wr) (fun j u hj=>(DY _).trans (HC.out j u hj)) k jY;have hx:=HM.out.mem ms[k] (bQ jY);clear DY;generalize ms[k]=x at *;have Hu:=ai hk2;clear hk2
   go_wp2_with fail
   refine(nK b bq aM _ x.minute oM oM _).mono ?_;rintro e w2 ⟨rfl,hb2⟩;have OM:w2.heap[wr.heap.size]?=some (au x.cells 81 (0,0)):=(hb2.block _ sM).trans (az wr _);have z0:w2.cell? ⟨wr.heap.size,0,none⟩=some (ag af x.minute):=by unfold dP;rw[OM];rfl
   have z1:w2.cell? ⟨wr.heap.size,1,none⟩=some (ag af x.lo):=by unfold dP;rw[OM];rfl
   have z2:w2.cell? ⟨wr.heap.size,2,none⟩=some (ag af x.hi):=by unfold dP;rw[OM];rfl
   clear OM;have hs2:=hb2.size;simp at hs2
   go_wp2_with (go_at_call 152;refine(tH _ _ _ _ _ oM oM oM).mono ?_;rintro e w3 ⟨rfl,hb3⟩)
   go_roundw
   case rel=>exact⟨k+1,oM,by go_num,((eh.alloc oM _).trans (hb2.mono sO)).trans (hb3.mono oM)⟩
   case measure=>simp[intOf];omega
  obtain rfl:L=k:=oM;go_wp2
  go_ret
  exact⟨rfl,dx.trans (eh.mono oM)⟩
structure KG(s:ByteArray):Prop where
 size:1<=s.size/\s.size<=12
 chr:∀(k:Nat) (h:k<s.size),(97<=s[k].toNat/\s[k].toNat<=122)\/(k≠0/\48<=s[k].toNat/\s[k].toNat<=57)
def Kv(s:ByteArray)(cap k:Nat)(h:k<s.size):(bytesRow s cap)[k]?=some (ag .u8 (s[k].toNat:Int)):=by
 unfold bytesRow;have hd:k<s.data.size:=h;rw[Array.getElem?_append_left (by simpa using hd),Array.getElem?_map,aQ hd];rfl
def UQ(s:ByteArray)(hs:KG s)(w:ak):bm aq 223 #[.string s] w (Rt w (aI true)):=by
 have Z3:=run_bytes_of_string (P:=aq) w 9 234 5 s Tryz.underlying9 Tryz.underlying234 Tryz.underlying5;have h1:=hs.size;have HS:=ai hs;generalize grownCap w s.size 0 5=cap at *;have hC:=Kv s cap;generalize bytesRow s cap=C at *;obtain⟨n,hn⟩:∃n,s.size=n:=⟨_,rfl⟩
 rw[hn] at Z3 h1;have HN:=ai hn;have HC:=ai hC;clear hn hC hs;have hB1:Bw w (w.drew.alloc (au C 5 (C.size,C.size+1))):=(aB _ _).drew.alloc sM _
 go_enter Tryz.func223,Tryz.ntmps223
 go_wp2;clear Z3
 go_loopw [3,4,8] (fun _ _ i wr=>∃k:Nat,k<=n/\i=ag af k/\wr=(w.alloc (au C 5 (C.size,C.size+1))).drew) (fun _ _ i _=>n-(intOf i).toNat)
 case atStart=>exact⟨0,oM,rfl,rfl⟩
 case round=>
  obtain⟨k,hk,rfl,rfl⟩:=hrel
  by_cases hlt:k<n
  .have jY:k<s.size:=by rw[HN.out];exact hlt
   have hck:=HC.out k jY
   have hcell:(w.alloc (au C 5 (C.size,C.size+1))).cell? ⟨w.heap.size,k,none⟩=some (ag .u8 (s[k].toNat:Int)):=by
    unfold dP;rw[az];exact hck
   have hch:=HS.out.chr k jY;have apa:s[k].toNat<256:=s[k].toNat_lt;generalize s[k].toNat=c at *;clear hck;have hI:=qQ (c:Int) 97 122;have hD:=qQ (c:Int) 48 57;have hcv:IntKind.i64.wrap (c:Int)=c:=fO _ oM oM;rcases hch with hch|⟨hk0,hch⟩
   .have e1:aV (c:Int) 97 122=true:=gU.2 ⟨oM,oM⟩;rw[e1] at hI;clear hD e1;have HCH:=ai hch;clear hch
    go_wp2_with (go_at_call 138;refine(hI _).mono ?_;rintro e w' ⟨rfl,rfl⟩)
    go_roundw
    case rel=>exact⟨k+1,oM,by go_num,trivial⟩
    case measure=>simp[intOf];omega
   have e1:aV (c:Int) 97 122=false:=by unfold aV;rw[decide_eq_false oM];rfl
   have e2:aV (c:Int) 48 57=true:=gU.2 ⟨oM,oM⟩;rw[e1] at hI;rw[e2] at hD;have e3:((k:Int)==0)=false:=sO;have e4:(k==0)=false:=sO;clear e1 e2;have HCH:=ai hch;have HK0:=ai hk0;clear hch hk0
   go_wp2_with fail
   refine(hI _).mono ?_;rintro e w' ⟨rfl,rfl⟩
   go_wp2_with fail
   refine(hD _).mono ?_;rintro e w' ⟨rfl,rfl⟩;go_wp2;go_roundw
   case rel=>exact⟨k+1,oM,by go_num,trivial⟩
   case measure=>simp[intOf];omega
  obtain rfl:n=k:=oM;have hs1:=HS.out.size
  go_wp2_with (go_at_call 138;refine(iQ _ _ _ oM oM _).mono ?_;rintro e w' ⟨rfl,rfl⟩)
  go_ret
  exact⟨rfl,dx.drew⟩
structure Mn where
 name:ByteArray
 lo:Int
 hi:Int
abbrev Mn.cells(m:Mn):Array Value:=#[.string m.name,ag af m.lo,ag af m.hi]
def fQ(l:List Mn):List Value:=l.flatMap fun m=>m.cells.toList
def wX(l:List Mn):(fQ l).length=3*l.length:=by
 induction l with
 |nil=>rfl
 |cons a l ih=>simp[fQ] at ih ⊢;omega
def lh:∀(l:List Mn) (k j:Nat) (hk:k<l.length),j<3->(fQ l)[3*k+j]?=l[k].cells[j]?
 |[],k,j,hk,_=>by simp at hk
 |a::l,0,j,_,hj=>by
  have:fQ (a::l)=a.cells.toList++fQ l:=rfl;rw[this,AW sO];simp
 |a::l,k+1,j,hk,hj=>by
  have e:fQ (a::l)=a.cells.toList++fQ l:=rfl;rw[e,List.getElem?_append_right sO];have:=lh l k j (by simpa using hk) hj;simp only[List.getElem_cons_succ];rw[<-this]
  congr 1
  simp;omega
def DV{w:ak}{g off:Nat}{l:List Mn}(hc:∀j u,(fQ l)[j]?=some u->w.cell? ⟨g,off+j,none⟩=some u)(k:Nat)(hk:k<l.length) :
  w.cell? ⟨g,off+k*3,none⟩=some (.string l[k].name)/\w.cell? ⟨g,off+k*3+1,none⟩=some (ag af l[k].lo)/\w.cell? ⟨g,off+k*3+2,none⟩=some (ag af l[k].hi):=
 ⟨hc (k*3) _ (by have:=lh l k 0 hk oM;rw[vD];simpa using this),hc (k*3+1) _ (by rw[vD,lh l k 1 hk oM];rfl),hc (k*3+2) _ (by rw[vD,lh l k 2 hk oM];rfl)⟩
structure yf(l:List Mn):Prop where
 mem:∀m∈l,KG m.name/\1<=m.lo/\m.lo<=m.hi/\m.hi<=99/\m.hi-m.lo<3
 apart:∀(i k:Nat) (hi:i<l.length) (hk:k<l.length),i<k->l[i].name≠l[k].name
 len:l.length<=3
def Nl{a b:ByteArray}(h:a≠b):¬a.toList=b.toList:=by
 intro e;rw[ByteArray.toList_eq,ByteArray.toList_eq] at e;obtain⟨⟨x⟩⟩:=a;obtain⟨⟨y⟩⟩:=b;have:x=y:=e;subst this;exact h rfl
def Jt(m:Mn)(o:ByteArray)(hne:m.name≠o)(B:Nat)(w:ak)(hB:w.cell? ⟨B,0,none⟩=some (.string o))(hBl:B<w.heap.size):bm aq 225 #[aR m.cells,eX (some ⟨B,0,none⟩)] w (Rt w (aI false)):=by
 have H:=ai (Nl hne);clear hne
 go_enter Tryz.func225,Tryz.ntmps225
 go_wp2
 go_ret
 exact⟨qI (by simpa using H.out),dx⟩
def Mj(l:List Mn)(o:ByteArray)(hne:∀m∈l,m.name≠o)(g off L cap B:Nat)(w:ak)(hL:l.length=L)(hL2:L<=4294967296)(hg:g<w.heap.size)(hc:∀j u,(fQ l)[j]?=some u->w.cell? ⟨g,off+j,none⟩=some u)
  (hB:w.cell? ⟨B,0,none⟩=some (.string o)) (hBl:B<w.heap.size) :
  bm aq 226 #[ae (some ⟨g,off,none⟩) L cap,.func (.func 225) #[] #[eX (some ⟨B,0,none⟩)]] w (Rt w (ag af (-1))):=by
 have HC:=ai hc;have HN:=ai hne;have HL:=ai hL;have HB:=ai hB;clear hc hne hL hB
 go_enter Tryz.func226,Tryz.ntmps226
 go_wp2
 go_loopw [5,8] (fun _ i wr=>∃k:Nat,k<=L/\i=ag af k/\Bw w wr) (fun _ i _=>L-(intOf i).toNat)
 case atStart=>exact⟨0,oM,rfl,aB _ _⟩
 case round=>
  obtain⟨k,hk,rfl,eh⟩:=hrel
  by_cases hlt:k<L
  .have jY:k<l.length:=by rw[HL.out];exact hlt
   have DY:∀o,wr.cell? ⟨g,o,none⟩=w.cell? ⟨g,o,none⟩:=fun o=>eh.cell (p:=⟨g,o,none⟩) hg;obtain⟨y0,y1,y2⟩:=DV (w:=wr) (fun j u hj=>(DY _).trans (HC.out j u hj)) k jY;have hS:=Jt l[k] o (HN.out _ (bQ jY)) B wr ((eh.cell (p:=⟨B,0,none⟩) hBl).trans HB.out) (bw hBl eh.size);clear DY;have hsz:=eh.size;generalize l[k]=x at *
   go_wp2_with (go_at_call 225;refine hS.mono ?_;rintro e w2 ⟨rfl,hb2⟩)
   go_roundw
   case rel=>exact⟨k+1,oM,by go_num,eh.trans (hb2.mono hsz)⟩
   case measure=>simp[intOf];omega
  obtain rfl:L=k:=oM;go_wp2
  go_ret
  exact⟨rfl,eh⟩
def FN(l:List Mn)(o:ByteArray)(hne:∀m∈l,m.name≠o)(g off L cap B:Nat)(w:ak)(hL:l.length=L)(hL2:L<=4294967296)(hg:g<w.heap.size)(hc:∀j u,(fQ l)[j]?=some u->w.cell? ⟨g,off+j,none⟩=some u)
  (hB:w.cell? ⟨B,0,none⟩=some (.string o)) (hBl:B<w.heap.size) :
  bm aq 224 #[ae (some ⟨g,off,none⟩) L cap,.func (.func 225) #[] #[eX (some ⟨B,0,none⟩)]] w (Rt w (aI false)):=by
 have hI:=Mj l o hne g off L cap B w hL hL2 hg hc hB hBl;clear hne hL hc hB
 go_enter Tryz.func224,Tryz.ntmps224
 go_wp2_with (go_at_call 226;refine hI.mono ?_;rintro e w2 ⟨rfl,hb2⟩)
 go_ret
 exact⟨rfl,hb2⟩
def S7(b:BB)(bq aM aC:aj)(l:List Mn)(hl:yf l)(w:ak)(hv:Reads w bq l.length (fQ l)) :
  bm aq 220 #[aR (b.cells bq aM aC)] w (Rt w (ag af 0)):=by
 have HM:=ai hl;have h3:=hl.len;rcases hv with⟨rfl,hn,_⟩|⟨g,off,cap,rfl,hn,hg,hc⟩
 .obtain rfl:=a8 hn;clear hn hl h3
  go_enter Tryz.func220,Tryz.ntmps220
  go_wp2
  go_loopw [14] (fun i wr=>i=ag af 0/\fV (w.heap.size+1) (w.alloc (au (b.cells (ae none 0 0) aM aC) 119)) wr) (fun _ _=>0)
  case atStart=>exact⟨rfl,aB _ _⟩
  case round=>
   obtain⟨rfl,eh⟩:=hrel;go_wp2
   go_ret
   exact⟨rfl,dx.trans (eh.mono oM)⟩
 have HC:=ai hc;clear hc hl;generalize hL:l.length=L at *;have HL:=ai hL;clear hL;have HK:Hid ((w.alloc (au (b.cells (ae (some ⟨g,off,none⟩) L cap) aM aC) 119)).heap[w.heap.size]?=some (au (b.cells (ae (some ⟨g,off,none⟩) L cap) aM aC) 119 (0,0))):=ai (az w _)
 go_enter Tryz.func220,Tryz.ntmps220
 go_wp2
 go_loopw [3,4,14,19,24,32] (fun _ _ i _ _ _ wr=>∃k:Nat,k<=L/\i=ag af k/\fV (w.heap.size+1) (w.alloc (au (b.cells (ae (some ⟨g,off,none⟩) L cap) aM aC) 119)) wr) (fun _ _ i _ _ _ _=>L-(intOf i).toNat)
 case atStart=>exact⟨0,oM,rfl,aB _ _⟩
 case round=>
  obtain⟨k,hk,rfl,eh⟩:=hrel;have hsz:=eh.size;simp at hsz;have Yp:w.heap.size<wr.heap.size:=oM
  by_cases hlt:k<L
  .have jY:k<l.length:=by rw[HL.out];exact hlt
   have DY:∀o,wr.cell? ⟨g,o,none⟩=w.cell? ⟨g,o,none⟩:=fun o=>(eh.cell (p:=⟨g,o,none⟩) (by show g<_;omega)).trans (eD _ _ _ hg);obtain⟨y0,y1,y2⟩:=DV (w:=wr) (fun j u hj=>(DY _).trans (HC.out j u hj)) k jY;obtain⟨Sp,hx⟩:=HM.out.mem l[k] (bQ jY)
   have hne:∀m∈l.take k,m.name≠l[k].name:=by
    intro m hm;obtain⟨i,hi,rfl⟩:=List.mem_iff_getElem.1 hm;have hik:i<k:=by simp at hi;omega
    rw[List.getElem_take];exact HM.out.apart i k oM jY hik
   have hrow:∀(j:Nat) (u:aj),(fQ (l.take k))[j]?=some u->(fQ l)[j]?=some u:=by
    intro j u hj
    have e:fQ l=fQ (l.take k)++fQ (l.drop k):=by
     unfold fQ;rw[<-List.flatMap_append,List.take_append_drop]
    rw[e,AW (List.getElem?_eq_some_iff.1 hj).1];exact hj
   have HGW:=ai DY;have HNE:=ai hne;have akW:=ai hrow;have hlk:(l.take k).length=k:=sO;have HLK:=ai hlk;have ajB:=UQ l[k].name Sp;clear DY hne hrow hlk Sp;generalize l.take k=lk at *;generalize l[k]=x at *;have s5:wr.heap[w.heap.size]?=some (au (b.cells (ae (some ⟨g,off,none⟩) L cap) aM aC) 119 (0,0)):=(eh.block w.heap.size oM).trans HK.out;have HKK:=ai s5;clear s5
   go_wp2_with fail
   refine(ajB _).mono ?_;rintro e w2 ⟨rfl,hb2⟩;have OM:w2.heap[wr.heap.size]?=some (au x.cells 79 (0,0)):=(hb2.block _ sM).trans (az wr _);have z0:w2.cell? ⟨wr.heap.size,0,none⟩=some (.string x.name):=by unfold dP;rw[OM];rfl
   have hs2:=hb2.size;simp at hs2;have afy:w2.heap[w.heap.size]?=some (au (b.cells (ae (some ⟨g,off,none⟩) L cap) aM aC) 119 (0,0)):=(hb2.block _ sO).trans ((aZ _ _ _ Yp).trans HKK.out);have afe:∀o,w2.cell? ⟨g,o,none⟩=w.cell? ⟨g,o,none⟩:=fun o=>((hb2.cell (p:=⟨g,o,none⟩) (by show g<_;simp;omega)).trans (eD _ _ _ (by show g<_;omega))).trans (HGW.out o);have hCt:=FN lk x.name HNE.out g off k cap wr.heap.size w2 HLK.out oM oM (fun j u hj=>(afe _).trans (HC.out j u (akW.out j u hj))) z0 oM;obtain⟨x0,x1,x2,x3,x4,x5,x6,x7,x8,x9,qD,qC,rH,rz,rB⟩:=cg afy;have HXK:=ai OM;clear OM afe afy
   go_wp2_with fail
   refine hCt.mono ?_;rintro e w3 ⟨rfl,hb3⟩;have Yn:w3.heap[wr.heap.size]?=some (au x.cells 79 (0,0)):=(hb3.block _ oM).trans HXK.out;have u1:w3.cell? ⟨wr.heap.size,1,none⟩=some (ag af x.lo):=by unfold dP;rw[Yn];rfl
   have u2:w3.cell? ⟨wr.heap.size,2,none⟩=some (ag af x.hi):=by unfold dP;rw[Yn];rfl
   have aqt:=ai Yn;have hs3:=hb3.size;clear Yn x0 x1 x2 x3 x4 x5 x6 x7 x8 x9 qD qC rH rz rB z0
   go_wp2_with fail
   refine(tH _ _ _ _ _ oM oM oM).mono ?_;rintro e w4 ⟨rfl,hb4⟩;have v1:w4.cell? ⟨wr.heap.size,1,none⟩=some (ag af x.lo):=(hb4.cell (p:=⟨wr.heap.size,1,none⟩) (by show wr.heap.size<_;omega)).trans u1;have v2:w4.cell? ⟨wr.heap.size,2,none⟩=some (ag af x.hi):=(hb4.cell (p:=⟨wr.heap.size,2,none⟩) (by show wr.heap.size<_;omega)).trans u2;go_wp2;go_roundw
   case rel=>exact⟨k+1,oM,by go_num,(((eh.alloc oM _).trans (hb2.mono sO)).trans (hb3.mono oM)).trans (hb4.mono oM)⟩
   case measure=>simp[intOf];omega
  obtain rfl:L=k:=oM;go_wp2
  go_ret
  exact⟨rfl,dx.trans (eh.mono oM)⟩
section
variable(P:aN)(w:ak)(a:Addr)(m:Mode)
@[go_sem] theorem T6 (f:Fn) (c d:Array aj):(store a (.func f c d) m).run P w=stored P w a (.func f c d) m:=run_store P w a _ m rfl
end
structure Laid(w:ak):Prop where
 c0:w.cell? ⟨0,0,none⟩=some (.func (.func 218) #[] #[])
 c1:w.cell? ⟨0,1,none⟩=some (.func (.func 219) #[] #[])
 c2:w.cell? ⟨0,2,none⟩=some (.func (.func 220) #[] #[])
 c3:w.cell? ⟨0,3,none⟩=some (.func (.func 221) #[] #[])
 c4:w.cell? ⟨0,4,none⟩=some (.func (.func 222) #[] #[])
 lt:0<w.heap.size
def Laid.below{w w':ak}(h:Laid w)(hb:Bw w w'):Laid w':=
 ⟨(hb.cell (p:=⟨0,0,none⟩) h.lt).trans h.c0,(hb.cell (p:=⟨0,1,none⟩) h.lt).trans h.c1,(hb.cell (p:=⟨0,2,none⟩) h.lt).trans h.c2,(hb.cell (p:=⟨0,3,none⟩) h.lt).trans h.c3,(hb.cell (p:=⟨0,4,none⟩) h.lt).trans h.c4,bw h.lt hb.size⟩
structure cQ(b:BB)(bq aM aC:aj)(ml:List Mn)(ss:List Int)(ms:List Mk)(w:ak):Prop where
 ok:b.Ok
 gS:yf ml
 mE:fM b ss
 kI:lI b ms
 rm:Reads w bq ml.length (fQ ml)
 rs:Reads w aM ss.length (ss.map (aD af))
 rk:Reads w aC ms.length (dV ms)
def cQ.below{b:BB}{bq aM aC:aj}{ml:List Mn}{ss:List Int}{ms:List Mk}{w w':ak}(h:cQ b bq aM aC ml ss ms w)(hb:Bw w w'):cQ b bq aM aC ml ss ms w':=
 ⟨h.ok,h.gS,h.mE,h.kI,h.rm.below hb,h.rs.below hb,h.rk.below hb⟩
def eO(b:BB)(bq aM aC:aj)(ml:List Mn)(ss:List Int)(ms:List Mk)(w:ak)(hL:Laid w)(hB:cQ b bq aM aC ml ss ms w) :
  bm aq 71 #[aR (b.cells bq aM aC)] w (Rt w (ag af 0)):=by
 obtain⟨l0,l1,l2,l3,l4,llt⟩:=hL;have i0:∀w,(ni 163 (aR #[.func (.func 218) #[] #[],.func (.func 219) #[] #[],.func (.func 220) #[] #[],.func (.func 221) #[] #[],.func (.func 222) #[] #[]]) (ag af 0)).run aq w=.ok (aR #[.func (.func 218) #[] #[]]) w:=fun _=>by kernel_rfl
 have i1:∀w,(ni 163 (aR #[.func (.func 218) #[] #[],.func (.func 219) #[] #[],.func (.func 220) #[] #[],.func (.func 221) #[] #[],.func (.func 222) #[] #[]]) (ag af 1)).run aq w=.ok (aR #[.func (.func 219) #[] #[]]) w:=fun _=>by kernel_rfl
 have i2:∀w,(ni 163 (aR #[.func (.func 218) #[] #[],.func (.func 219) #[] #[],.func (.func 220) #[] #[],.func (.func 221) #[] #[],.func (.func 222) #[] #[]]) (ag af 2)).run aq w=.ok (aR #[.func (.func 220) #[] #[]]) w:=fun _=>by kernel_rfl
 have i3:∀w,(ni 163 (aR #[.func (.func 218) #[] #[],.func (.func 219) #[] #[],.func (.func 220) #[] #[],.func (.func 221) #[] #[],.func (.func 222) #[] #[]]) (ag af 3)).run aq w=.ok (aR #[.func (.func 221) #[] #[]]) w:=fun _=>by kernel_rfl
 have i4:∀w,(ni 163 (aR #[.func (.func 218) #[] #[],.func (.func 219) #[] #[],.func (.func 220) #[] #[],.func (.func 221) #[] #[],.func (.func 222) #[] #[]]) (ag af 4)).run aq w=.ok (aR #[.func (.func 222) #[] #[]]) w:=fun _=>by kernel_rfl
 have HK:Hid ((w.alloc (au (b.cells bq aM aC) 28)).heap[w.heap.size]?=some (au (b.cells bq aM aC) 28 (0,0))):=ai (az w _)
 go_enter Tryz.func71,Tryz.ntmps71
 go_wp2
 go_loopw [4,5,7] (fun _ _ i wr=>((i=ag af 0\/i=ag af 1)\/(i=ag af 2\/i=ag af 3)\/(i=ag af 4\/i=ag af 5))/\fV (w.heap.size+1) (w.alloc (au (b.cells bq aM aC) 28)) wr) (fun _ _ i _=>5-(intOf i).toNat)
 case atStart=>exact⟨cJ (cJ rfl),aB _ _⟩
 case round=>
  obtain⟨hi,eh⟩:=hrel;have hsz:=eh.size;simp at hsz;have Yp:w.heap.size<wr.heap.size:=oM;have sG:Bw w wr:=dx.trans (eh.mono oM);have hB2:=hB.below sG;obtain⟨x0,x1,x2,x3,x4,x5,x6,x7,x8,x9,qD,qC,rH,rz,rB⟩:=cg ((eh.block w.heap.size oM).trans HK.out);clear sG l0 l1 l2 l3 l4;rcases hi with(rfl|rfl)|(rfl|rfl)|(rfl|rfl)
  .go_wp2_with (go_at_call 218;refine(Pt b hB2.ok bq aM aC _).mono ?_;rintro e w2 ⟨rfl,hb2⟩)
   have hs2:=hb2.size;simp at hs2;go_roundw
   case rel=>exact⟨cJ (.inr rfl),(eh.alloc oM _).trans (hb2.mono sO)⟩
   case measure=>simp[intOf]
  .go_wp2_with (go_at_call 219;refine(Pr b hB2.ok bq aM aC _).mono ?_;rintro e w2 ⟨rfl,hb2⟩)
   have hs2:=hb2.size;simp at hs2;go_roundw
   case rel=>exact⟨.inr (cJ (cJ rfl)),(eh.alloc oM _).trans (hb2.mono sO)⟩
   case measure=>simp[intOf]
  .go_wp2_with (go_at_call 220;refine(S7 b bq aM aC ml hB2.gS _ (hB2.rm.below dx)).mono ?_;rintro e w2 ⟨rfl,hb2⟩)
   have hs2:=hb2.size;simp at hs2;go_roundw
   case rel=>exact⟨.inr (cJ (.inr rfl)),(eh.alloc oM _).trans (hb2.mono sO)⟩
   case measure=>simp[intOf]
  .go_wp2_with (go_at_call 221;refine(Ps b hB2.ok bq aM aC ss hB2.mE _ (hB2.rs.below dx)).mono ?_;rintro e w2 ⟨rfl,hb2⟩)
   have hs2:=hb2.size;simp at hs2;go_roundw
   case rel=>exact⟨.inr (.inr (cJ rfl)),(eh.alloc oM _).trans (hb2.mono sO)⟩
   case measure=>simp[intOf]
  .go_wp2_with (go_at_call 222;refine(M9 b hB2.ok bq aM aC ms hB2.kI _ (hB2.rk.below dx)).mono ?_;rintro e w2 ⟨rfl,hb2⟩)
   have hs2:=hb2.size;simp at hs2;go_roundw
   case rel=>exact⟨.inr (.inr (.inr rfl)),(eh.alloc oM _).trans (hb2.mono sO)⟩
   case measure=>simp[intOf]
  go_wp2
  go_ret
  exact⟨rfl,dx.trans (eh.mono oM)⟩
open Go Go.ChangeShapes
abbrev Mh:List (String × DataW Unit):=[("lagan/bell.checks",Rows.laid_lagan_bell_checks)]
def R7:Tryz.prog.globalNamed "lagan/bell.checks" = some 0:=kQ
def UN:(Tryz.prog.globals[0]?).map (·.type)=some 163:=kQ
def zX{W:ak}{n:Nat}{cs:List aj}{i:Nat}{f0:d_}{b:UInt8}{r:List UInt8}{xs:List (DataW (List UInt8) × List MemPlace)}(hlen:cs.length=5)(hi:i<5)
  (hel:∀(i:Nat),i<5->DataW.trod (funcToken aq) aq W 0 (fun _=>true) true n 162 ((cs.drop (i*1)).take 1)=xs[i]?) {q:List MemPlace} (hx:xs[i]?=some (.agg [.held (b::r)],q))
  (aeR:((aS Tryz.prog.funcs.size).filter fun f=>(Tryz.prog.funcs[f]?).any (·.name.toUTF8.data.toList==b::r))=[f0]):cs[i]?=some (.func (.func f0) #[] #[]):=by
 have h:=hel i hi;rw[hx] at h;obtain⟨ys,m,-,hy,-,hl,hf⟩:=DataW.trod_struct Tryz.underlying162 h;have h0:=hf 0 _ rfl;have hl:ys.length=1:=hl
 match ys,hl with
 |[y],_=>
  have aku:Tryz.prog.cellsOf 125=1:=kQ;simp only[cV,List.map_nil,iq,DataW.agg.injEq,A2,and_true] at hy
  have e:List.take 1 (List.drop 0 (List.take 1 (List.drop (i*1) cs)))=[cs[i]'oM]:=by
   rw[Nat.mul_one,dW (l:=cs) (i:=i) oM];rfl
  have h0':DataW.trod (funcToken aq) aq W 0 (fun _=>true) true m 125 (List.take (Tryz.prog.cellsOf 125) (List.drop 0 (List.take 1 (List.drop (i*1) cs))))=some y:=h0;rw[aku,e] at h0';have h1:DataW.trod (funcToken aq) aq W 0 (fun _=>true) true m 125 [cs[i]'oM]=some (.held (b::r),y.2):=by rw[h0',hy.1]
  have:=func_of_trod Tryz.underlying125 aeR h1;rw[List.getElem?_eq_getElem oM,this]
def X6{W:ak}(h:laidMetH aq Mh W):Laid W:=by
 obtain⟨g,t,cs,fuel,p,hg,ht,hv,htr⟩:=laidMetH.funcs h (.head _);obtain rfl:=bp (R7.symm.trans hg);obtain rfl:=bp (UN.symm.trans ht);obtain⟨xs,m,-,hx,hlen,hxl,hel⟩:=DataW.trod_array Tryz.underlying163 htr;have aks:Tryz.prog.cellsOf 163=5:=kQ;have akt:Tryz.prog.cellsOf 162=1:=kQ;rw[aks] at hlen;simp only[akt] at hel;simp only[iq] at hx;have hx:=hx.1;simp only[DataW.funcsOut,DataW.funcsOutAll,DataW.agg.injEq] at hx
 match xs,hxl with
 |[x0,x1,x2,x3,x4],_=>
  simp only[cV,List.map_nil,A2,and_true] at hx;obtain⟨y0,y1,y2,y3,y4⟩:=hx;have hc:=World.var?_cell hg hv;have hs:∀(i:Nat) (u:aj),cs.toList[i]?=some u->W.cell? ⟨0,i,none⟩=some u:=fun i u h=>(hc i).trans (by rw[<-Array.getElem?_toList];exact h);have z0:=hs 0 _ (zX (f0:=218) (q:=x0.2) hlen dC hel (congrArg some (Prod.ext y0.symm rfl)) kQ);have z1:=hs 1 _ (zX (f0:=219) (q:=x1.2) hlen dC hel (congrArg some (Prod.ext y1.symm rfl)) kQ);have z2:=hs 2 _ (zX (f0:=220) (q:=x2.2) hlen dC hel (congrArg some (Prod.ext y2.symm rfl)) kQ);have z3:=hs 3 _ (zX (f0:=221) (q:=x3.2) hlen dC hel (congrArg some (Prod.ext y3.symm rfl)) kQ);have z4:=hs 4 _ (zX (f0:=222) (q:=x4.2) hlen dC hel (congrArg some (Prod.ext y4.symm rfl)) kQ);exact⟨z0,z1,z2,z3,z4,Nat.lt_of_not_le fun h=>by rw[dP,fS h] at z0;cases z0⟩
end Go.Proofs.YtffladgmkiimjaaGreatDoor
namespace Go.Lag
open Go Go.RowKit
abbrev pv(b i:Nat):Value:=.pointer (some ⟨b,i,none⟩)
def Yields(P:aN)(o:cO)(ev:bI->aj)(w:ak)(R:aj->ak->Prop):Prop:=
 match (bY ev o).run P w with
 |.ok (.value v) w'=>R v w'
 |.ok .skip w'=>R aw w'
 |.ok (.enter f args) w'=>bm P f args w' fun e w''=>∃v,e=.returned v/\R v w''
 |_=>False
def Yields.value{P:aN}{o:cO}{ev:bI->aj}{w w':ak}{R:aj->ak->Prop}{v:aj}(he:(bY ev o).run P w=.ok (.value v) w')(h:R v w'):Yields P o ev w R:=by
 unfold Yields;rw[he];exact h
def Yields.skip{P:aN}{o:cO}{ev:bI->aj}{w w':ak}{R:aj->ak->Prop}(he:(bY ev o).run P w=.ok .skip w')(h:R aw w'):Yields P o ev w R:=by
 unfold Yields;rw[he];exact h
def Yields.call{P:aN}{o:cO}{ev:bI->aj}{w:ak}{R:aj->ak->Prop}{f:d_}{args:Array aj}{R':Ending->ak->Prop}(he:(bY ev o).run P w=.ok (.enter f args) w)
  (h:bm P f args w R') (hr:∀e w',R' e w'->∃v,e=.returned v/\R v w'):Yields P o ev w R:=by
 unfold Yields;rw[he];exact h.mono hr
def Yields.wp{P:aN}{o:cO}{a:j6}{w:ak}{R:aj->ak->Prop}{K:j6->ak->Prop}{Q:Exit->j6->ak->Prop}(h:Yields P o a.eval w R)
  (hk:∀v w',R v w'->K (a.put o.dst v) w'):o.wp P a w K Q:=by
 unfold Oper.wp;unfold Yields at h;generalize (bY a.eval o).run P w=r at *;cases r with
 |halt x w'=>exact h.elim
 |ok n w'=>
  cases n<;>simp only[] at h
  .exact hk _ _ h
  .exact hk _ _ h
  all_goals first|exact h.elim|skip
  exact h.mono (by rintro e w'' ⟨v,rfl,hv⟩;exact hk _ _ hv)
abbrev Pred:=aj->List aj->ak->Prop
def eo(aP:Array cO)(j:Nat):Option Tmp:=(aP[j]?).bind (·.dst)
def jn(d:Option jR)(ev:bI->aj):Value:=
 match d with
 |some d=>ev (.tmp d)
 |none=>aw
def gJ(Vs:List Pred)(i:Nat):Pred:=Vs.getD i fun _ _ _=>True
def gK(aP:Array cO)(ev:bI->aj)(l:List Edge):List Value:=(l.filter (fR .any)).map fun e=>jn (eo aP e.on) ev
def gi(aP:Array cO)(i:Nat):List Edge:=match aP[i]? with|some o=>o.after.toList|none=>[]
def gh(ev:bI->aj):List (jR × aj)->Prop
 |[]=>True
 |(t,v)::l=>ev (.tmp t)=v/\gh ev l
def Gk(aP:Array cO)(Vs:List Pred)(ev:bI->aj)(w:ak):List Edge->Prop
 |[]=>True
 |e::l=>(fR .any e=true->gJ Vs e.on (jn (eo aP e.on) ev) (gK aP ev (gi aP e.on)) w)/\Gk aP Vs ev w l
def Post(aP:Array cO)(ev:bI->aj)(Vs:List Pred)(S:ak->Prop)(i:Nat)(o:cO)(w:ak)(v:aj)(w':ak):Prop:=
 gJ Vs i (match o.dst with|some _=>v|none=>aw) (gK aP ev o.after.toList) w'/\(Bw w w'\/(S w'/\∀k u ds,k≠i->gJ Vs k u ds w->gJ Vs k u ds w'))
abbrev mQ:=cO->(bI->aj)->ak->(aj->ak->Prop)->Prop
def QR(Y:mQ)(aP:Array cO)(Vs:List Pred)(S:ak->Prop)(base:List (jR × aj))(i:Nat)(o:cO):Prop:=
 ∀(ev:bI->aj) (w:ak),S w->(∀v,ev (.const v)=v)->(∀g,ev (.global g)=.pointer (some ⟨g,0,none⟩))->(∀f,ev (.func f)=.func (.func f) #[] #[])->gh ev base->Gk aP Vs ev w o.after.toList->
  match o.guard with
  |none=>Y o ev w (Post aP ev Vs S i o w)
  |some (j,b)=>(∃r,jn (eo aP j) ev=.bool r)/\∀r,jn (eo aP j) ev=.bool r->if r=b then Y o ev w (Post aP ev Vs S i o w) else Post aP ev Vs S i o w aw w
def Each(Y:mQ)(aP:Array cO)(Vs:List Pred)(S:ak->Prop)(base:List (jR × aj)):Nat->List cO->Prop
 |_,[]=>True
 |i,o::l=>QR Y aP Vs S base i o/\Each Y aP Vs S base (i+1) l
def jo(S:ak->Prop):List Pred->Prop
 |[]=>True
 |V::l=>(∀u ds w w',S w->V u ds w->Bw w w'->V u ds w')/\jo S l
def ja(aP:Array cO)(n:Nat)(base:List (jR × aj)):Bool:=
 ((aS aP.size).all fun i=>
  match aP[i]? with
  |none=>false
  |some o=>(o.after.toList.all fun e=>!Region.binds .any e||decide (e.on<i)) &&
   (match o.dst with|some d=>decide (d<n)&&(base.all fun p=>decide (p.1≠d))&&((aS i).all fun j=>decide (eo aP j≠some d))|none=>true) &&
   (match o.guard with|some (j,_)=>(o.after.toList.any fun e=>fR .any e&&decide (e.on=j))|none=>true)) &&
 (base.all fun p=>decide (p.1<n))
section
variable{P:aN}{aP:Array cO}{Q:Exit->j6->ak->Prop}{Vs:List Pred}{S:ak->Prop}{base:List (jR × aj)}{n:Nat}
theorem Each.get{Y:mQ}{i:Nat}{l:List cO}(h:Each Y aP Vs S base i l){j:Nat}{o:cO}(hj:l[j]?=some o):QR Y aP Vs S base (i+j) o:=by
 induction l generalizing i j with
 |nil=>simp at hj
 |cons x l ih=>
  cases j with
  |zero=>simp at hj;subst hj;exact h.1
  |succ j=>have:=ih h.2 (j:=j) (by simpa using hj);rwa [ru,Nat.add_comm 1 j] at this
theorem jo.get(h:jo S Vs)(i:Nat){u:aj}{ds:List aj}{w w':ak}(hS:S w)(hb:Bw w w')(hv:gJ Vs i u ds w):gJ Vs i u ds w':=by
 induction Vs generalizing i with
 |nil=>trivial
 |cons V l ih=>
  cases i with
  |zero=>exact h.1 u ds w w' hS hv hb
  |succ i=>exact ih h.2 i hv
theorem gh.congr{ev FC:bI->aj}{l:List (jR × aj)}(h:gh ev l)(he:∀p∈l,FC (.tmp p.1)=ev (.tmp p.1)):gh FC l:=by
 induction l with
 |nil=>trivial
 |cons p l ih=>exact⟨(he p (by simp)).trans h.1,ih h.2 fun q hq=>he q (by simp[hq])⟩
theorem Gk.of{ev:bI->aj}{w:ak}{l:List Edge}(h:∀e∈l,fR .any e=true->gJ Vs e.on (jn (eo aP e.on) ev) (gK aP ev (gi aP e.on)) w):Gk aP Vs ev w l:=by
 induction l with
 |nil=>trivial
 |cons e l ih=>exact⟨h e (by simp),ih fun e' he=>h e' (by simp[he])⟩
theorem zG(a:j6)(d:Option jR)(v:aj):(a.put d v).tmps.size=a.tmps.size:=by cases d<;>simp[Act.put]
theorem put_defers(a:j6)(d:Option jR)(v:aj):(a.put d v).defers=a.defers:=by cases d<;>rfl
theorem ur(a:j6)(d:Option jR)(v:aj)(t:jR)(h:d≠some t):(a.put d v).eval (.tmp t)=a.eval (.tmp t):=by
 cases d with
 |none=>rfl
 |some d=>
  have:d≠t:=fun e=>h (by rw[e]);simp[Act.put,Act.eval,a_,bK,this]
theorem put_eq(a:j6)(d:jR)(v:aj)(h:d<a.tmps.size):(a.put (some d) v).eval (.tmp d)=v:=by
 simp[Act.put,Act.eval,a_,bK,h]
structure jh(aP:Array cO)(Vs:List Pred)(S:ak->Prop)(a0:j6)(L:Array Bool)(a:j6)(w:ak):Prop where
 uU:L.size=aP.size
 size:a.tmps.size=a0.tmps.size
 defers:a.defers=a0.defers
 s:S w
 keep:∀t,(∀o∈aP.toList,o.dst≠some t)->a.eval (.tmp t)=a0.eval (.tmp t)
 closed:∀i e,L.getD i false=true->e∈gi aP i->fR .any e=true->L.getD e.on false=true
 vals:∀i,L.getD i false=true->gJ Vs i (jn (eo aP i) a.eval) (gK aP a.eval (gi aP i)) w
theorem Nv{i:Nat}{e:Edge}(hok:ja aP n base=true)(he:e∈gi aP i)(hb:fR .any e=true):e.on<aP.size:=by
 unfold gi at he
 by_cases hi:i<aP.size
 .have xw:aP[i]?=some aP[i]:=aQ hi;rw[xw] at he;unfold ja at hok;rw[aJ,aX] at hok;have h2:=hok.1 i (bV.2 hi);rw[xw] at h2;simp only[aJ] at h2;have h3:=aX.1 h2.1.1 e he;simp only[hb,vH,Bool.false_or,decide_eq_true_eq] at h3;omega
 simp[fS (Nat.le_of_not_lt hi)] at he
theorem qi{ev FC:bI->aj}{l:List Edge}(h:∀e∈l,fR .any e=true->jn (eo aP e.on) FC=jn (eo aP e.on) ev):gK aP FC l=gK aP ev l:=by
 unfold gK;apply Gy;intro e he;rw[kD] at he;exact h e he.1 he.2
theorem ready_nil{L:Array Bool}(hok:ja aP n base=true)(hL:L.size=aP.size)(h:jm .any aP L=[]):∀i,i<aP.size->L.getD i false=true:=by
 intro i
 induction i using Nat.strongRecOn with
 |ind i ih=>
  intro hi;refine Classical.byContradiction fun hc=>?_
  have hm:i∈jm .any aP L:=by
   unfold jm;rw[kD];have xw:aP[i]?=some aP[i]:=aQ hi;refine⟨bV.2 hi,?_⟩;have nw:i<L.size:=by omega
   have h1:L.getD i true=false:=by
    simp[eH,nw] at hc ⊢;exact hc
   rw[h1,xw];simp only[Bool.not_false,Bool.true_and,dM,Option.getD_some];rw[Array.all_eq_true];intro k hk;unfold ja at hok;rw[aJ,aX] at hok;have h2:=hok.1 i (bV.2 hi);rw[xw] at h2;simp only[aJ] at h2;have h3:=aX.1 h2.1.1 (aP[i].after[k]) (by simp);simp only[Bool.or_eq_true,Bool.not_eq_true',decide_eq_true_eq] at h3 ⊢;rcases h3 with h3|h3
   .exact .inl h3
   exact .inr (ih _ h3 (by omega))
  rw[h] at hm;cases hm
def anyOf(oD:Nat->(j6->ak->Prop)->j6->ak->Prop)(aP:Array cO)(Q:Exit->j6->ak->Prop):Nat->Array Bool->j6->ak->Prop
 |0,L,a,w=>jm .any aP L=[]/\Q .normal a w
 |fuel+1,L,a,w=>(jm .any aP L=[]->Q .normal a w)/\∀i∈jm .any aP L,oD i (anyOf oD aP Q fuel (L.setIfInBounds i true)) a w
theorem Eb:∀fuel L,wpAny P .any aP Q fuel L=anyOf (wpOp P aP Q) aP Q fuel L
 |0,L=>rfl
 |fuel+1,L=>by
  funext a w
  simp only[wpAny,anyOf];simp only[Eb fuel]
theorem yy{a0:j6}{w:ak}(hS:S w):jh aP Vs S a0 (bF aP.size false) a0 w:=⟨by simp,rfl,rfl,hS,fun _ _=>rfl,fun i e hi _ _=>by
  simp[a_,ry] at hi;split at hi<;>simp at hi,fun i hi=>by
  simp[a_,ry] at hi
  split at hi<;>simp at hi⟩
theorem wD:(bF aP.size false).toList.countP (!·)<=aP.size:=by simpa using yj (p:=(!·)) (l:=List.replicate aP.size false)
end
namespace Gd
open Go Go.RowKit
def QR(Y:mQ)(aP:Array cO)(Vs:List Pred)(S:ak->Prop)(base:List (jR × aj))(i:Nat)(o:cO):Prop:=
 ∀(ev:bI->aj) (w:ak),S w->(∀v,ev (.const v)=v)->(∀g,ev (.global g)=.pointer (some ⟨g,0,none⟩))->(∀f,ev (.func f)=.func (.func f) #[] #[])->gh ev base->Gk aP Vs ev w o.after.toList->
  match o.guard with
  |none=>Y o ev w (Post aP ev Vs S i o w)
  |some (j,b)=>(jn (eo aP j) ev=.bool b->Y o ev w (Post aP ev Vs S i o w))/\(jn (eo aP j) ev≠.bool b->Post aP ev Vs S i o w aw w)
def Each(Y:mQ)(aP:Array cO)(Vs:List Pred)(S:ak->Prop)(base:List (jR × aj)):Nat->List cO->Prop
 |_,[]=>True
 |i,o::l=>QR Y aP Vs S base i o/\Each Y aP Vs S base (i+1) l
section
variable{P:aN}{aP:Array cO}{Q:Exit->j6->ak->Prop}{Vs:List Pred}{S:ak->Prop}{base:List (jR × aj)}{n:Nat}
theorem Each.get{Y:mQ}{i:Nat}{l:List cO}(h:Each Y aP Vs S base i l){j:Nat}{o:cO}(hj:l[j]?=some o):QR Y aP Vs S base (i+j) o:=by
 induction l generalizing i j with
 |nil=>simp at hj
 |cons x l ih=>
  cases j with
  |zero=>simp at hj;subst hj;exact h.1
  |succ j=>have:=ih h.2 (j:=j) (by simpa using hj);rwa [ru,Nat.add_comm 1 j] at this
theorem AU{Y:mQ}{oD:Nat->(j6->ak->Prop)->j6->ak->Prop}
  (hs1:∀i o K a w R,aP[i]?=some o->cU o (j8 aP a.tmps)=true->Y o a.eval w R->(∀v w',R v w'->K (a.put o.dst v) w')->oD i K a w)
  (hs2:∀i o K a w,aP[i]?=some o->¬cU o (j8 aP a.tmps)=true->K (a.put o.dst aw) w->oD i K a w)
  (hok:ja aP n base=true) (Bq:jo S Vs) (IQ:∀w w',S w->Bw w w'->S w') (a0:j6) (hn:a0.tmps.size=n) (hbase:gh a0.eval base) (lo:Nat) (hE:∀j o,lo<=j->aP[j]?=some o->QR Y aP Vs S base j o)
  (hQ:∀a w,jh aP Vs S a0 (bF aP.size true) a w->Q .normal a w) :
  ∀fuel (L:Array Bool) (a:j6) (w:ak),L.toList.countP (!·)<=fuel->(∀k,k<lo->L.getD k false=true)->jh aP Vs S a0 L a w->anyOf oD aP Q fuel L a w:=by
 have fin:∀(L:Array Bool) (a:j6) (w:ak),jm .any aP L=[]->jh aP Vs S a0 L a w->Q .normal a w:=fun L a w hr h=>
  hQ a w ⟨by simp,h.size,h.defers,h.s,h.keep,fun i e hi he hb=>by
   have hlt:e.on<aP.size:=Nv hok he hb;simp[eH,hlt],fun i hi=>by
   by_cases hlt:i<aP.size
   .exact h.vals i (ready_nil hok h.uU hr i hlt)
   simp[eH,hlt] at hi⟩
 intro fuel
 induction fuel with
 |zero=>
  intro L a w hc hlo h
  have hr:jm .any aP L=[]:=by
   apply List.eq_nil_iff_forall_not_mem.2;intro i hi;unfold jm at hi;rw[kD,bV] at hi;obtain⟨hi,h2⟩:=hi;have nw:i<L.size:=by have:=h.uU;omega
   simp[eH,nw] at h2;have h0:=List.countP_eq_zero.1 (Nat.le_zero.1 hc) L[i] (by simp);simp[h2.1] at h0
  exact⟨hr,fin L a w hr h⟩
 |succ fuel ih=>
  intro L a w hc hlo h;refine⟨fun hr=>fin L a w hr h,fun i hi=>?_⟩;have hi':=hi;unfold jm at hi';rw[kD,bV] at hi';obtain⟨hlt,h2⟩:=hi';have nw:i<L.size:=by have:=h.uU;omega
  have xw:aP[i]?=some aP[i]:=aQ hlt;generalize aP[i]=o at xw;rw[xw] at h2;simp only[aJ,Bool.not_eq_true',dM,Option.getD_some,Array.all_eq_true] at h2;obtain⟨Vq,Vf⟩:=h2
  have DX:o∈aP.toList:=by
   have:=fq xw;simpa using this
  have sF:=hok;unfold ja at sF;rw[aJ,aX,aX] at sF;have wh:=sF.1 i (bV.2 hlt);rw[xw] at wh;simp only[aJ] at wh;obtain⟨⟨abW,vt⟩,abw⟩:=wh
  have Vt:Gk aP Vs a.eval w o.after.toList:=Gk.of fun e he hb=>by
   obtain⟨k,hk,rfl⟩:=iG he;have:=Vf k (by simpa using hk);simp only[rG] at hb ⊢;rw[hb] at this;simp only[vH,Bool.false_or] at this;exact h.vals _ this
  have hBs:gh a.eval base:=hbase.congr fun p hp=>h.keep _ fun o' ho' hd=>by
   obtain⟨k,hk,rfl⟩:=iG ho';have rA:k<aP.size:=by simpa using hk
   have h3:=sF.1 k (bV.2 rA);rw[aQ rA] at h3;simp only[rG] at hd;simp only[aJ,hd] at h3;have:=aX.1 h3.1.2.1.2 p hp;simp at this
  have hil:lo<=i:=by
   refine Nat.le_of_not_lt fun hc2=>?_;have:=hlo i hc2;simp[eH,nw] at Vq this;rw[Vq] at this;cases this
  have hO:=hE i o hil xw a.eval w h.s (fun _=>rfl) (fun _=>rfl) (fun _=>rfl) hBs Vt;have hao:gi aP i=o.after.toList:=by unfold gi;rw[xw]
  have Mu:∀e∈o.after.toList,fR .any e=true->L.getD e.on false=true:=fun e he hb=>by
   obtain⟨k,hk,rfl⟩:=iG he;have:=Vf k (by simpa using hk);simp only[rG] at hb ⊢;rw[hb] at this;simpa using this
  have hne:∀k,L.getD k false=true->k≠i/\k<aP.size:=fun k hk=>by
   refine⟨fun e=>?_,?_⟩
   .subst e;simp[eH,nw] at Vq hk;rw[Vq] at hk;cases hk
   rcases Nat.lt_or_ge k aP.size with h5|h5
   .exact h5
   have:¬k<L.size:=by have:=h.uU;omega
   simp[eH,this] at hk
  have next:∀v w',Post aP a.eval Vs S i o w v w'->anyOf oD aP Q fuel (L.setIfInBounds i true) (a.put o.dst v) w':=fun v w' hp=>by
   have hval:∀k,L.getD k false=true->jn (eo aP k) (a.put o.dst v).eval=jn (eo aP k) a.eval:=fun k rA=>by
    obtain⟨AX,Ab⟩:=hne k rA;cases NJ:eo aP k with
    |none=>rfl
    |some d=>
     refine ur _ _ _ _ fun ZR=>?_;rcases Nat.lt_trichotomy k i with h5|h5|h5
     .rw[ZR] at vt;simp only[aJ,decide_eq_true_eq] at vt;have:=aX.1 vt.2 k (bV.2 h5);simp[NJ] at this
     .exact AX h5
     have h6:=sF.1 k (bV.2 Ab);rw[aQ Ab] at h6
     have h7:(aP[k]).dst=some d:=by
      unfold eo at NJ;rw[aQ Ab] at NJ;simpa using NJ
     simp only[aJ,h7] at h6;have:=aX.1 h6.1.2.2 i (bV.2 h5);unfold eo at this;rw[xw] at this;simp[ZR] at this
   have vp:∀k,L.getD k false=true->(L.setIfInBounds i true).getD k false=true:=fun k hk=>by
    have:=(hne k hk).1;simpa [a_,bK,Cb this] using hk
   have hback:∀k,k≠i->(L.setIfInBounds i true).getD k false=true->L.getD k false=true:=fun k AX hk=>by
    simpa [a_,bK,Cb AX] using hk
   refine ih _ _ _ ?_ (fun k hk=>vp k (hlo k hk)) ⟨by simp[h.uU],by rw[zG,h.size],by rw[put_defers,h.defers],?_,fun t ht=>?_,fun k e hk he hb=>?_,fun k hk=>?_⟩
   .have hLv:L[i]=false:=by simpa [eH,nw] using Vq
    have h4:(L.setIfInBounds i true).toList.countP (!·)=L.toList.countP (!·)-1:=by
     rw[Array.toList_setIfInBounds,List.countP_set (by simpa using nw)];simp[hLv]
    omega
   .exact hp.2.elim (fun hb=>IQ _ _ h.s hb) fun hs=>hs.1
   .rw[ur _ _ _ _ (ht o DX)];exact h.keep t ht
   .by_cases AX:k=i
    .subst AX;rw[hao] at he;exact vp _ (Mu e he hb)
    exact vp _ (h.closed k e (hback k AX hk) he hb)
   by_cases AX:k=i
   .subst AX
    have hdd:gK aP (a.put o.dst v).eval (gi aP k)=gK aP a.eval o.after.toList:=by
     rw[hao];exact qi fun e he hb=>hval _ (Mu e he hb)
    rw[hdd];have:=hp.1;unfold eo jn;rw[xw];simp only[gW];cases hd:o.dst with
    |none=>rw[hd] at this;exact this
    |some d=>
     rw[hd] at this vt;simp only[aJ,decide_eq_true_eq] at vt;have h9:=put_eq a d v (by rw[h.size,hn];exact vt.1.1);simp only[] at this ⊢;rw[h9];exact this
   have rA:=hback k AX hk;have hvk:=h.vals k rA;have hdd:gK aP (a.put o.dst v).eval (gi aP k)=gK aP a.eval (gi aP k):=qi fun e he hb=>hval _ (h.closed k e rA he hb);rw[hval k rA,hdd];exact hp.2.elim (fun hb=>Bq.get k h.s hb hvk) fun hs=>hs.2 k _ _ AX hvk
  cases hg:o.guard with
  |none=>
   rw[hg] at hO;exact hs1 i o _ a w _ xw (by simp[cU,hg]) hO next
  |some jb=>
   obtain⟨j,b⟩:=jb;rw[hg] at hO;obtain⟨hO1,Xn⟩:=hO
   by_cases hr:jn (eo aP j) a.eval=.bool b
   .have hy:j8 aP a.tmps j=some b:=by
     unfold j8;unfold jn at hr;unfold eo at hr;cases hd:(aP[j]?).bind (·.dst) with
     |none=>rw[hd] at hr;simp[aw] at hr
     |some d=>
      rw[hd] at hr;simp only[gW]
      have h8:a.tmps[d]?=some (.bool b):=by
       unfold Act.eval at hr;simp only[] at hr
       by_cases Dr:d<a.tmps.size
       .simp[eH,Dr] at hr;rw[aQ Dr,hr]
       simp[eH,Dr,aw] at hr
      rw[h8]
    exact hs1 i o _ a w _ xw (by simp[cU,hg,hy]) (hO1 hr) next
   have hy:j8 aP a.tmps j≠some b:=by
    intro hy;refine hr ?_;unfold j8 at hy;unfold jn eo;cases hd:(aP[j]?).bind (·.dst) with
    |none=>rw[hd] at hy;simp at hy
    |some d=>
     rw[hd] at hy;simp only[gW] at hy;simp only[];unfold Act.eval;simp only[];cases h8:a.tmps[d]? with
     |none=>rw[h8] at hy;simp at hy
     |some v=>
      rw[h8] at hy
      have hv:v=.bool b:=by
       revert hy;cases v<;>simp
      simp[a_,h8,hv]
   exact hs2 i o _ a w xw (by simpa [cU,hg] using hy) (next _ _ (Xn hr))
theorem cy{id:Nat}{a0:j6}{w:ak}(hm:P.follows .mixedOrders=true)(Vs:List Pred)(S:ak->Prop)(base:List (jR × aj))(hok:ja aP a0.tmps.size base=true)(Bq:jo S Vs)(IQ:∀w w',S w->Bw w w'->S w')
  (hS:S w.drew) (hbase:gh a0.eval base) (hE:Each (Yields P) aP Vs S base 0 aP.toList) (hQ:∀a w,jh aP Vs S a0 (bF aP.size true) a w->Q .normal a w):(Ch id aP true).wp P Q a0 w:=
 wp_region_any hm (by
  rw[Eb]
  exact AU (Y:=Yields P) (fun i o K a w R ho hw hy hk=>wpOp_step ho fun K' hK=>by rw[if_pos hw];exact hy.wp fun v w' hv=>hK _ _ (hk v w' hv))
   (fun i o K a w ho hw hk=>wpOp_step ho fun K' hK=>by rw[if_neg hw];exact hK _ _ hk) hok Bq IQ a0 rfl hbase 0 (fun j o _ h=>by have:=hE.get (j:=j) (o:=o) (by simpa using h);rwa [dh] at this) hQ aP.size _ a0 _ wD (fun k hk=>by omega) (yy hS))
end
end Gd
section
variable{P:aN}{aP:Array cO}{Q:Exit->j6->ak->Prop}{Vs:List Pred}{S:ak->Prop}{base:List (jR × aj)}{n:Nat}
theorem QR.gd{Y:mQ}{i:Nat}{o:cO}(h:QR Y aP Vs S base i o):Gd.QR Y aP Vs S base i o:=by
 intro ev w hS hc hg hf hb hd;have h1:=h ev w hS hc hg hf hb hd;cases hgd:o.guard with
 |none=>rw[hgd] at h1;exact h1
 |some jb=>
  obtain⟨j,b⟩:=jb;rw[hgd] at h1;obtain⟨⟨r,hr⟩,h2⟩:=h1;exact⟨fun e=>by have:=h2 b e;rwa [if_pos rfl] at this,fun e=>by have:=h2 r hr;rwa [if_neg (fun h=>e (hr.trans (congrArg _ h)))] at this⟩
theorem Each.gd{Y:mQ}:∀ {i:Nat} {l:List cO},Each Y aP Vs S base i l->Gd.Each Y aP Vs S base i l
 |_,[],_=>trivial
 |_,_::_,h=>⟨h.1.gd,Each.gd h.2⟩
theorem cy{id:Nat}{a0:j6}{w:ak}(hm:P.follows .mixedOrders=true)(Vs:List Pred)(S:ak->Prop)(base:List (jR × aj))(hok:ja aP a0.tmps.size base=true)(Bq:jo S Vs)(IQ:∀w w',S w->Bw w w'->S w')
  (hS:S w.drew) (hbase:gh a0.eval base) (hE:Each (Yields P) aP Vs S base 0 aP.toList) (hQ:∀a w,jh aP Vs S a0 (bF aP.size true) a w->Q .normal a w):(Ch id aP true).wp P Q a0 w:=
 Gd.cy hm Vs S base hok Bq IQ hS hbase hE.gd hQ
def keeps(aP:Array cO)(t:jR):Bool:=aP.toList.all fun o=>decide (o.dst≠some t)
theorem jh.kept{a0 a:j6}{L:Array Bool}{w:ak}(h:jh aP Vs S a0 L a w){t:jR}(hk:keeps aP t=true):a.tmps.getD t aw=a0.tmps.getD t undef:=
 h.keep t fun o ho=>by
  have:=aX.1 hk o ho;simpa using this
theorem jh.kp{a0 a:j6}{L:Array Bool}{w:ak}(h:jh aP Vs S a0 L a w)(t:jR)(hk:keeps aP t=true:=by kernel_rfl):a.tmps.getD t aw=a0.tmps.getD t undef:=h.kept hk
theorem jh.val{a0 a:j6}{w:ak}(h:jh aP Vs S a0 (bF aP.size true) a w)(i:Nat)(hi:i<aP.size:=by decide):gJ Vs i (jn (eo aP i) a.eval) (gK aP a.eval (gi aP i)) w:=h.vals i (by simp[eH,hi])
theorem jh.act{a0 a:j6}{L:Array Bool}{w:ak}(h:jh aP Vs S a0 L a w):a=⟨((aS a0.tmps.size).map fun t=>a.tmps.getD t aw).toArray,a0.defers⟩:=by
 have h1:=h.size;have h2:=h.defers;obtain⟨tm,df⟩:=a;simp only[] at h1 h2;subst h2;rw[<-h1]
 congr 1
 apply Array.ext
 .simp
 intro i h1 h2;simp[eH,h1]
theorem jh.lits{a0 a:j6}{L:Array Bool}{w:ak}(h:jh aP Vs S a0 L a w)(n:Nat)(hn:a0.tmps.size=n):a=⟨((aS n).map fun t=>a.tmps.getD t aw).toArray,a0.defers⟩:=hn▸h.act
end
def kY(l:List aj)(i:Nat)(d:aj):l.toArray.getD i d=l.getD i d:=by simp[a_,List.getD]
def rM{P:aN}{o:cO}{ev:bI->aj}{w:ak}{c a b:bI}{t:Bool}(ho:o.op=.pick c a b)(hc:ev c=.bool t):(bY ev o).run P w=.ok (.value (if t then ev a else ev b)) w:=by
 unfold bY;simp only[ho,hc,asBool,mI,Ca,h_]
def Yields.adV{P:aN}{o:cO}{ev:bI->aj}{w:ak}{R:aj->ak->Prop}{c b:bI}{A B:Bool}(ho:o.op=.pick c (.const (.bool true)) b)(hc:∀v,ev (.const v)=v)(hA:ev c=.bool A)(hB:A=false->ev b=.bool B)(h:R (.bool (A||B)) w):Yields P o ev w R:=by
 refine .value (rM ho hA) ?_;cases A
 .rw[hB rfl];exact h
 rw[hc];exact h
def Yields.adW{P:aN}{o:cO}{ev:bI->aj}{w:ak}{R:aj->ak->Prop}{c b:bI}{A B:Bool}(ho:o.op=.pick c b (.const (.bool false)))(hc:∀v,ev (.const v)=v)(hA:ev c=.bool A)(hB:A=true->ev b=.bool B)(h:R (.bool (A&&B)) w):Yields P o ev w R:=by
 refine .value (rM ho hA) ?_;cases A
 .rw[hc];exact h
 rw[hB rfl];exact h
abbrev pV(x:aj):Pred:=fun v _ _=>v=x
abbrev pC(c:Bool)(x:aj):Pred:=fun v _ _=>c=true->v=x
def sV{S:ak->Prop}{x:aj}:∀(u:aj) (ds:List aj) (w w':ak),S w->pV x u ds w->Bw w w'->pV x u ds w':=fun _ _ _ _ _ h _=>h
def sC{S:ak->Prop}{c:Bool}{x:aj}:∀(u:aj) (ds:List aj) (w w':ak),S w->pC c x u ds w->Bw w w'->pC c x u ds w':=fun _ _ _ _ _ h _=>h
section
variable{P:aN}{aP:Array cO}{Vs:List Pred}{S:ak->Prop}{o:cO}{ev:bI->aj}{w:ak}{i:Nat}
theorem yv{v:aj}(he:(bY ev o).run P w=.ok (.value v) w)(hp:gJ Vs i (match o.dst with|some _=>v|none=>aw) (gK aP ev o.after.toList) w):Yields P o ev w (Post aP ev Vs S i o w):=.value he ⟨hp,.inl (aB _ _)⟩
theorem kS{S:ak->Prop}{Q:aj->List aj->Prop}:∀(u:aj) (ds:List aj) (w w':ak),S w->Q u ds->fV w.heap.size w w'->Q u ds:=fun _ _ _ _ _ h _=>h
theorem tV{p:Prop}(h:p:=by refine yv ?_ rfl;go_simp):p:=h
theorem yO{c b:bI}{A B:Bool}(ho:o.op=.pick c (.const (.bool true)) b)(hc:∀v,ev (.const v)=v)(hA:ev c=.bool A)(hB:A=false->ev b=.bool B)(hp:gJ Vs i (match o.dst with | some _=>.bool (A||B) | none=>aw) (gK aP ev o.after.toList) w):Yields P o ev w (Post aP ev Vs S i o w):=.adV ho hc hA hB ⟨hp,.inl (aB _ _)⟩
theorem yA{c b:bI}{A B:Bool}(ho:o.op=.pick c b (.const (.bool false)))(hc:∀v,ev (.const v)=v)(hA:ev c=.bool A)(hB:A=true->ev b=.bool B)(hp:gJ Vs i (match o.dst with|some _=>.bool (A&&B)|none=>aw) (gK aP ev o.after.toList) w):Yields P o ev w (Post aP ev Vs S i o w):=.adW ho hc hA hB ⟨hp,.inl (aB _ _)⟩
theorem yc{f:d_}{args:Array aj}{X:aj}(h:bm P f args w fun e w'=>e=.returned X/\Bw w w')(he:(bY ev o).run P w=.ok (.enter f args) w)(hp:∀w',gJ Vs i (match o.dst with|some _=>X|none=>aw) (gK aP ev o.after.toList) w'):Yields P o ev w (Post aP ev Vs S i o w):=
 .call he h (by rintro e w2 ⟨rfl,hb⟩;exact⟨_,rfl,hp _,.inl hb⟩)
theorem yq{f:d_}{args:Array aj}{X:aj}(h:bm P f args w fun e w'=>e=.returned X/\w=w')(he:(bY ev o).run P w=.ok (.enter f args) w)(hp:∀w',gJ Vs i (match o.dst with|some _=>X|none=>aw) (gK aP ev o.after.toList) w'):Yields P o ev w (Post aP ev Vs S i o w):=
 .call he h (by rintro e w2 ⟨rfl,rfl⟩;exact⟨_,rfl,hp _,.inl (aB _ _)⟩)
end
section
variable{A b x:Bool}{val V0 u X:aj}{Y R Z:Prop}{w:ak}
theorem gC(d:val=V0)(l:V0=.bool b↔A=true)(h:A=true->Y):(val=.bool b->Y)/\(val≠.bool b->(A=true->u=X)/\(Bw w w\/Z)):=
 ⟨fun e=>h (l.1 (d.symm.trans e)),fun e=>⟨fun hc=>absurd (d.trans (l.2 hc)) e,.inl (aB _ _)⟩⟩
theorem gN(d:val=.bool x)(hne:(x==b)=false):(val=.bool b->Y)/\(val≠.bool b->True/\(Bw w w\/Z)):=
 ⟨fun e=>absurd (d.symm.trans e) (by intro h;cases h;simp at hne),fun _=>⟨trivial,.inl (aB _ _)⟩⟩
theorem gL(d:val=.bool b)(h:Y):(val=.bool b->Y)/\(val≠.bool b->R):=⟨fun _=>h,fun e=>absurd d e⟩
end
def Yields.nt{P:aN}{o:cO}{ev:bI->aj}{w:ak}{R:aj->ak->Prop}(ty:a7)(x y:bI)(ho:o.op=.store ty x y)(g:Nat)(cells:Array aj)(hx:ev x=.pointer (some ⟨g,0,none⟩))(hy:ev y=.agg cells)
  (t:a7) (old:Array aj) (hg:w.heap[g]?=some (.cells old t (0,0))) (hi:(P.info? ty).map (·.size)=some cells.size) (hold:old.size=cells.size) (h1:cells.all (·.oneCell')=true) (h:R aw (w.setRow g cells)):Yields P o ev w R:=by
 refine Yields.skip (w':=w.setRow g cells) ?_ h;unfold bY;simp only[ho,hx,hy,Instr.storeAt,Instr.sureAddr,mI,Ca,h_,run_storeVar_row w g t ty old cells hg hi hold h1]
def Yields.qP{P:aN}{o:cO}{ev:bI->aj}{w:ak}{R:aj->ak->Prop}(ty:a7)(x:bI)(ho:o.op=.load ty x)(g:Nat)(hx:ev x=.pointer (some ⟨g,0,none⟩))(t:a7)(cs:Array aj)(fr:Nat × Nat)(d:TypeDesc)(hg:w.heap[g]?=some (.cells cs t fr))
  (hu:P.underlying ty=some d) (hd:(match d with|.struct _|.array _ _=>true|_=>false)=true) (hi:(P.info? ty).map (·.size)=some cs.size) (h:R (.agg cs) w):Yields P o ev w R:=by
 refine Yields.value (v:=.agg cs) (w':=w) ?_ h;unfold bY;simp only[ho,hx,Instr.loadAt,Instr.sureAddr,mI,Ca,h_,run_loadVar_row w g t ty cs fr d hg hu hd hi]
def E5{P:aN}{aP:Array cO}{Vs:List Pred}{S:ak->Prop}{o:cO}{ev:bI->aj}{w:ak}{i:Nat}(ty:a7){x:bI}(ho:o.op=.load ty x){g:Nat}(hx:ev x=.pointer (some ⟨g,0,none⟩)){t:a7}{cs:Array aj}{fr:Nat × Nat}{d:TypeDesc}(hg:w.heap[g]?=some (.cells cs t fr))
  (hu:P.underlying ty=some d) (hd:(match d with|.struct _|.array _ _=>true|_=>false)=true) (hi:(P.info? ty).map (·.size)=some cs.size) (hp:gJ Vs i (match o.dst with|some _=>.agg cs|none=>aw) (gK aP ev o.after.toList) w):Yields P o ev w (Post aP ev Vs S i o w):=
 Yields.qP ty x ho g hx t cs fr d hg hu hd hi ⟨hp,.inl (aB _ _)⟩
namespace Gd
section
variable{P:aN}{aP:Array cO}{Q:Exit->j6->ak->Prop}{Vs:List Pred}{S:ak->Prop}{base:List (jR × aj)}{n:Nat}
theorem qB{i:Nat}{o:cO}{e:Edge}(hok:ja aP n base=true)(ho:aP[i]?=some o)(he:e∈o.after.toList)(hb:fR .any e=true):e.on<i:=by
 have hi:i<aP.size:=(ah.1 ho).1;unfold ja at hok;rw[aJ,aX] at hok;have h2:=hok.1 i (bV.2 hi);rw[ho] at h2;simp only[aJ] at h2;have h3:=aX.1 h2.1.1 e he;simpa [hb] using h3
theorem Rz{L:Array Bool}{i:Nat}(hok:ja aP n base=true)(hlt:i<aP.size)(hL:L.size=aP.size)(hk:∀k,L.getD k false=decide (k<i)):i∈jm .any aP L:=by
 unfold jm;rw[kD];have xw:aP[i]?=some aP[i]:=aQ hlt;refine⟨bV.2 hlt,?_⟩;have nw:i<L.size:=by omega
 have h1:L.getD i true=false:=by
  have:=hk i;simp[eH,nw] at this ⊢;exact this
 rw[h1,xw];simp only[Bool.not_false,Bool.true_and,dM,Option.getD_some];rw[Array.all_eq_true];intro k hk2;cases hb:fR .any aP[i].after[k] with
 |false=>rfl
 |true=>
  have:=qB hok xw (e:=aP[i].after[k]) (by simp) hb;rw[hk];simp[this]
theorem Ye{L:Array Bool}{i:Nat}(nw:i<L.size)(hk:∀k,L.getD k false=decide (k<i))(k:Nat):(L.setIfInBounds i true).getD k false=decide (k<i+1):=by
 by_cases AX:k=i
 .subst AX;simp[a_,bK,nw]
 have:=hk k;rw[a_,bK,if_neg (Cb AX),<-a_,this];simp;omega
theorem zo(hok:ja aP n base=true):∀(m i:Nat) (L:Array Bool) (a:j6) (w:ak),i+m=aP.size->L.size=aP.size->(∀k,L.getD k false=decide (k<i))->anyOf (wpOp P aP Q) aP Q m L a w->wpOps P aP Q (bN i m) a w
 |0,i,L,a,w,hi,hL,hk,h=>h.2
 |m+1,i,L,a,w,hi,hL,hk,h=>by
  show wpOps P aP Q (i::bN (i+1) m) a w;rw[wpOps_cons];exact wpOp_mono (fun a w h=>zo hok m (i+1) _ a w (by omega) (by simpa using hL) (Ye (by omega) hk) h) (h.2 i (Rz hok (by omega) hL hk))
def OD(n i:Nat):Array Bool:=((aS n).map fun k=>decide (k<i)).toArray
theorem zW(n i k:Nat)(hi:i<=n):(OD n i).getD k false=decide (k<i):=by
 unfold OD;rw[a_]
 by_cases hk:k<n
 .simp[hk]
 have:¬k<i:=by omega
 simp[hk,this]
theorem Je{a0:j6}{w:ak}(i m:Nat)(him:i+m=aP.size)(Vs:List Pred)(S:ak->Prop)(base:List (jR × aj))(hok:ja aP n base=true)(hn:a0.tmps.size=n)(Bq:jo S Vs)(IQ:∀w w',S w->Bw w w'->S w')
  (hS:S w) (hbase:gh a0.eval base) (Yy:∀k,k<i->gJ Vs k (jn (eo aP k) a0.eval) (gK aP a0.eval (gi aP k)) w) (hE:Each (Yields P) aP Vs S base i (aP.toList.drop i)) (hQ:∀a w,jh aP Vs S a0 (bF aP.size true) a w->Q .normal a w):wpOps P aP Q (bN i m) a0 w:=by
 refine zo hok m i (OD aP.size i) a0 w him (by simp[OD]) (fun k=>zW _ _ _ (by omega)) ?_
 refine AU (Y:=Yields P) (fun i o K a w R ho hw hy hk=>wpOp_step ho fun K' hK=>by rw[if_pos hw];exact hy.wp fun v w' hv=>hK _ _ (hk v w' hv))
  (fun i o K a w ho hw hk=>wpOp_step ho fun K' hK=>by rw[if_neg hw];exact hK _ _ hk) hok Bq IQ a0 hn hbase i (fun j o hj h=>by
   have:=hE.get (j:=j-i) (o:=o) (by rw[List.getElem?_drop,show i+(j-i)=j by omega];simpa using h)
   rwa [show i+(j-i)=j by omega] at this) hQ m _ a0 _ ?_ (fun k hk=>by rw[zW _ _ _ (by omega)];simpa using hk) ⟨by simp[OD],rfl,rfl,hS,fun _ _=>rfl,fun k e hk he hb=>?_,fun k hk=>?_⟩
 .have e:(OD aP.size i).toList=(aS i).map (fun _=>true)++(bN i m).map fun _=>false:=by
   unfold OD;simp only
   have:aS aP.size=aS i++bN i m:=by
    rw[ng,ng,<-him,<-List.range'_append_1,dh]
   rw[this,eF]
   congr 1
   .apply Gy;intro k hk;simpa using hk
   apply Gy;intro k hk;have:=(List.mem_range'_1.1 hk).1;simp;omega
  rw[e,List.countP_append]
  have h1:((aS i).map fun _=>true).countP (!·)=0:=by
   rw[List.countP_eq_zero];intro x hx;simp at hx;simp[hx.2]
  have h2:=yj (p:=(!·)) (l:=(bN i m).map fun _=>false);simp only[List.length_map,List.length_range'] at h2;omega
 .rw[zW _ _ _ (by omega)] at hk ⊢;have AX:k<i:=by simpa using hk
  unfold gi at he;have hko:aP[k]?=some aP[k]:=aQ (by omega);rw[hko] at he;have:=qB hok hko he hb;simp;omega
 rw[zW _ _ _ (by omega)] at hk;exact Yy k (by simpa using hk)
theorem Jf{id:Nat}{a0:j6}{w:ak}(Vs:List Pred)(S:ak->Prop)(base:List (jR × aj))(hok:ja aP n base=true)(hn:a0.tmps.size=n)(Bq:jo S Vs)(IQ:∀w w',S w->Bw w w'->S w')
  (hS:S w) (hbase:gh a0.eval base) (hE:Each (Yields P) aP Vs S base 0 aP.toList) (hQ:∀a w,jh aP Vs S a0 (bF aP.size true) a w->Q .normal a w):(Ch id aP false).wp P Q a0 w:=by
 refine wp_region ?_;rw[ng];exact Je 0 aP.size (by omega) Vs S base hok hn Bq IQ hS hbase (fun k hk=>by omega) hE hQ
end
end Gd
structure gw(n:Nat)(a:j6)(l:List (jR × aj)):Prop where
 size:a.tmps.size=n
 defers:a.defers=[]
 base:gh a.eval l
def jh.fr{aP:Array cO}{Vs:List Pred}{S:ak->Prop}{a0 a:j6}{L:Array Bool}{w:ak}{n:Nat}{l:List (jR × aj)}(h:jh aP Vs S a0 L a w)(h0:gw n a0 l)(hk:(l.all fun p=>keeps aP p.1)=true:=by kernel_rfl):gw n a l:=
 ⟨h.size.trans h0.size,h.defers.trans h0.defers,h0.base.congr fun p hp=>h.keep p.1 fun o ho=>by
  have h1:=aX.1 hk p hp;have:=aX.1 h1 o ho
  simpa using this⟩
def gw.g{n:Nat}{a:j6}{l:List (jR × aj)}(h:gw n a l)(k:Nat){t:jR}{v:aj}(hk:l[k]?=some (t,v)):a.eval (.tmp t)=v:=by
 have h1:=h.base;clear h
 induction l generalizing k with
 |nil=>simp at hk
 |cons p l ih=>cases k with
  |zero=>cases hk;exact h1.1
  |succ k=>exact ih k (by simpa using hk) h1.2
def XQ:Op->Bool
 |.call c=>match c.callee with|.builtin _=>true|_=>false
 |.load ..=>false
 |_=>true
def yw{P:aN}{aP:Array cO}{Vs:List Pred}{S:ak->Prop}{o:cO}{ev:bI->aj}{w:ak}{i:Nat}{v:aj}(hq:XQ o.op=true)(he:(bY ev o).run P w=.ok (.value v) w)(hp:gJ Vs i (match o.dst with|some _=>v|none=>aw) (gK aP ev o.after.toList) w):Yields P o ev w (Post aP ev Vs S i o w):=yv he hp
def ju(t:jR):List (jR × aj)->List (jR × aj)
 |[]=>[]
 |p::l=>if p.1=t then l else p::ju t l
def gw.del{n:Nat}{a:j6}{l:List (jR × aj)}(h:gw n a l)(t:jR):gw n a (ju t l):=⟨h.size,h.defers,by
 have h1:=h.base;clear h
 induction l with
 |nil=>trivial
 |cons p l ih=>
  unfold ju;split
  .exact h1.2
  exact⟨h1.1,ih h1.2⟩⟩
def gw.tl{n:Nat}{a:j6}{p:jR × aj}{l:List (jR × aj)}(h:gw n a (p::l)):gw n a l:=⟨h.size,h.defers,h.base.2⟩
def gw.put{n:Nat}{a:j6}{l:List (jR × aj)}(h:gw n a l)(d:jR)(v:aj)(hk:(l.all fun p=>!Nat.beq p.1 d)=true):gw n (a.put (some d) v) l:=
 ⟨(zG _ _ _).trans h.size,(put_defers _ _ _).trans h.defers,h.base.congr fun p hp=>ur _ _ _ _ fun e=>by
  have h1:=aX.1 hk p hp;cases e
  simp at h1⟩
def gw.cons{n:Nat}{a:j6}{l:List (jR × aj)}(h:gw n a l){t:jR}{v:aj}(hv:a.eval (.tmp t)=v):gw n a ((t,v)::l):=⟨h.size,h.defers,hv,h.base⟩
section
variable{P:aN}{aP:Array cO}{Q:Exit->j6->ak->Prop}{n:Nat}
end
namespace Ph
open Go Go.RowKit
abbrev Ls:=Nat->Bool
def upd(L:Ls)(i:Nat):Ls:=fun t=>if t=i then true else L t
def needs(aP:Array cO)(i t:Nat):Bool:=(gi aP t).any fun e=>fR .any e&&decide (e.on=i)
def zi(L:Ls)(ev:bI->aj):List (Nat × jR × aj)->Prop
 |[]=>True
 |(i,t,v)::l=>(L i=false->ev (.tmp t)=v)/\zi L ev l
def Gh(aP:Array cO)(ev:bI->aj):List (Nat × jR × aj)->Prop
 |[]=>True
 |(i,t,v)::l=>(eo aP i=some t/\ev (.tmp t)=v)/\Gh aP ev l
def Jc(L:Ls)(ev:bI->aj)(late:List (Nat × jR × aj)):List (jR × aj)->Prop
 |[]=>zi L ev late
 |(t,v)::l=>ev (.tmp t)=v/\Jc L ev late l
def Jc.of{L:Ls}{ev:bI->aj}{late:List (Nat × jR × aj)}(h2:zi L ev late):∀ {base:List (jR × aj)},gh ev base->Jc L ev late base
 |[],_=>h2
 |(_,_)::_,h=>⟨h.1,Jc.of h2 h.2⟩
def zi.of{aP:Array cO}{L:Ls}{ev FC:bI->aj}(hk:∀i d,eo aP i=some d->L i=false->FC (.tmp d)=ev (.tmp d)):∀ {late:List (Nat × jR × aj)},Gh aP ev late->zi L FC late
 |[],_=>trivial
 |(_,_,_)::_,h=>⟨fun e=>(hk _ _ h.1.1 e).trans h.1.2,zi.of hk h.2⟩
def Post(L:Ls)(aP:Array cO)(ev:bI->aj)(Vs:List Pred)(S:Ls->ak->Prop)(i:Nat)(o:cO)(w:ak)(v:aj)(w':ak):Prop:=
 gJ Vs i (match o.dst with|some _=>v|none=>aw) (gK aP ev o.after.toList) w'/\(Bw w w'\/(S (upd L i) w'/\∀k u ds,k≠i->L k=true->gJ Vs k u ds w->gJ Vs k u ds w'))
def yv{P:aN}{L:Ls}{aP:Array cO}{Vs:List Pred}{S:Ls->ak->Prop}{o:cO}{ev:bI->aj}{w:ak}{i:Nat}{v:aj}(he:(bY ev o).run P w=.ok (.value v) w)(hp:gJ Vs i (match o.dst with|some _=>v|none=>aw) (gK aP ev o.after.toList) w):Yields P o ev w (Post L aP ev Vs S i o w):=.value he ⟨hp,.inl (aB _ _)⟩
def tV{p:Prop}(h:p:=by refine Ph.yv ?_ rfl;go_simp):p:=h
def kS{S:Ls->ak->Prop}{Q:aj->List aj->Prop}:∀(u:aj) (ds:List aj) (L:Ls) (w w':ak),S L w->Q u ds->fV w.heap.size w w'->Q u ds:=fun _ _ _ _ _ _ h _=>h
def sV{S:Ls->ak->Prop}{x:aj}:∀(u:aj) (ds:List aj) (L:Ls) (w w':ak),S L w->pV x u ds w->Bw w w'->pV x u ds w':=fun _ _ _ _ _ _ h _=>h
def sC{S:Ls->ak->Prop}{c:Bool}{x:aj}:∀(u:aj) (ds:List aj) (L:Ls) (w w':ak),S L w->pC c x u ds w->Bw w w'->pC c x u ds w':=fun _ _ _ _ _ _ h _=>h
def QR(Y:mQ)(aP:Array cO)(Vs:List Pred)(S:Ls->ak->Prop)(base:List (jR × aj))(late:List (Nat × jR × aj))(i:Nat)(o:cO):Prop:=
 ∀(L:Ls) (ev:bI->aj) (w:ak),(∀t,needs aP i t=true->L t=false)->L i=false->S L w->(∀v,ev (.const v)=v)->(∀g,ev (.global g)=.pointer (some ⟨g,0,none⟩))->(∀f,ev (.func f)=.func (.func f) #[] #[])->Jc L ev late base->Gk aP Vs ev w o.after.toList->
  match o.guard with
  |none=>Y o ev w (Post L aP ev Vs S i o w)
  |some (j,b)=>(∃r,jn (eo aP j) ev=.bool r)/\∀r,jn (eo aP j) ev=.bool r->if r=b then Y o ev w (Post L aP ev Vs S i o w) else Post L aP ev Vs S i o w aw w
def Each(Y:mQ)(aP:Array cO)(Vs:List Pred)(S:Ls->ak->Prop)(base:List (jR × aj))(late:List (Nat × jR × aj)):Nat->List cO->Prop
 |_,[]=>True
 |i,o::l=>QR Y aP Vs S base late i o/\Each Y aP Vs S base late (i+1) l
def jo(S:Ls->ak->Prop):List Pred->Prop
 |[]=>True
 |V::l=>(∀u ds L w w',S L w->V u ds w->Bw w w'->V u ds w')/\jo S l
section
variable{P:aN}{aP:Array cO}{Q:Exit->j6->ak->Prop}{Vs:List Pred}{S:Ls->ak->Prop}{base:List (jR × aj)}{late:List (Nat × jR × aj)}{n:Nat}
theorem Each.get{Y:mQ}{i:Nat}{l:List cO}(h:Each Y aP Vs S base late i l){j:Nat}{o:cO}(hj:l[j]?=some o):QR Y aP Vs S base late (i+j) o:=by
 induction l generalizing i j with
 |nil=>simp at hj
 |cons x l ih=>
  cases j with
  |zero=>simp at hj;subst hj;exact h.1
  |succ j=>have:=ih h.2 (j:=j) (by simpa using hj);rwa [ru,Nat.add_comm 1 j] at this
theorem jo.get(h:jo S Vs)(i:Nat){L:Ls}{u:aj}{ds:List aj}{w w':ak}(hS:S L w)(hb:Bw w w')(hv:gJ Vs i u ds w):gJ Vs i u ds w':=by
 induction Vs generalizing i with
 |nil=>trivial
 |cons V l ih=>
  cases i with
  |zero=>exact h.1 u ds L w w' hS hv hb
  |succ i=>exact ih h.2 i hv
structure jh(aP:Array cO)(Vs:List Pred)(S:Ls->ak->Prop)(a0:j6)(L:Array Bool)(a:j6)(w:ak):Prop where
 uU:L.size=aP.size
 size:a.tmps.size=a0.tmps.size
 defers:a.defers=a0.defers
 s:S (fun t=>L.getD t false) w
 keep:∀t,(∀o∈aP.toList,o.dst≠some t)->a.eval (.tmp t)=a0.eval (.tmp t)
 late:∀i d,eo aP i=some d->L.getD i false=false->a.eval (.tmp d)=a0.eval (.tmp d)
 closed:∀i e,L.getD i false=true->e∈gi aP i->fR .any e=true->L.getD e.on false=true
 vals:∀i,L.getD i false=true->gJ Vs i (jn (eo aP i) a.eval) (gK aP a.eval (gi aP i)) w
theorem AU{Y:mQ}{oD:Nat->(j6->ak->Prop)->j6->ak->Prop}
  (hs1:∀i o K a w R,aP[i]?=some o->cU o (j8 aP a.tmps)=true->Y o a.eval w R->(∀v w',R v w'->K (a.put o.dst v) w')->oD i K a w)
  (hs2:∀i o K a w,aP[i]?=some o->¬cU o (j8 aP a.tmps)=true->K (a.put o.dst aw) w->oD i K a w)
  (hok:ja aP n base=true) (Bq:jo S Vs) (IQ:∀(L L':Ls) w w',(∀t,L' t=false->L t=false)->S L w->Bw w w'->S L' w') (a0:j6) (hn:a0.tmps.size=n) (hbase:gh a0.eval base) (hlate:Gh aP a0.eval late) (hE:Each Y aP Vs S base late 0 aP.toList)
  (hQ:∀a w,jh aP Vs S a0 (bF aP.size true) a w->Q .normal a w) :
  ∀fuel (L:Array Bool) (a:j6) (w:ak),L.toList.countP (!·)<=fuel->jh aP Vs S a0 L a w->anyOf oD aP Q fuel L a w:=by
 have ajy:∀(L:Array Bool) (a:j6) (w:ak),jm .any aP L=[]->jh aP Vs S a0 L a w->S (fun t=>(bF aP.size true).getD t false) w:=fun L a w hr h=>
  IQ _ _ w w (fun t ht=>by
   by_cases hlt:t<aP.size
   .simp[eH,hlt] at ht
   have:¬t<L.size:=by have:=h.uU;omega
   simp[eH,this]) h.s (aB _ _)
 have fin:∀(L:Array Bool) (a:j6) (w:ak),jm .any aP L=[]->jh aP Vs S a0 L a w->Q .normal a w:=fun L a w hr h=>
  hQ a w ⟨by simp,h.size,h.defers,ajy L a w hr h,h.keep,fun i d hd hi=>by
   by_cases hlt:i<aP.size
   .simp[eH,hlt] at hi
   .unfold eo at hd;rw[fS (by omega)] at hd;simp at hd,fun i e hi he hb=>by
   have hlt:e.on<aP.size:=Nv hok he hb;simp[eH,hlt],fun i hi=>by
   by_cases hlt:i<aP.size
   .exact h.vals i (ready_nil hok h.uU hr i hlt)
   simp[eH,hlt] at hi⟩
 intro fuel
 induction fuel with
 |zero=>
  intro L a w hc h
  have hr:jm .any aP L=[]:=by
   apply List.eq_nil_iff_forall_not_mem.2;intro i hi;unfold jm at hi;rw[kD,bV] at hi;obtain⟨hi,h2⟩:=hi;have nw:i<L.size:=by have:=h.uU;omega
   simp[eH,nw] at h2;have h0:=List.countP_eq_zero.1 (Nat.le_zero.1 hc) L[i] (by simp);simp[h2.1] at h0
  exact⟨hr,fin L a w hr h⟩
 |succ fuel ih=>
  intro L a w hc h;refine⟨fun hr=>fin L a w hr h,fun i hi=>?_⟩;have hi':=hi;unfold jm at hi';rw[kD,bV] at hi';obtain⟨hlt,h2⟩:=hi';have nw:i<L.size:=by have:=h.uU;omega
  have xw:aP[i]?=some aP[i]:=aQ hlt;generalize aP[i]=o at xw;rw[xw] at h2;simp only[aJ,Bool.not_eq_true',dM,Option.getD_some,Array.all_eq_true] at h2;obtain⟨Vq,Vf⟩:=h2
  have DX:o∈aP.toList:=by
   have:=fq xw;simpa using this
  have sF:=hok;unfold ja at sF;rw[aJ,aX,aX] at sF;have wh:=sF.1 i (bV.2 hlt);rw[xw] at wh;simp only[aJ] at wh;obtain⟨⟨abW,vt⟩,abw⟩:=wh
  have Vt:Gk aP Vs a.eval w o.after.toList:=Gk.of fun e he hb=>by
   obtain⟨k,hk,rfl⟩:=iG he;have:=Vf k (by simpa using hk);simp only[rG] at hb ⊢;rw[hb] at this;simp only[vH,Bool.false_or] at this;exact h.vals _ this
  have hBs:gh a.eval base:=hbase.congr fun p hp=>h.keep _ fun o' ho' hd=>by
   obtain⟨k,hk,rfl⟩:=iG ho';have rA:k<aP.size:=by simpa using hk
   have h3:=sF.1 k (bV.2 rA);rw[aQ rA] at h3;simp only[rG] at hd;simp only[aJ,hd] at h3;have:=aX.1 h3.1.2.1.2 p hp;simp at this
  have afL:(fun t=>L.getD t false) i=false:=by
   simp[eH,nw] at Vq ⊢;exact Vq
  have aeU:∀t,needs aP i t=true->L.getD t false=false:=fun t ht=>by
   cases hq:L.getD t false with
   |false=>rfl
   |true=>
    unfold needs at ht;obtain⟨e,he,h8⟩:=List.any_eq_true.1 ht;rw[aJ,decide_eq_true_eq] at h8;have h9:=h.closed t e hq he h8.1;rw[h8.2] at h9;have h10:L.getD i false=false:=afL;rw[h10] at h9;cases h9
  have hO:=hE.get (j:=i) (o:=o) (by simpa using xw) (fun t=>L.getD t false) a.eval w (by rw[dh];exact aeU) (by rw[dh];exact afL) h.s (fun _=>rfl) (fun _=>rfl) (fun _=>rfl) (Jc.of (zi.of (fun k d hd hk=>h.late k d hd hk) hlate) hBs) Vt;rw[dh] at hO;have hao:gi aP i=o.after.toList:=by unfold gi;rw[xw]
  have Mu:∀e∈o.after.toList,fR .any e=true->L.getD e.on false=true:=fun e he hb=>by
   obtain⟨k,hk,rfl⟩:=iG he;have:=Vf k (by simpa using hk);simp only[rG] at hb ⊢;rw[hb] at this;simpa using this
  have hne:∀k,L.getD k false=true->k≠i/\k<aP.size:=fun k hk=>by
   refine⟨fun e=>?_,?_⟩
   .subst e;simp[eH,nw] at Vq hk;rw[Vq] at hk;cases hk
   rcases Nat.lt_or_ge k aP.size with h5|h5
   .exact h5
   have:¬k<L.size:=by have:=h.uU;omega
   simp[eH,this] at hk
  have next:∀v w',Post (fun t=>L.getD t false) aP a.eval Vs S i o w v w'->anyOf oD aP Q fuel (L.setIfInBounds i true) (a.put o.dst v) w':=fun v w' hp=>by
   have hval:∀k,L.getD k false=true->jn (eo aP k) (a.put o.dst v).eval=jn (eo aP k) a.eval:=fun k rA=>by
    obtain⟨AX,Ab⟩:=hne k rA;cases NJ:eo aP k with
    |none=>rfl
    |some d=>
     refine ur _ _ _ _ fun ZR=>?_;rcases Nat.lt_trichotomy k i with h5|h5|h5
     .rw[ZR] at vt;simp only[aJ,decide_eq_true_eq] at vt;have:=aX.1 vt.2 k (bV.2 h5);simp[NJ] at this
     .exact AX h5
     have h6:=sF.1 k (bV.2 Ab);rw[aQ Ab] at h6
     have h7:(aP[k]).dst=some d:=by
      unfold eo at NJ;rw[aQ Ab] at NJ;simpa using NJ
     simp only[aJ,h7] at h6;have:=aX.1 h6.1.2.2 i (bV.2 h5);unfold eo at this;rw[xw] at this;simp[ZR] at this
   have vp:∀k,L.getD k false=true->(L.setIfInBounds i true).getD k false=true:=fun k hk=>by
    have:=(hne k hk).1;simpa [a_,bK,Cb this] using hk
   have hback:∀k,k≠i->(L.setIfInBounds i true).getD k false=true->L.getD k false=true:=fun k AX hk=>by
    simpa [a_,bK,Cb AX] using hk
   refine ih _ _ _ ?_ ⟨by simp[h.uU],by rw[zG,h.size],by rw[put_defers,h.defers],?_,fun t ht=>?_,fun k d hd hk=>?_,fun k e hk he hb=>?_,fun k hk=>?_⟩
   .have hLv:L[i]=false:=by simpa [eH,nw] using Vq
    have h4:(L.setIfInBounds i true).toList.countP (!·)=L.toList.countP (!·)-1:=by
     rw[Array.toList_setIfInBounds,List.countP_set (by simpa using nw)];simp[hLv]
    omega
   .have hup:(fun t=>(L.setIfInBounds i true).getD t false)=upd (fun t=>L.getD t false) i:=by
     funext t
     unfold upd
     by_cases ht:t=i
     .subst ht;simp[a_,bK,nw]
     simp[a_,bK,Cb ht,ht]
    rw[hup]
    exact hp.2.elim (fun hb=>IQ _ _ _ _ (fun t ht=>by
     unfold upd at ht;split at ht
     .cases ht
     exact ht) h.s hb) fun hs=>hs.1
   .rw[ur _ _ _ _ (ht o DX)];exact h.keep t ht
   .have AX:k≠i:=by
     rintro rfl;simp[a_,bK,nw] at hk
    have hkL:L.getD k false=false:=by
     simpa [a_,bK,Cb AX] using hk
    have Ab:k<aP.size:=by
     rcases Nat.lt_or_ge k aP.size with h5|h5
     .exact h5
     unfold eo at hd;rw[fS h5] at hd;simp at hd
    rw[ur _ _ _ _ fun ZR=>?_]
    .exact h.late k d hd hkL
    rcases Nat.lt_trichotomy k i with h5|h5|h5
    .rw[ZR] at vt;simp only[aJ,decide_eq_true_eq] at vt;have:=aX.1 vt.2 k (bV.2 h5);simp[hd] at this
    .exact AX h5
    have h6:=sF.1 k (bV.2 Ab);rw[aQ Ab] at h6
    have h7:(aP[k]).dst=some d:=by
     unfold eo at hd;rw[aQ Ab] at hd;simpa using hd
    simp only[aJ,h7] at h6;have:=aX.1 h6.1.2.2 i (bV.2 h5);unfold eo at this;rw[xw] at this;simp[ZR] at this
   .by_cases AX:k=i
    .subst AX;rw[hao] at he;exact vp _ (Mu e he hb)
    exact vp _ (h.closed k e (hback k AX hk) he hb)
   by_cases AX:k=i
   .subst AX
    have hdd:gK aP (a.put o.dst v).eval (gi aP k)=gK aP a.eval o.after.toList:=by
     rw[hao];exact qi fun e he hb=>hval _ (Mu e he hb)
    rw[hdd];have:=hp.1;unfold eo jn;rw[xw];simp only[gW];cases hd:o.dst with
    |none=>rw[hd] at this;exact this
    |some d=>
     rw[hd] at this vt;simp only[aJ,decide_eq_true_eq] at vt;have h9:=put_eq a d v (by rw[h.size,hn];exact vt.1.1);simp only[] at this ⊢;rw[h9];exact this
   have rA:=hback k AX hk;have hvk:=h.vals k rA;have hdd:gK aP (a.put o.dst v).eval (gi aP k)=gK aP a.eval (gi aP k):=qi fun e he hb=>hval _ (h.closed k e rA he hb);rw[hval k rA,hdd];exact hp.2.elim (fun hb=>Bq.get k h.s hb hvk) fun hs=>hs.2 k _ _ AX rA hvk
  cases hg:o.guard with
  |none=>
   rw[hg] at hO;exact hs1 i o _ a w _ xw (by simp[cU,hg]) hO next
  |some jb=>
   obtain⟨j,b⟩:=jb;rw[hg] at hO;obtain⟨⟨r,hr⟩,hO⟩:=hO;have hO:=hO r hr
   have hy:j8 aP a.tmps j=some r:=by
    unfold j8;unfold jn at hr;unfold eo at hr;cases hd:(aP[j]?).bind (·.dst) with
    |none=>rw[hd] at hr;simp[aw] at hr
    |some d=>
     rw[hd] at hr;simp only[gW]
     have h8:a.tmps[d]?=some (.bool r):=by
      unfold Act.eval at hr;simp only[] at hr
      by_cases Dr:d<a.tmps.size
      .simp[eH,Dr] at hr;rw[aQ Dr,hr]
      simp[eH,Dr,aw] at hr
     rw[h8]
   by_cases hrb:r=b
   .rw[if_pos hrb] at hO;exact hs1 i o _ a w _ xw (by simp[cU,hg,hy,hrb]) hO next
   rw[if_neg hrb] at hO;exact hs2 i o _ a w xw (by simp[cU,hg,hy,hrb]) (next _ _ hO)
theorem yy{a0:j6}{w:ak}(hS:S (fun t=>(bF aP.size false).getD t false) w):jh aP Vs S a0 (bF aP.size false) a0 w:=⟨by simp,rfl,rfl,hS,fun _ _=>rfl,fun _ _ _ _=>rfl,fun i e hi _ _=>by
  simp[a_,ry] at hi;split at hi<;>simp at hi,fun i hi=>by
  simp[a_,ry] at hi
  split at hi<;>simp at hi⟩
theorem wD:(bF aP.size false).toList.countP (!·)<=aP.size:=by simpa using yj (p:=(!·)) (l:=List.replicate aP.size false)
theorem qE{id:Nat}{a0:j6}{w:ak}(hm:P.follows .mixedOrders=true)(Vs:List Pred)(S:Ls->ak->Prop)(base:List (jR × aj))(hok:ja aP a0.tmps.size base=true)(Bq:jo S Vs)(IQ:∀(L L':Ls) w w',(∀t,L' t=false->L t=false)->S L w->Bw w w'->S L' w')
  (hS:S (fun _=>false) w.drew) (hbase:gh a0.eval base) (hlate:Gh aP a0.eval late) (hE:Each (Yields P) aP Vs S base late 0 aP.toList) (hQ:∀a w,jh aP Vs S a0 (bF aP.size true) a w->Q .normal a w):(Ch id aP true).wp P Q a0 w:=
 wp_region_any hm (by
  rw[Eb]
  exact AU (Y:=Yields P) (fun i o K a w R ho hw hy hk=>wpOp_step ho fun K' hK=>by rw[if_pos hw];exact hy.wp fun v w' hv=>hK _ _ (hk v w' hv))
   (fun i o K a w ho hw hk=>wpOp_step ho fun K' hK=>by rw[if_neg hw];exact hK _ _ hk) hok Bq IQ a0 rfl hbase hlate hE hQ aP.size _ a0 _ wD (yy (by
   have e:(fun t=>(bF aP.size false).getD t false)=fun _=>false:=by
    funext t
    simp[a_,ry];split<;>simp
   rw[e];exact hS)))
theorem cy{id:Nat}{a0:j6}{w:ak}(hm:P.follows .mixedOrders=true)(Vs:List Pred)(S:Ls->ak->Prop)(base:List (jR × aj))(hok:ja aP a0.tmps.size base=true)(Bq:jo S Vs)(IQ:∀(L L':Ls) w w',(∀t,L' t=false->L t=false)->S L w->Bw w w'->S L' w')
  (hS:S (fun _=>false) w.drew) (hbase:gh a0.eval base) (hE:Each (Yields P) aP Vs S base [] 0 aP.toList) (hQ:∀a w,jh aP Vs S a0 (bF aP.size true) a w->Q .normal a w):(Ch id aP true).wp P Q a0 w:=
 qE (late:=[]) hm Vs S base hok Bq IQ hS hbase trivial hE hQ
theorem jh.kept{a0 a:j6}{L:Array Bool}{w:ak}(h:jh aP Vs S a0 L a w){t:jR}(hk:keeps aP t=true):a.tmps.getD t aw=a0.tmps.getD t undef:=
 h.keep t fun o ho=>by
  have:=aX.1 hk o ho;simpa using this
theorem jh.kp{a0 a:j6}{L:Array Bool}{w:ak}(h:jh aP Vs S a0 L a w)(t:jR)(hk:keeps aP t=true:=by kernel_rfl):a.tmps.getD t aw=a0.tmps.getD t undef:=h.kept hk
theorem jh.val{a0 a:j6}{w:ak}(h:jh aP Vs S a0 (bF aP.size true) a w)(i:Nat)(hi:i<aP.size:=by decide):gJ Vs i (jn (eo aP i) a.eval) (gK aP a.eval (gi aP i)) w:=h.vals i (by simp[eH,hi])
theorem jh.act{a0 a:j6}{L:Array Bool}{w:ak}(h:jh aP Vs S a0 L a w):a=⟨((aS a0.tmps.size).map fun t=>a.tmps.getD t aw).toArray,a0.defers⟩:=by
 have h1:=h.size;have h2:=h.defers;obtain⟨tm,df⟩:=a;simp only[] at h1 h2;subst h2;rw[<-h1]
 congr 1
 apply Array.ext
 .simp
 intro i h1 h2;simp[eH,h1]
theorem jh.lits{a0 a:j6}{L:Array Bool}{w:ak}(h:jh aP Vs S a0 L a w)(n:Nat)(hn:a0.tmps.size=n):a=⟨((aS n).map fun t=>a.tmps.getD t aw).toArray,a0.defers⟩:=hn▸h.act
end
end Ph
def NN(c:Bool)(v:aj):Value:=if c then v else aw
def zf{x:Bool}:((.bool x:aj)=.bool true)↔x=true:=by simp
def mG{x:Bool}:((.bool x:aj)=.bool false)↔(!x)=true:=by cases x<;>simp
end Go.Lag
namespace Go.RowKit
def Below.tr{w W W':ak}(h:Bw w W)(ho:Bw W W'):Bw w W':=h.trans (ho.mono h.size)
end Go.RowKit
namespace Go.Lag
open Go Go.RowKit
def aA{W W':ak}{B:Nat}{o:Obj}(h:W.heap[B]?=some o)(ho:Bw W W'):W'.heap[B]?=some o:=(ho.block _ (ah.1 h).1).trans h
section
variable{P:aN}{aP:Array cO}{Q:Exit->j6->ak->Prop}{n:Nat}
theorem nY{id:Nat}{y:Code}{a0:j6}{W:ak}(Vs:List Pred)(base:List (jR × aj))(hok:ja aP n base=true)(hn:a0.tmps.size=n)(hbase:gh a0.eval base)(Bq:jo (fun w=>Bw W w) Vs)
  (hE:Gd.Each (Yields P) aP Vs (fun w=>Bw W w) base 0 aP.toList) (hy:∀a w,jh aP Vs (fun w=>Bw W w) a0 (bF aP.size true) a w->y.wp P Q a w):(Code.seq (.region id aP false) y).wp P Q a0 W:=
 wp_seq (Gd.Jf Vs (fun w=>Bw W w) base hok hn Bq (fun _ _ h hb=>h.trans (hb.mono h.size)) (aB _ _) hbase hE fun a w h=>hy a w h)
theorem M3(hm:P.follows .mixedOrders=true){id:Nat}{y:Code}{a0:j6}{W:ak}(Vs:List Pred)(base:List (jR × aj))(hok:ja aP n base=true)(hn:a0.tmps.size=n)(hbase:gh a0.eval base)(Bq:jo (fun w=>Bw W w) Vs)
  (hE:Gd.Each (Yields P) aP Vs (fun w=>Bw W w) base 0 aP.toList) (hy:∀a w,jh aP Vs (fun w=>Bw W w) a0 (bF aP.size true) a w->y.wp P Q a w):(Code.seq (.region id aP true) y).wp P Q a0 W:=
 wp_seq (Gd.cy hm Vs (fun w=>Bw W w) base (by rw[hn];exact hok) Bq (fun _ _ h hb=>h.trans (hb.mono h.size)) (aB _ _).drew hbase hE fun a w h=>hy a w h)
theorem agj(hm:P.follows .mixedOrders=true){id:Nat}{a0:j6}{W:ak}(Vs:List Pred)(base:List (jR × aj))(hok:ja aP n base=true)(hn:a0.tmps.size=n)(hbase:gh a0.eval base)(Bq:jo (fun w=>Bw W w) Vs)
  (hE:Gd.Each (Yields P) aP Vs (fun w=>Bw W w) base 0 aP.toList) (hy:∀a w,jh aP Vs (fun w=>Bw W w) a0 (bF aP.size true) a w->Q .normal a w):(Ch id aP true).wp P Q a0 W:=
 Gd.cy hm Vs (fun w=>Bw W w) base (by rw[hn];exact hok) Bq (fun _ _ h hb=>h.trans (hb.mono h.size)) (aB _ _).drew hbase hE fun a w h=>hy a w h
theorem Ph.jh.fr{Vs:List Pred}{S:Ph.Ls->ak->Prop}{a0 a:j6}{L:Array Bool}{w:ak}{n:Nat}{l:List (jR × aj)}(h:Ph.jh aP Vs S a0 L a w)(h0:gw n a0 l)(hk:(l.all fun p=>keeps aP p.1)=true):gw n a l:=
 ⟨h.size.trans h0.size,h.defers.trans h0.defers,h0.base.congr fun p hp=>h.keep p.1 fun o ho=>by
  have h1:=aX.1 hk p hp;have:=aX.1 h1 o ho
  simpa using this⟩
theorem jg{args:Array aj}{k t:Nat}{v:aj}(h:args[t]?=some v):(⟨args++bF k aw,[]⟩:j6).eval (.tmp t)=v:=by
 have hl:=(ah.1 h).1;unfold Act.eval;simp only[a_];rw[Array.getElem?_append_left hl,h];rfl
theorem Ki{args:Array aj}{n:Nat}(hn:args.size<=n)(l:List (jR × aj))(h:gh (⟨args++bF (n-args.size) aw,[]⟩:j6).eval l):gw n ⟨args++bF (n-args.size) aw,[]⟩ l:=⟨by simp;omega,rfl,h⟩
theorem mP{P:aN}{fn:Func}{c:Code}{f:d_}{args:Array aj}{w:ak}{R:Ending->ak->Prop}(hf:P.funcs[f]?=some fn)(hb:fn.body=some c){n:Nat}(hn:fn.ntmps=n)(l:List (jR × aj))(hl:gh (⟨args++bF (n-args.size) aw,[]⟩:j6).eval l)(h:∀a W,gw n a l->Bw w W->c.wp P (bodyPost P fn R) a W)(hs:args.size<=n:=by simp):bm P f args w R:=
 calls_of_wp hf hb (by rw[hn];exact h _ w (Ki hs l hl) (aB _ _))
theorem kZ{P:aN}{fn:Func}{c:Code}{f:d_}{args:Array aj}{w:ak}{R:Ending->ak->Prop}(hf:P.funcs[f]?=some fn)(hb:fn.body=some c){n:Nat}(hn:fn.ntmps=n)(l:List (jR × aj))(hl:gh (⟨args++bF (n-args.size) aw,[]⟩:j6).eval l)(h:∀a,gw n a l->c.wp P (bodyPost P fn R) a w)(hs:args.size<=n:=by simp):bm P f args w R:=
 calls_of_wp hf hb (by rw[hn];exact h _ (Ki hs l hl))
end
end Go.Lag
