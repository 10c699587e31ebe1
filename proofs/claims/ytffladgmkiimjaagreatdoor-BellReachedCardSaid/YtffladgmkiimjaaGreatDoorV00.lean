/- THE BELL IN PLAIN LEAN: a book's numbers, plans by bits, the air minut .. -/
import Derived.WalkKit
import Derived.Lib.Hide
import Derived.Deep.RegionHeld3
import Derived.RangeFuncRecord
import Derived.Maps.OwnOps
import Derived.Test.YtffladgmkiimjaaGreatDoorRows
import Derived.LaidMore
import Derived.OpenShut
import Derived.ProofKit
import Derived.OrdersIn
set_option linter.all false
set_option maxHeartbeats 0
set_option maxRecDepth 1000000
open Array renaming getElem?_eq_getElem -> aO,getD_eq_getD_getElem? -> aY,getElem?_eq_some_iff -> ah,getElem?_setIfInBounds -> bA,replicate -> bz,mem_of_getElem? -> eV,getD -> ep,getElem?_eq_none -> fF,getElem?_replicate -> qW,getElem_toList -> ri
open Bool renaming and_eq_true -> aF,false_eq_true -> bE
open Go renaming Program -> aL,TypeId -> aZ,Calls -> a_,Value -> aj,World -> ak,undef -> ar,Operand -> bI,Oper -> cI,execOp -> cu,FuncId -> dU,underlying -> iZ,yielded -> j8,Act -> k9,Tmp -> kG,step -> nO,MapEntry -> uq
open Go.Addr renaming add -> mg
open Go.Ending renaming returned -> aU,returned -> bw
open Go.Instr renaming mapUpdate -> Av,findKey -> Dc,findAsking -> jr,index -> m6
open Go.IntKind renaming i64 -> af
open Go.Lib renaming hid -> ai
open Go.Obj renaming cells -> au
open Go.Proofs.Tryz renaming prog -> aq,underlying25 -> gO
open Go.Region renaming wanted -> cL,binds -> fE,ready -> ja
open Go.Result renaming andThen -> GY,andThen_ok -> jF
open Go.RowKit renaming Below -> fX
open Go.RowKit.Below renaming heap_alloc -> aW,refl -> ay
open Go.Sem renaming run_bind -> qT
open Go.Value renaming bool -> aA,int -> aD,agg -> aN,slice -> ae,int -> ag,pointer -> dB,slice -> gK
open Go.World renaming alloc_heap_new -> ax,cell? -> dG,ownsRow_nil -> eD,cell?_alloc_lt -> en
open List renaming getElem?_append_left -> Ao,foldl_append -> BA,map_congr_left -> F7,range -> aQ,eq_nil_of_length_eq_zero -> aX,getElem_mem -> bG,range' -> bP,mem_range -> bQ,take_succ_eq_append_getElem -> bV,all_eq_true -> bf,map_cons -> cP,take_of_length_le -> cU,drop_eq_getElem_cons -> dO,map_append -> eG,mem_of_mem_take -> fH,getElem_of_mem -> fZ,mem_filter -> kx,range_eq_range' -> m5,countP_le_length -> xI
open List.cons renaming injEq -> Ar
open Nat renaming le_refl -> aJ,lt_of_lt_of_le -> bD,zero_add -> cO,mul_comm -> qU,add_assoc -> qV
open Ne renaming symm -> xH
open Option renaming map_some -> dJ,bind_some -> gI
open Option.some renaming inj -> a7
open Or renaming inl -> cz
open Prod.mk renaming injEq -> g_
namespace Go
def oM{p:Prop}(h:p:=by omega):p:=h
def kQ{p:Prop}(h:p:=by kernel_rfl):p:=h
def sM{p:Prop}(h:p:=by simp):p:=h
def dC{p:Prop}(h:p:=by decide):p:=h
def sO{p:Prop}(h:p:=by simp;omega):p:=h
abbrev Bw(u v:Go.World):Prop:=Go.RowKit.Below u.heap.size u v
abbrev mF:Array Go.Value:=#[ag af 0,ag af 0,ag af 0,ag af 0,ag af 0,ag af 0,ag af 0,ag af 0,ag af 0,ag af 0,ag af 0,ag af 0,ae none 0 0,ae none 0 0,ae none 0 0]
def cY{w:Go.World}{o:Go.Obj}:Bw w (w.alloc o):=(Go.RowKit.Below.refl _ _).alloc (aJ _) _
abbrev Rt(w:Go.World)(v:Go.Value):Go.Ending->Go.World->Prop:=fun e w'=>e=aU v/\Bw w w'
end Go
namespace Go.Proofs.YtffladgmkiimjaaGreatDoor
open Go
def fC(n:Int)(h₀:0<=n)(h₁:n<2 ^ 62):IntKind.i64.wrap n=n:=by rw[IntKind.wrap_i64];omega
def Y_(a b:Nat)(ha:a<2 ^ 62)(hb:b<2 ^ 62):bits .and af (a:Int) (b:Int)=((a &&& b:Nat):Int):=(bits_nat af 62 dC fC a b ha hb).1
def acJ(a b:Nat)(ha:a<2 ^ 62)(hb:b<2 ^ 62):bits .or af (a:Int) (b:Int)=((a ||| b:Nat):Int):=(bits_nat af 62 dC fC a b ha hb).2
def wL(n m:Nat)(hn:n<512):(bits BinOp.and IntKind.i64 (↑n / 2 ^ m) 1==1)=n.testBit m:=by
 have e:((n:Int) / 2 ^ m)=((n / 2 ^ m:Nat):Int):=sM;have hlt:n / 2 ^ m<2 ^ 62:=Nat.lt_of_le_of_lt (Nat.div_le_self _ _) oM;rw[e,show(1:Int)=((1:Nat):Int) from rfl,Y_ _ 1 hlt dC];rw[Nat.testBit_eq_decide_div_mod_eq,Nat.and_one_is_mod,Bool.eq_iff_iff];simp only[beq_iff_eq,decide_eq_true_eq];omega
structure BB where
 room:Int
 depth:Int
 least:Int
 minutes:Int
 cM:Int
 jX:Int
 eN:Int
 jK:Int
 ll:Int
 lm:Int
 pl:Int
 pm:Int
abbrev BB.cells(b:BB)(bm aH az:aj):Array Value:=#[ag af b.room,ag af b.depth,ag af b.least,ag af b.minutes,ag af b.cM,ag af b.jX,ag af b.eN,ag af b.jK,ag af b.ll,ag af b.lm,ag af b.pl,ag af b.pm,bm,aH,az]
abbrev BB.sl(b:BB)(p:Option Addr)(n c:Nat)(q:Option Addr)(k d:Nat)(r:Option Addr)(l e:Nat):Array Value:=b.cells (gK p n c) (gK q k d) (gK r l e)
abbrev BB.br(b:BB)(p:Option Addr)(n c:Nat):Array Value:=b.cells (gK p n c) (gK none 0 0) (gK none 0 0)
structure BB.Ok(b:BB):Prop where
 room:1<=b.room/\b.room<=99
 depth:0<=b.depth/\b.depth<=99
 least:0<=b.least/\b.least<=99
 minutes:1<=b.minutes/\b.minutes<=8
 cM:0<=b.cM/\b.cM<=99
 jX:0<=b.jX/\b.jX<=99
 eN:0<=b.eN/\b.eN<=3
 jK:0<=b.jK/\b.jK<=99
 leak:0<=b.ll/\b.ll<=b.lm/\b.lm<=99/\b.lm-b.ll<3
 Nt:1<=b.pl/\b.pl<=b.pm/\b.pm<=b.minutes
def BB.holds(b:BB):Int:=b.room*(33+b.depth) / 33
def BB.RS(b:BB)(n:Int):Int:=n*33 / (33+b.depth)
structure dS where
 leak:Int
 m0:Int
 m1:Int
 m2:Int
deriving DecidableEq
abbrev dS.cells(a:dS):Array Value:=#[ag af a.leak,ag af a.m0,ag af a.m1,ag af a.m2]
structure dS.Ok(a:dS):Prop where
 leak:0<=a.leak/\a.leak<=400
 m0:0<=a.m0/\a.m0<=99
 m1:0<=a.m1/\a.m1<=99
 m2:0<=a.m2/\a.m2<=99
def dS.used(a:dS):Int:=a.leak+a.m0+a.m1+a.m2
def BB.EI(b:BB)(h:b.Ok):b.room<=b.holds/\b.holds<=396:=by
 have h1:=h.room;have h2:=h.depth;unfold BB.holds;have h3:b.room*33<=b.room*(33+b.depth):=Int.mul_le_mul_of_nonneg_left oM oM;have h4:b.room*(33+b.depth)<=99*132:=Int.mul_le_mul oM oM oM oM;omega
def BB.abj(b:BB)(h:b.Ok){n:Int}(h0:0<=n)(h1:n<=999):0<=n*33/\n*33<=32967/\0<33+b.depth/\33+b.depth<=132:=by
 have h2:=h.depth;omega
def BB.step(b:BB)(used:Int)(p:Nat)(m:Nat)(n:Int):Int:=
 max 0 (min ((n+if p.testBit m then b.jX else 0)+if b.pl<=m/\m<=b.pm then b.jK else 0) b.holds-used)
def BB.yG(b:BB)(used:Int)(p:Nat):Nat->Int
 |0=>b.room
 |m+1=>b.step used p (m+1) (b.yG used p m)
def BB.nz(b:BB)(used:Int)(p k:Nat):List Int:=(aQ k).map fun i=>b.yG used p (i+1)
def BB.QL(b:BB)(used:Int)(p k:Nat):b.nz used p (k+1)=b.nz used p k++[b.yG used p (k+1)]:=by
 simp[BB.nz,List.range_succ]
def BB.vx(b:BB)(used:Int)(p k:Nat):(b.nz used p k).length=k:=by simp[BB.nz]
def BB.OH(b:BB)(h:b.Ok){used:Int}(hu:0<=used)(p:Nat):∀k,0<=b.yG used p k/\b.yG used p k<=396:=by
 intro k;have hh:=b.EI h;have h1:=h.room;cases k with
 |zero=>simp only[BB.yG];omega
 |succ k=>simp only[BB.yG,BB.step];omega
def upTo(p k:Nat):List Nat:=(bP 1 k).filter p.testBit
def Hd(p k:Nat):upTo p (k+1)=upTo p k++if p.testBit (k+1) then[k+1] else[]:=by
 unfold upTo;rw[show bP 1 (k+1)=bP 1 k++[k+1] by rw[List.range'_concat];simp[Nat.add_comm]];rw[List.filter_append]
 congr 1
 by_cases h:p.testBit (k+1)<;>simp[h]
def vZ(p k:Nat):(upTo p k).length<=k:=by
 unfold upTo;have:=List.length_filter_le p.testBit (bP 1 k);simpa using this
open Go.RowKit
def qu{a b:Bool}(h:a=b):bw (aA a)=aU (aA b):=by rw[h]
def ij{k:IntKind}{a b:Int}(h:a=b):bw (ag k a)=aU (ag k b):=by rw[h]
def aV(n l m:Int):Bool:=decide (l<=n)&&decide (n<=m)
def qC(n l m:Int)(w:ak):a_ aq 138 #[ag af n,ag af l,ag af m] w fun e w'=>e=aU (aA (aV n l m))/\w=w':=by
 by_cases h1:l<=n
 .have h:aV n l m=decide (n<=m):=by simp[aV,h1]
  rw[h];have H:=ai h;clear h
  go_enter Tryz.func138,Tryz.ntmps138
  go_wp2
  all_goals (go_ret;first|exact⟨rfl,rfl⟩|(refine⟨qu ?_,rfl⟩;simp))
 have h:aV n l m=false:=by simp[aV,h1]
 rw[h];have H:=ai h;clear h
 go_enter Tryz.func138,Tryz.ntmps138
 go_wp2
 all_goals (go_ret;first|exact⟨rfl,rfl⟩|(refine⟨qu ?_,rfl⟩;simp))
def JF(n m:Nat)(hn:n<512)(hm:m<9)(w:ak):a_ aq 162 #[ag af n,ag af m] w fun e w'=>e=aU (aA (n.testBit m))/\w=w':=by
 go_enter Tryz.func162,Tryz.ntmps162
 go_wp2
 go_ret
 exact⟨qu (wL n m hn),rfl⟩
def info3:(Tryz.prog.info? 3).map (fun i=>(i.zero,i.size,i.bytes))=some (some (ag af 0),1,8):=kQ
def tI{B e n size:Nat}{xs:List aj}{w wr w1:ak}{u:aj}{o:Obj}(hB:B<=wr.heap.size)(hown:wr.ownsRow B e size u n xs)(eb:fX B w wr)(hgrow:(wr.alloc o).grownBy w1 u.ownBlock):fX B w w1:=
 (eb.alloc hB o).grown hgrow sO fun j hj=>(hown.lt j hj).1
def Ld(p:Nat)(hp:p<512)(w:ak) :
  a_ aq 99 #[ag af p] w fun e w'=>∃v,e=aU v/\w'.ownsRow w.heap.size 3 1 v (upTo p 8).length ((upTo p 8).map fun(m:Nat)=>aD af (m:Int))/\Bw w w':=by
 obtain⟨i0,hi,hz0,hz1,hz2⟩:=info_parts info3
 go_enter Tryz.func99,Tryz.ntmps99
 go_wp2
 go_loopw [3,4] (fun v i wr=>∃k:Nat,k<=8/\i=ag af (k+1)/\wr.ownsRow w.heap.size 3 1 v (upTo p k).length ((upTo p k).map fun(m:Nat)=>aD af (m:Int))/\Bw w wr)
  (fun _ i _=>9-(intOf i).toNat)
 case atStart=>exact⟨0,oM,rfl,eD _ _ _ _,ay _ _⟩
 case round=>
  obtain⟨k,hk,rfl,hown,eb⟩:=hrel;have hle:=vZ p k
  by_cases hlt:k<8
  .cases hb:p.testBit (k+1)
   .have e1:upTo p (k+1)=upTo p k:=by rw[Hd,hb];simp
    have hc:=JF p (k+1) hp oM;rw[hb] at hc;have HC:=ai hc;have H1:=ai e1;clear e1 hb hc
    go_wp2_with (go_at_call 162;refine(HC.out _).mono ?_;rintro e w' ⟨rfl,rfl⟩)
    go_roundw
    case rel=>exact⟨k+1,oM,by go_num,by rw[H1.out];exact hown,eb⟩
    case measure=>simp[intOf];omega
   have e1:upTo p (k+1)=upTo p k++[k+1]:=by rw[Hd,hb];simp
   have hc:=JF p (k+1) hp oM;rw[hb] at hc;have HC:=ai hc;have H1:=ai e1;clear e1 hb hc;have hB:=eb.size
   go_wp2_with (first
    |(go_at_call 162;refine(HC.out _).mono ?_;rintro e w' ⟨rfl,rfl⟩)
    |(at_builtin;refine wpList_append_own _ rfl _ _ 25 rfl w.heap.size 3 i0 (ag af 0) 1 8 gO hi hz0 hz1 hz2 rfl dC _ _ _ rfl (hown.alloc _) ⟨wr.heap.size,0,none⟩ 1 1 [ag af (k+1)] rfl rfl ?c1 ?c2 ?c3 ?c4 ?c5 ?_))
   case c1=>
    intro j u hj
    match j,hj with
    |0,hj=>simp at hj;subst hj;simp[mg]
   case c2=>intro u hu;simp at hu;subst hu;rfl
   case c3=>unfold maxLen;omega
   case c4=>omega
   case c5=>simp;omega
   intro v' w1 hown' hgrow _;have hb1:Bw w w1:=tI hB hown eb hgrow;clear hgrow eb hown;go_wp2;go_roundw
   case rel=>exact⟨k+1,oM,by go_num,by rw[H1.out];simpa using hown',hb1⟩
   case measure=>simp[intOf];omega
  obtain rfl:k=8:=oM;go_wp2
  go_ret
  exact⟨_,rfl,hown,eb⟩
def tq(p:Nat)(hp:p<512)(w:ak):a_ aq 97 #[ag af p] w (Rt w (ag af (upTo p 8).length)):=by
 go_enter Tryz.func97,Tryz.ntmps97
 go_wp2_with fail
 refine(Ld p hp _).mono ?_;rintro e w1 ⟨v,rfl,hown,hb⟩;rcases hown.2 with⟨rfl,h0⟩|⟨g,cap,cur,rfl,_,_,_,_,_,_⟩
 .have H0:=ai h0;clear h0 hown;go_wp2
  go_ret
  exact⟨ij (by rw[H0.out];rfl),hb⟩
 clear hown;go_wp2
 go_ret
 exact⟨rfl,hb⟩
def Hz(b:BB)(hb:b.Ok)(bm aH az:aj)(w:ak):a_ aq 115 #[aN (b.cells bm aH az)] w (Rt w (ag af b.holds)):=by
 have h1:=hb.room;have h2:=hb.depth;have h3:=b.EI hb;have h4:b.room*(33+b.depth)<=99*132:=Int.mul_le_mul oM oM oM oM;have h5:0<=b.room*(33+b.depth):=Int.mul_nonneg oM oM
 go_enter Tryz.func115,Tryz.ntmps115
 go_wp2
 go_ret
 exact⟨ij rfl,cY⟩
def JN(b:BB)(hb:b.Ok)(bm aH az:aj)(n:Int)(hn:0<=n/\n<=999)(w:ak):a_ aq 139 #[aN (b.cells bm aH az),ag af n] w (Rt w (ag af (b.RS n))):=by
 have h2:=hb.depth;have h1:=b.abj hb hn.1 hn.2
 go_enter Tryz.func139,Tryz.ntmps139
 go_wp2
 go_ret
 exact⟨ij rfl,cY⟩
def Ku(a:dS)(ha:a.Ok)(w:ak):a_ aq 165 #[aN a.cells] w (Rt w (ag af a.used)):=by
 have h1:=ha.leak;have h2:=ha.m0;have h3:=ha.m1;have h4:=ha.m2;have ix:∀(x y z:Int) w,(m6 132 (aN #[ag af x,ag af y,ag af z]) (ag af 0)).run aq w=.ok (ag af x) w:=fun _ _ _ _=>by kernel_rfl
 have iy:∀(x y z:Int) w,(m6 132 (aN #[ag af x,ag af y,ag af z]) (ag af 1)).run aq w=.ok (ag af y) w:=fun _ _ _ _=>by kernel_rfl
 have iz:∀(x y z:Int) w,(m6 132 (aN #[ag af x,ag af y,ag af z]) (ag af 2)).run aq w=.ok (ag af z) w:=fun _ _ _ _=>by kernel_rfl
 go_enter Tryz.func165,Tryz.ntmps165
 go_wp2
 go_loop [3,10] (fun n i=>(i=ag af 0/\n=ag af a.leak)\/(i=ag af 1/\n=ag af (a.leak+a.m0))\/(i=ag af 2/\n=ag af (a.leak+a.m0+a.m1))\/(i=ag af 3/\n=ag af (a.leak+a.m0+a.m1+a.m2))) (fun _ i=>3-(intOf i).toNat)
 case atStart=>exact cz ⟨rfl,rfl⟩
 case round=>
  rcases hrel with⟨rfl,rfl⟩|⟨rfl,rfl⟩|⟨rfl,rfl⟩|⟨rfl,rfl⟩
  .go_wp2
   go_round
   case rel=>exact .inr (cz ⟨rfl,rfl⟩)
   case measure=>simp[intOf]
  .go_wp2
   go_round
   case rel=>exact .inr (.inr (cz ⟨rfl,rfl⟩))
   case measure=>simp[intOf]
  .go_wp2
   go_round
   case rel=>exact .inr (.inr (.inr ⟨rfl,rfl⟩))
   case measure=>simp[intOf]
  go_wp2
  go_ret
  exact⟨ij rfl,cY⟩
abbrev Nu(b:BB)(bm aH az:aj)(a:dS)(w w':ak):Prop:=w'.cell? ⟨w.heap.size,0,none⟩=some (ag af b.room)/\w'.cell? ⟨w.heap.size,4,none⟩=some (ag af b.cM)/\w'.cell? ⟨w.heap.size+1,0,none⟩=some (ag af a.leak)/\w'.cell? ⟨w.heap.size+1,1,none⟩=some (ag af a.m0)/\w'.cell? ⟨w.heap.size+1,2,none⟩=some (ag af a.m1)/\w'.cell? ⟨w.heap.size+1,3,none⟩=some (ag af a.m2)/\fX (w.heap.size+2) ((w.alloc (au (b.cells bm aH az) 119)).alloc (au a.cells 134)) w'
def I3(b:BB)(bm aH az:aj)(a:dS)(w:ak):Nu b bm aH az a w ((w.alloc (au (b.cells bm aH az) 119)).alloc (au a.cells 134)).drew:=by
 refine⟨?_,?_,?_,?_,?_,?_,(ay _ _).drew⟩<;>go_simp
def KR{b:BB}{bm aH az:aj}{a:dS}{w w1 w2:ak}(h:Nu b bm aH az a w w1)(hb:Bw w1 w2):Nu b bm aH az a w w2:=by
 obtain⟨h1,h2,h3,h4,h5,h6,h7⟩:=h;have hs:=h7.size;simp at hs;refine⟨(hb.cell sO).trans h1,(hb.cell sO).trans h2,(hb.cell sO).trans h3,(hb.cell sO).trans h4,(hb.cell sO).trans h5,(hb.cell sO).trans h6,h7.trans (hb.mono oM)⟩
def ownsRow_base{w:ak}{B B':Nat}{e:aZ}{size:Nat}{v:aj}{n:Nat}{xs:List aj}(h:w.ownsRow B e size v n xs)(hB:B'<=B):w.ownsRow B' e size v n xs:=
 ⟨h.1,h.2.imp id fun⟨g,cap,cur,h1,h2,h3⟩=>⟨g,cap,cur,h1,Nat.le_trans hB h2,h3⟩⟩
def bU{w:ak}{B:Nat}{b:BB}{bm aH az:aj}{T:aZ}(h:w.heap[B]?=some (au (b.cells bm aH az) T (0,0))) :
  w.cell? ⟨B,0,none⟩=some (ag af b.room)/\w.cell? ⟨B,1,none⟩=some (ag af b.depth)/\w.cell? ⟨B,2,none⟩=some (ag af b.least)/\w.cell? ⟨B,3,none⟩=some (ag af b.minutes)/\w.cell? ⟨B,4,none⟩=some (ag af b.cM)/\w.cell? ⟨B,5,none⟩=some (ag af b.jX)/\w.cell? ⟨B,6,none⟩=some (ag af b.eN)/\
  w.cell? ⟨B,7,none⟩=some (ag af b.jK)/\w.cell? ⟨B,8,none⟩=some (ag af b.ll)/\w.cell? ⟨B,9,none⟩=some (ag af b.lm)/\w.cell? ⟨B,10,none⟩=some (ag af b.pl)/\w.cell? ⟨B,11,none⟩=some (ag af b.pm)/\w.cell? ⟨B,12,none⟩=some bm/\w.cell? ⟨B,13,none⟩=some aH/\w.cell? ⟨B,14,none⟩=some az:=by
 unfold dG;simp only[h];exact⟨rfl,rfl,rfl,rfl,rfl,rfl,rfl,rfl,rfl,rfl,rfl,rfl,rfl,rfl,rfl⟩
def uk(w:ak)(o o':Obj):((w.alloc o).alloc o').heap[w.heap.size]?=some o:=by
 rw[aW _ _ _ sM];exact ax w o
def BB.Yc(b:BB)(used:Int)(p k:Nat)(hk:0<k):b.yG used p k=b.step used p k (b.yG used p (k-1)):=by
 cases k with
 |zero=>omega
 |succ k=>rfl
def BB.Ts(b:BB)(used:Int)(p k:Nat)(hk:0<k):b.nz used p k=b.nz used p (k-1)++[b.yG used p k]:=by
 cases k with
 |zero=>omega
 |succ k=>exact b.QL used p k
def gF{n l m:Int}:aV n l m=true↔l<=n/\n<=m:=by simp[aV]
def Hv{n l m:Int}(h:aV n l m=false):¬(l<=n/\n<=m):=fun h'=>by rw[gF.2 h'] at h;cases h
section
variable{b:BB}{used n:Int}{p k:Nat}
theorem Ws(h1:p.testBit k=false)(h2:aV k b.pl b.pm=false):b.step used p k n=max 0 (min n b.holds-used):=by
 unfold BB.step;rw[h1,if_neg (Hv h2)];simp
theorem Wn(h1:p.testBit k=true)(h2:aV k b.pl b.pm=false):b.step used p k n=max 0 (min (n+b.jX) b.holds-used):=by
 unfold BB.step;rw[h1,if_neg (Hv h2)];simp
theorem Wq(h1:p.testBit k=false)(h2:aV k b.pl b.pm=true):b.step used p k n=max 0 (min (n+b.jK) b.holds-used):=by
 unfold BB.step;rw[h1,if_pos (gF.1 h2)];simp
theorem Wm(h1:p.testBit k=true)(h2:aV k b.pl b.pm=true):b.step used p k n=max 0 (min (n+b.jX+b.jK) b.holds-used):=by
 unfold BB.step;rw[h1,if_pos (gF.1 h2)];simp
end
def Gh{w w':ak}{B:Nat}{e:aZ}{size:Nat}{v:aj}{n:Nat}{xs:List aj}(h:w.ownsRow B e size v n xs)(hb:Bw w w'):w'.ownsRow B e size v n xs:=
 ⟨h.1,h.2.imp id fun⟨g,cap,cur,h1,h2,h3,h4⟩=>⟨g,cap,cur,h1,h2,by rw[hb.block g (ah.1 h3).1];exact h3,h4⟩⟩
def Yy{W:ak}{ad:Addr}{v:aj}(h:W.cell? ad=some v):∀j u,[v][j]?=some u->W.cell? (ad.add j)=some u:=by
 intro j u hj
 match j,hj with
 |0,hj=>simp at hj;subst hj;simpa [mg] using h
def Mj(w:ak)(v:aj)(T:aZ):(w.alloc (au #[v] T)).cell? ⟨w.heap.size,0,none⟩=some v:=by
 rw[World.cell?_alloc_at _ _ _ _ rfl];rfl
def TN{v:aj}(h:v.oneCell'=true):∀u∈[v],u.oneCell'=true:=by
 intro u hu;simp at hu;subst hu;exact h
def Eg(b:BB)(hb:b.Ok)(bm aH az:aj)(a:dS)(ha:a.Ok)(p:Nat)(hp:p<512)(w:ak) :
  a_ aq 114 #[aN (b.cells bm aH az),aN a.cells,ag af p] w fun e w'=>∃v,e=aU v/\w'.ownsRow w.heap.size 3 1 v b.minutes.toNat ((b.nz (b.cM+a.used) p b.minutes.toNat).map (aD af))/\Bw w w':=by
 have aak:=hb.cM;have AX:=hb.minutes;have aj6:=hb.jX;have ajE:=hb.jK;have hroom:=hb.room;have hu:0<=a.used/\a.used<=697:=by have:=ha.leak;have:=ha.m0;have:=ha.m1;have:=ha.m2;unfold dS.used;omega
 have hw:IntKind.i64.wrap (b.cM+a.used)=b.cM+a.used:=fC _ oM oM;obtain⟨i0,hi,hz0,hz1,hz2⟩:=info_parts info3
 go_enter Tryz.func114,Tryz.ntmps114
 go_wp2
 go_region_held3 (fun w'=>w'.cell? ⟨w.heap.size,0,none⟩=some (ag af b.room)/\w'.cell? ⟨w.heap.size,4,none⟩=some (ag af b.cM)/\w'.cell? ⟨w.heap.size+1,0,none⟩=some (ag af a.leak)/\w'.cell? ⟨w.heap.size+1,1,none⟩=some (ag af a.m0)/\w'.cell? ⟨w.heap.size+1,2,none⟩=some (ag af a.m1)/\w'.cell? ⟨w.heap.size+1,3,none⟩=some (ag af a.m2)/\fX (w.heap.size+2) ((w.alloc (au (b.cells bm aH az) 119)).alloc (au a.cells 134)) w')
  (first|exact I3 b bm aH az a w|exact KR (by assumption) (by assumption))
  (first|(go_at_call 165;refine(Ku a ha _).mono ?_;rintro e w1 ⟨rfl,hb1⟩))
 rename _/\_=>hS;obtain⟨-,-,-,-,-,-,hB1⟩:=hS
 have lg:w1.heap[w.heap.size]?=some (au (b.cells bm aH az) 119 (0,0)):=by
  rw[hB1.block _ oM];exact uk _ _ _
 obtain⟨-,-,-,hc3,-,-,-,-,-,-,-,-,-,-,-⟩:=bU lg;clear hb1 hw;generalize YE:b.cM+a.used=used at *;have hu2:0<=used/\used<=796:=oM;have HH:=ai YE;clear YE hu;go_wp2
 go_loopw [7,8,24] (fun v n i wr=>∃k:Nat,(k:Int)<=b.minutes+1/\i=ag af k/\n=ag af (b.yG used p (k-1))/\wr.ownsRow (w.heap.size+2) 3 1 v (k-1) ((b.nz used p (k-1)).map (aD af))/\fX (w.heap.size+2) ((w.alloc (au (b.cells bm aH az) 119)).alloc (au a.cells 134)) wr)
  (fun _ _ i _=>b.minutes.toNat+1-(intOf i).toNat)
 case atStart=>exact⟨0,oM,rfl,rfl,eD _ _ _ _,hB1⟩
 case round=>
  obtain⟨k,hk,rfl,rfl,hown,eb⟩:=hrel
  have lg:wr.heap[w.heap.size]?=some (au (b.cells bm aH az) 119 (0,0)):=by
   rw[eb.block _ oM];exact uk _ _ _
  have hcc:=bU lg;have UC:=b.OH hb hu2.1 p (k-1);have amG:=b.EI hb;have hB:=eb.size;simp at hB
  by_cases hlt:(k:Int)<b.minutes+1
  .rcases Nat.eq_zero_or_pos k with rfl|jS
   .obtain⟨hc0,hc1,hc2,hc3,hc4,hc5,hc6,hc7,hc8,Rs,N7,ahu,aht,Ru,Uw⟩:=hcc;go_wp2;go_roundw
    case rel=>exact⟨1,oM,rfl,rfl,hown,eb⟩
    case measure=>simp[intOf]
   have hst:=b.Yc used p k jS;have hpl:=b.Ts used p k jS;have hlen:(b.nz used p (k-1)).length=k-1:=b.vx used p (k-1);have hne:((k:Int)==0)=false:=sO;generalize b.yG used p (k-1)=n at *;obtain⟨hc0,hc1,hc2,hc3,hc4,hc5,hc6,hc7,hc8,Rs,N7,ahu,aht,Ru,Uw⟩:=hcc;have H1:=ai hst;have H2:=ai hpl;have H3:=ai hlen;clear hst hpl hlen;cases aaK:p.testBit k<;>cases hin:aV k b.pl b.pm
   all_goals
    have HB:=ai aaK;have HI:=ai hin;have HA:=JF p k hp oM;rw[aaK] at HA;have HAH:=ai HA;have IA:=qC k b.pl b.pm;rw[hin] at IA;have IAH:=ai IA;clear aaK hin HA IA
    go_wp2_with (first
     |(go_at_call 162;refine(HAH.out _).mono ?_;rintro e w' ⟨rfl,rfl⟩)
     |(go_at_call 138;refine(IAH.out _).mono ?_;rintro e w' ⟨rfl,rfl⟩)
     |(go_at_call 115;refine(Hz b hb bm aH az _).mono ?_;rintro e w2 ⟨rfl,hb2⟩;have hown2:=Gh hown hb2;have amj:=hb2.size)
     |(at_builtin;refine wpList_append_own _ rfl (.tmp 59) (.tmp 61) 25 rfl (w.heap.size+2) 3 i0 (ag af 0) 1 8 gO hi hz0 hz1 hz2 rfl dC _ _ _ rfl (hown2.alloc _) ⟨w2.heap.size,0,none⟩ 1 1 [_] rfl rfl (Yy (Mj _ _ _)) (TN rfl) ?_ ?_ ?_ ?_))
   all_goals first
    |(simp;omega;done)
    |(unfold maxLen;omega;done)
    |(omega;done)
    |skip
   all_goals
    intro v' w3 hown' hgrow _;have hb3:=((eb.trans (hb2.mono oM)).alloc (by have:=hb2.size;omega) _).grown hgrow sO (fun j hj=>(hown2.lt j hj).1);clear hgrow;go_wp2;go_roundw
    case rel=>
     have hS:b.step used p k n=max 0 (min (n+(if p.testBit k then b.jX else 0)+(if aV k b.pl b.pm then b.jK else 0)) b.holds-used):=by
      first
       |(rw[Ws HB.out HI.out,HB.out,HI.out];simp;done)
       |(rw[Wn HB.out HI.out,HB.out,HI.out];simp;done)
       |(rw[Wq HB.out HI.out,HB.out,HI.out];simp;done)
       |(rw[Wm HB.out HI.out,HB.out,HI.out];simp;done)
     rw[HB.out,HI.out] at hS;simp only[if_true,bE,if_false,Int.add_zero] at hS;refine⟨k+1,oM,by go_num,?_,?_,hb3⟩
     .rw[Nat.add_sub_cancel,H1.out,hS]
      congr 1
      skip
      omega
     rw[Nat.add_sub_cancel,H2.out,H1.out,hS];have pP:k-1+1=k:=oM;rw[pP] at hown';rw[eG];refine(congrArg (fun y=>w3.ownsRow (w.heap.size+2) 3 1 v' k (List.map (aD af) (b.nz used p (k-1))++[aD af y])) ?_).mp hown';clear hown'
     skip
     omega
    case measure=>simp[intOf];omega
  have rE:k=b.minutes.toNat+1:=oM;go_wp2
  go_ret
  refine⟨_,rfl,?_,?_⟩
  .rw[HH.out];have e:k-1=b.minutes.toNat:=oM;rw[e] at hown;exact ownsRow_base hown oM
  exact(cY.alloc sM _).trans (eb.mono oM)
def CC{w w':ak}{B:Nat}{b:BB}{bm aH az:aj}(h:w.heap[B]?=some (au (b.cells bm aH az) 119 (0,0)))(hb:Bw w w'):(w'.cell? ⟨B,0,none⟩=some (ag af b.room)/\w'.cell? ⟨B,1,none⟩=some (ag af b.depth)/\w'.cell? ⟨B,2,none⟩=some (ag af b.least)/\w'.cell? ⟨B,3,none⟩=some (ag af b.minutes)/\w'.cell? ⟨B,4,none⟩=some (ag af b.cM)/\w'.cell? ⟨B,5,none⟩=some (ag af b.jX)/\w'.cell? ⟨B,6,none⟩=some (ag af b.eN)/\w'.cell? ⟨B,7,none⟩=some (ag af b.jK)/\w'.cell? ⟨B,8,none⟩=some (ag af b.ll)/\w'.cell? ⟨B,9,none⟩=some (ag af b.lm)/\w'.cell? ⟨B,10,none⟩=some (ag af b.pl)/\w'.cell? ⟨B,11,none⟩=some (ag af b.pm)/\w'.cell? ⟨B,12,none⟩=some bm/\w'.cell? ⟨B,13,none⟩=some aH/\w'.cell? ⟨B,14,none⟩=some az)/\Bw w w':=by
 have hlt:B<w.heap.size:=(ah.1 h).1;have h':w'.heap[B]?=some (au (b.cells bm aH az) 119 (0,0)):=by rw[hb.block B hlt];exact h
 exact⟨bU h',hb⟩
def OB{w w1 w':ak}{B:Nat}{b:BB}{bm aH az:aj}(h:w.heap[B]?=some (au (b.cells bm aH az) 119 (0,0)))(h1:Bw w w1)(h2:Bw w1 w'):(w'.cell? ⟨B,0,none⟩=some (ag af b.room)/\w'.cell? ⟨B,1,none⟩=some (ag af b.depth)/\w'.cell? ⟨B,2,none⟩=some (ag af b.least)/\w'.cell? ⟨B,3,none⟩=some (ag af b.minutes)/\w'.cell? ⟨B,4,none⟩=some (ag af b.cM)/\w'.cell? ⟨B,5,none⟩=some (ag af b.jX)/\w'.cell? ⟨B,6,none⟩=some (ag af b.eN)/\w'.cell? ⟨B,7,none⟩=some (ag af b.jK)/\w'.cell? ⟨B,8,none⟩=some (ag af b.ll)/\w'.cell? ⟨B,9,none⟩=some (ag af b.lm)/\w'.cell? ⟨B,10,none⟩=some (ag af b.pl)/\w'.cell? ⟨B,11,none⟩=some (ag af b.pm)/\w'.cell? ⟨B,12,none⟩=some bm/\w'.cell? ⟨B,13,none⟩=some aH/\w'.cell? ⟨B,14,none⟩=some az)/\Bw w w':=
 CC h (h1.trans (h2.mono h1.size))
def My(b:BB)(hb:b.Ok)(bm aH az:aj)(n:Int)(hn:0<=n/\n<=999)(B:Nat)(w:ak)(lg:w.heap[B]?=some (au (b.cells bm aH az) 119 (0,0))) :
  a_ aq 171 #[ag af n,dB (some ⟨B,0,none⟩)] w (Rt w (aA (decide (b.RS n<b.least)))):=by
 have HK:=ai lg;clear lg
 go_enter Tryz.func171,Tryz.ntmps171
 go_wp2
 go_region_held3 (fun w'=>(w'.cell? ⟨B,0,none⟩=some (ag af b.room)/\w'.cell? ⟨B,1,none⟩=some (ag af b.depth)/\w'.cell? ⟨B,2,none⟩=some (ag af b.least)/\w'.cell? ⟨B,3,none⟩=some (ag af b.minutes)/\w'.cell? ⟨B,4,none⟩=some (ag af b.cM)/\w'.cell? ⟨B,5,none⟩=some (ag af b.jX)/\w'.cell? ⟨B,6,none⟩=some (ag af b.eN)/\w'.cell? ⟨B,7,none⟩=some (ag af b.jK)/\w'.cell? ⟨B,8,none⟩=some (ag af b.ll)/\w'.cell? ⟨B,9,none⟩=some (ag af b.lm)/\w'.cell? ⟨B,10,none⟩=some (ag af b.pl)/\w'.cell? ⟨B,11,none⟩=some (ag af b.pm)/\w'.cell? ⟨B,12,none⟩=some bm/\w'.cell? ⟨B,13,none⟩=some aH/\w'.cell? ⟨B,14,none⟩=some az)/\Bw w w')
  (first|exact CC HK.out (ay _ _).drew|exact OB HK.out (And.right (by assumption)) (by assumption))
  (first|(go_at_call 139;refine(JN b hb bm aH az n hn _).mono ?_;rintro e w1 ⟨rfl,hb1⟩))
 rename _/\_=>hS;have hBw:=hS.2;clear hS;go_wp2
 go_ret
 exact⟨rfl,hBw⟩
end Go.Proofs.YtffladgmkiimjaaGreatDoor
namespace Go.Lag
open Go Go.ChangeMaps Go.MapKept
structure yH(P:aL)(T K E:aZ)(key:Int->aj):Prop where
 map:P.underlying T=some (.map K E)
 plain:∃d,P.underlying K=some d/\∀a b,Instr.sameNow d a b=none
 check:∀(e:Bool) (u:Int) (w:ak),(Instr.checkKey e 10000 K (key u)).run P w=.ok () w
 eql:∀(u v:Int) (w:ak),(Op.equal K (key u) (key v)).run P w=.ok (decide (u=v)) w
 zero:∀w,(zeroValue E).run P w=.ok (aA false) w
def mM(w:ak)(b:Nat)(key:Int->aj)(us:List Int):Prop:=
 ∃es clock,w.heap[b]?=some (.map es clock)/\es.toList.map (fun e:uq=>(e.key,e.val))=us.map fun u=>(key u,aA true)
section
variable{P:aL}{T K E:aZ}{key:Int->aj}
theorem vI(L:yH P T K E key)(u:Int)(w:ak):∀(us:List Int) (es:List uq) (i:Nat),es.map (fun e:uq=>(e.key,e.val))=us.map (fun u=>(key u,Value.bool true))->
  ∃r,(jr K (key u) es i).run P w=.ok r w/\(u∈us->∃j,r=some (j,aA true))/\(u ∉ us->r=none)
 |[],es,i,h=>by
  have:es=[]:=by simpa using h
  subst this;exact⟨none,rfl,by simp,by simp⟩
 |v::us,[],i,h=>by simp at h
 |v::us,e::es,i,h=>by
  simp only[cP,Ar,g_] at h;obtain⟨⟨hk,hv⟩,ht⟩:=h;obtain⟨r,hr,h1,h2⟩:=vI L u w us es (i+1) ht;have hq:=L.eql u v w;rw[<-hk] at hq
  have e1:(jr K (key u) (e::es) i).run P w=if decide (u=v)=true then .ok (some (i,e.val)) w else(jr K (key u) es (i+1)).run P w:=by
   show((Op.equal K (key u) e.key).bind fun c=>if c=true then Sem.pure (some (i,e.val)) else jr K (key u) es (i+1)).run P w=_;rw[Sem.run_bind',hq]
   by_cases h:u=v<;>simp[h,Sem.run,GY]
  by_cases huv:u=v
  .subst huv;refine⟨some (i,aA true),?_,fun _=>⟨i,rfl⟩,fun h=>absurd (List.mem_cons_self ..) h⟩;rw[e1,if_pos (by simp),hv]
  refine⟨r,?_,fun h=>h1 ((List.mem_cons.1 h).resolve_left huv),fun h=>h2 fun h'=>h (List.mem_cons_of_mem _ h')⟩;rw[e1,if_neg (by simpa using huv),hr]
theorem Co(L:yH P T K E key)(u:Int)(w:ak){us:List Int}{es:List uq}(h:es.map (fun e:uq=>(e.key,e.val))=us.map (fun u=>(key u,Value.bool true))) :
  ∃r,(Dc K (key u) es).run P w=.ok r w/\(u∈us->∃j,r=some (j,aA true))/\(u ∉ us->r=none):=by
 obtain⟨d,hd,hs⟩:=L.plain;obtain⟨r,hr,h1,h2⟩:=vI L u w us es 0 h
 have hu:(iZ K).run P w=.ok d w:=by
  exact run_underlying hd w
 have e1:(Dc K (key u) es).run P w=(match Instr.findNow d (key u) es 0 with|some r=>Sem.pure r|none=>jr K (key u) es 0).run P w:=by
  show((iZ K).bind _).run P w=_;rw[Sem.run_bind',hu];rfl
 cases es with
 |nil=>
  have:us=[]:=by simpa using h.symm
  subst this;exact⟨none,by rw[e1];rfl,by simp,by simp⟩
 |cons e es=>
  refine⟨r,?_,h1,h2⟩;rw[e1]
  have:Instr.findNow d (key u) (e::es) 0=none:=by
   simp only[Instr.findNow,hs]
  rw[this];exact hr
theorem DZ(L:yH P T K E key){w:ak}{b:Nat}{us:List Int}(h:mM w b key us)(u:Int) :
  (Instr.lookup T (.map (some b)) (key u) false).run P w=.ok (aA (decide (u∈us))) w:=by
 obtain⟨es,clock,hb,he⟩:=h;obtain⟨r,hr,h1,h2⟩:=Co L u w he
 have hu:(iZ T).run P w=.ok (.map K E) w:=by
  exact run_underlying L.map w
 have hck:=L.check es.isEmpty u w;have hz:=L.zero w;have hg:(getObj b).run P w=.ok (.map es clock) w:=by simp only[getObj,Sem.run,hb]
 unfold Instr.lookup;show((iZ T).bind _).run P w=_;rw[Sem.run_bind',hu]
 by_cases hm:u∈us
 .obtain⟨j,rfl⟩:=h1 hm;simp[GY,hg,hck,hr,hm]
 obtain rfl:=h2 hm;simp[GY,hg,hck,hr,hm,hz]
theorem DY(L:yH P T K E key){w:ak}{b:Nat}{us:List Int}(h:mM w b key us)(u:Int)(hu':u ∉ us) :
  ∃es clock,(Av T (.map (some b)) (key u) (aA true)).run P w=.ok () (setBlock w b (.map es clock))/\mM (setBlock w b (.map es clock)) b key (us++[u]):=by
 obtain⟨es,clock,hb,he⟩:=h;obtain⟨r,hr,h1,h2⟩:=Co L u w he;obtain rfl:=h2 hu'
 have hu:(iZ T).run P w=.ok (.map K E) w:=by
  exact run_underlying L.map w
 have hck:=L.check false u w;refine⟨es.push { key:=key u,val:=aA true,born:=clock },clock+1,?_,?_⟩
 .unfold Av;show((iZ T).bind _).run P w=_;rw[Sem.run_bind',hu];have hg:(getObj b).run P w=.ok (.map es clock) w:=by simp only[getObj,Sem.run,hb]
  simp[GY,hg,hck,hr,setObj,Sem.run,hb,setBlock]
 refine⟨es.push { key:=key u,val:=aA true,born:=clock },clock+1,?_,by simp[he]⟩;have hlt:b<w.heap.size:=(ah.1 hb).1;simp[setBlock,hlt]
theorem mM.keep{w w':ak}{b:Nat}{us:List Int}(h:mM w b key us)(hk:w'.heap[b]?=w.heap[b]?):mM w' b key us:=by
 obtain⟨es,clock,hb,he⟩:=h;exact⟨es,clock,hk.trans hb,he⟩
theorem mM.lt{w:ak}{b:Nat}{us:List Int}(h:mM w b key us):b<w.heap.size:=by
 obtain⟨es,clock,hb,he⟩:=h;exact(ah.1 hb).1
theorem mM.below{w w':ak}{b:Nat}{us:List Int}(h:mM w b key us)(hb:RowKit.Below w.heap.size w w'):mM w' b key us:=h.keep (hb.block b h.lt)
theorem mM.made(w:ak)(key:Int->aj):mM (w.alloc (.map #[] 0)) w.heap.size key []:=⟨#[],0,(MapKept.heap_alloc w _).1,rfl⟩
theorem nv(w:ak){aM:Array cI}{rest:List cI}{o:cI}{a:k9}{Q:Exit->k9->ak->Prop}(hg:o.guard=none)(m x:bI)(t:aZ)(hop:o.op=Op.lookup t m x false)
  (L:yH P t K E key) (b:Nat) {us:List Int} (hm:a.eval m=.map (some b)) (hown:mM w b key us) (u:Int) (hx:a.eval x=key u)
  (hK:wpList P aM Q rest (a.put o.dst (aA (decide (u∈us)))) w):wpList P aM Q (o::rest) a w:=by
 refine wpList_plain hg fun K' hK'=>?_;have hrun:=DZ L hown u;unfold Oper.wp;simp[cu,hop,hm,hx,hrun,GY];exact hK' _ _ (by simpa using hK)
theorem rr(w:ak){aM:Array cI}{rest:List cI}{o:cI}{a:k9}{Q:Exit->k9->ak->Prop}(hg:o.guard=none)(m x v:bI)(t:aZ)(hop:o.op=Op.mapUpdate t m x v)
  (L:yH P t K E key) (b:Nat) {us:List Int} (hm:a.eval m=.map (some b)) (hown:mM w b key us) (u:Int) (hx:a.eval x=key u) (hv:a.eval v=aA true) (hu:u ∉ us)
  (hK:∀w',mM w' b key (us++[u])->w.grownBy w' (some b)->wpList P aM Q rest (a.put o.dst ar) w'):wpList P aM Q (o::rest) a w:=by
 refine wpList_plain hg fun K' hK'=>?_;obtain⟨es,clock,hrun,uN⟩:=DY L hown u hu;obtain⟨es0,aik,hb,_⟩:=hown;unfold Oper.wp;simp[cu,hop,hm,hx,hv,hrun,GY];exact hK' _ _ (hK _ uN ⟨rfl,rfl,rfl,by simp[setBlock],fun i _ hi=>heap_setBlock_other hb _ (fun e=>hi (by rw[e]))⟩)
end
end Go.Lag
namespace Go.Proofs.YtffladgmkiimjaaGreatDoor
open Go.RowKit Go.Lag
def Reads(w:ak)(v:aj)(n:Nat)(xs:List aj):Prop:=
 (v=ae none 0 0/\n=0/\xs=[])\/∃g off cap,v=ae (some ⟨g,off,none⟩) n cap/\(n<=4294967296/\n<=cap)/\g<w.heap.size/\∀j u,xs[j]?=some u->w.cell? ⟨g,off+j,none⟩=some u
def Reads.below{w w':ak}{v:aj}{n:Nat}{xs:List aj}(h:Reads w v n xs)(hb:Bw w w'):Reads w' v n xs:=by
 rcases h with h|⟨g,off,cap,h1,h2,h3,h4⟩
 .exact cz h
 exact .inr ⟨g,off,cap,h1,h2,bD h3 hb.size,fun j u hj=>(hb.cell (p:=⟨g,off+j,none⟩) h3).trans (h4 j u hj)⟩
def Reads.jL{w:ak}{B:Nat}{e:aZ}{size:Nat}{v:aj}{n:Nat}{xs:List aj}(h:w.ownsRow B e size v n xs)(hn:n<=4294967296)(hs:xs.length=n*size):Reads w v n xs:=by
 have hc:=fun g hg=>h.cells (g:=g) hg;have hl:=h.lt;rcases h.2 with⟨rfl,rfl⟩|⟨g,cap,cur,rfl,h2⟩
 .refine cz ⟨rfl,rfl,by simpa using hs⟩
 refine .inr ⟨g,0,cap,rfl,⟨hn,h2.2.2.1⟩,(hl g rfl).2,fun j u hj=>?_⟩;have:=hc g rfl j u hj;cases j<;>simpa [mg] using this
def lx(b:BB):List Int->Nat->Int
 |[],_=>-1
 |n::r,k=>if b.RS n<b.least then k else lx b r (k+1)
def JY(b:BB)(xs:List Int)(k:Nat)(hk:k<xs.length):lx b (xs.drop k) k=if b.RS xs[k]<b.least then(k:Int) else lx b (xs.drop (k+1)) (k+1):=by
 rw[dO hk];rfl
def Mz(b:BB)(xs:List Int):lx b (xs.drop xs.length) xs.length = -1:=by simp[lx]
def OE(b:BB):∀(xs:List Int) (k:Nat),-1<=lx b xs k/\lx b xs k<=k+xs.length:=by
 intro xs
 induction xs with
 |nil=>intro k;simp only[lx];constructor<;>simp<;>omega
 |cons n r ih=>
  intro k;simp only[lx];have:=ih (k+1);split
  .simp;omega
  simp at this ⊢;omega
def Jq(b:BB)(hb:b.Ok)(bm aH az:aj)(xs:List Int)(MU:∀x∈xs,0<=x/\x<=999)(hlen:xs.length<=1000)(v:aj)(B:Nat)(w:ak)(hv:Reads w v xs.length (xs.map (aD af)))
  (lg:w.heap[B]?=some (au (b.cells bm aH az) 119 (0,0))) :
  a_ aq 170 #[v,.func (.func 171) #[] #[dB (some ⟨B,0,none⟩)]] w (Rt w (ag af (lx b xs 0))):=by
 have HK:=ai lg;clear lg;rcases hv with⟨rfl,hn,hx0⟩|⟨g,off,cap,rfl,hn,hg,hc⟩
 .obtain rfl:xs=[]:=by simpa using hx0
  clear hx0 hn
  go_enter Tryz.func170,Tryz.ntmps170
  go_wp2
  go_loopw [8] (fun i wr=>i=ag af 0/\Bw w wr) (fun _ _=>0)
  case atStart=>exact⟨rfl,ay _ _⟩
  case round=>
   obtain⟨rfl,eb⟩:=hrel;go_wp2
   go_ret
   exact⟨rfl,eb⟩
 have HC:=ai hc;clear hc;generalize hL:xs.length=L at *;have HL:=ai hL;clear hL
 go_enter Tryz.func170,Tryz.ntmps170
 go_wp2
 go_loopw [5,8] (fun _ i wr=>∃k:Nat,k<=L/\i=ag af k/\lx b xs 0=lx b (xs.drop k) k/\Bw w wr) (fun _ i _=>L-(intOf i).toNat)
 case atStart=>exact⟨0,oM,rfl,rfl,ay _ _⟩
 case round=>
  obtain⟨k,hk,rfl,ly,eb⟩:=hrel;have hB1:=eb.size
  by_cases hlt:k<L
  .have jT:k<xs.length:=by rw[HL.out];exact hlt
   have hcell:wr.cell? ⟨g,off+k,none⟩=some (ag af xs[k]):=(eb.cell (p:=⟨g,off+k,none⟩) hg).trans (HC.out k _ (by simp[jT]))
   have lg:wr.heap[B]?=some (au (b.cells bm aH az) 119 (0,0)):=by
    rw[eb.block B (ah.1 HK.out).1];exact HK.out
   have hx:=MU xs[k] (bG jT);have hT:=My b hb bm aH az xs[k] hx B wr lg;have hst:=JY b xs k jT;rw[hst] at ly;clear hst;generalize xs[k]=x at *
   by_cases hd:b.RS x<b.least
   .rw[if_pos hd] at ly;rw[decide_eq_true hd] at hT;have HB:=ai ly;have HT:=ai hT;clear ly hT hd lg
    go_wp2_with (go_at_call 171;refine HT.out.mono ?_;rintro e w2 ⟨rfl,hb2⟩)
    go_ret
    exact⟨ij HB.out.symm,eb.trans (hb2.mono hB1)⟩
   rw[if_neg hd] at ly;rw[decide_eq_false hd] at hT;have HB:=ai ly;have HT:=ai hT;clear ly hT hd lg
   go_wp2_with (go_at_call 171;refine HT.out.mono ?_;rintro e w2 ⟨rfl,hb2⟩)
   go_roundw
   case rel=>exact⟨k+1,oM,by go_num,HB.out,eb.trans (hb2.mono hB1)⟩
   case measure=>simp[intOf];omega
  obtain rfl:k=L:=oM;have e1:lx b xs 0 = -1:=by rw[ly,<-HL.out];exact Mz b xs
  have HE:=ai e1;clear e1 ly;go_wp2
  go_ret
  exact⟨ij HE.out.symm,eb⟩
def BB.bad(b:BB)(used:Int)(p:Nat):Int:=1+lx b (b.nz used p b.minutes.toNat) 0
def JX(b:BB)(hb:b.Ok)(bm aH az:aj)(a:dS)(ha:a.Ok)(p:Nat)(hp:p<512)(w:ak) :
  a_ aq 118 #[aN (b.cells bm aH az),aN a.cells,ag af p] w (Rt w (ag af (b.bad (b.cM+a.used) p))):=by
 have AX:=hb.minutes;have aak:=hb.cM;have hu:0<=b.cM+a.used:=by have:=ha.leak;have:=ha.m0;have:=ha.m1;have:=ha.m2;unfold dS.used;omega
 have zH:=OE b (b.nz (b.cM+a.used) p b.minutes.toNat) 0;rw[b.vx] at zH;have UC:=b.OH hb hu p
 go_enter Tryz.func118,Tryz.ntmps118
 go_wp2_with fail
 refine(Eg b hb bm aH az a ha p hp _).mono ?_;rintro e w1 ⟨v,rfl,hown,hb1⟩
 have lg:w1.heap[w.heap.size]?=some (au (b.cells bm aH az) 119 (0,0)):=by
  rw[hb1.block _ sO];exact uk _ _ _
 have Cj:=Reads.jL hown oM (by simp[b.vx])
 have hI:=Jq b hb bm aH az (b.nz (b.cM+a.used) p b.minutes.toNat) (fun x hx=>by
  obtain⟨i,_,rfl⟩:=List.mem_map.1 hx
  have:=UC (i+1);omega) (by rw[b.vx];omega) v w.heap.size w1 (by rw[b.vx];exact Cj) lg
 have HI:=ai hI;have hs1:=hb1.size;simp at hs1;clear hI lg Cj hown UC
 go_wp2_with (go_at_call 170;refine HI.out.mono ?_;rintro e w2 ⟨rfl,hb2⟩)
 go_ret
 exact⟨ij rfl,((cY.alloc sM _).trans (hb1.mono sO)).trans (hb2.mono oM)⟩
def AP(u:Int):Value:=aN #[ag af u,ag af 0,ag af 0,ag af 0]
def abg(u v:Int)(w:ak):(Op.equal 134 (AP u) (AP v)).run aq w=.ok (decide (u=v)) w:=by
 have ht:Tryz.prog.underlying 134=some (.struct (Tryz.prog.fieldsOf 134)):=kQ;have hp:Tryz.prog.stoodInHeld 134=false:=kQ
 have hf:(Tryz.prog.fieldsOf 134).toList=[{ name:= "leak",type:=3,offset:=0,embedded:=false,tag:= "",pkgPath:= "lagan/bell",byteOffset:=0 },{ name:= "men",type:=132,offset:=1,embedded:=false,tag:= "",pkgPath:= "lagan/bell",byteOffset:=8 }]:=kQ;have p1:∀x w,(part 3 #[ag af x,ag af 0,ag af 0,ag af 0] 0).run aq w=.ok (ag af x) w:=fun _ _=>by kernel_rfl
 have p2:∀x w,(part 132 #[ag af x,ag af 0,ag af 0,ag af 0] 1).run aq w=.ok (aN #[ag af 0,ag af 0,ag af 0]) w:=fun _ _=>by kernel_rfl
 have e1:(Op.equalIn 9999 3 (ag af u) (ag af v)).run aq w=.ok (u==v) w:=kQ;have e2:(Op.equalIn 9999 132 (aN #[ag af 0,ag af 0,ag af 0]) (aN #[ag af 0,ag af 0,ag af 0])).run aq w=.ok true w:=kQ;unfold Op.equal AP;rw[show Op.maxDepth=9999+1 from rfl,run_equalIn_struct w 9999 134 _ _ ht hp,hf]
 have n1:("leak" : String)≠ "_":=dC
 have n2:("men" : String)≠ "_":=dC;simp only[Op.eqFields,n1,n2,ne_eq,not_false_eq_true,if_true,qT,p1,p2,e1,jF]
 by_cases h:u=v
 .subst h;simp only[beq_self_eq_true,Bool.not_true,bE,if_false];simp[p2 u w,e2]
 simp[h]
def DK:yH aq 177 134 4 AP:=
 ⟨Tryz.underlying177,⟨_,Tryz.underlying134,fun _ _=>rfl⟩,fun _ _ _=>by kernel_rfl,abg,fun _=>by kernel_rfl⟩
abbrev BB.open(b:BB)(bm aH az all:aj):Array Value:=b.cells bm aH az++#[all]
def rowOf(l:List dS):List Value:=l.flatMap fun a=>a.cells.toList
def QE(l:List dS):(rowOf l).length=4*l.length:=by
 induction l with
 |nil=>rfl
 |cons a l ih=>simp[rowOf,dS.cells] at ih ⊢;omega
def sJ:∀(l:List dS) (k j:Nat) (hk:k<l.length),j<4->(rowOf l)[4*k+j]?=l[k].cells[j]?
 |[],k,j,hk,_=>by simp at hk
 |a::l,0,j,_,hj=>by
  have:rowOf (a::l)=a.cells.toList++rowOf l:=rfl;rw[this,Ao sO];simp
 |a::l,k+1,j,hk,hj=>by
  have e:rowOf (a::l)=a.cells.toList++rowOf l:=rfl;rw[e,List.getElem?_append_right sO];have:=sJ l k j (by simpa using hk) hj;simp only[List.getElem_cons_succ];rw[<-this]
  congr 1
  simp;omega
def BB.sure(b:BB)(all:List dS)(p:Nat):Bool:=all.all fun a=>decide (b.bad (b.cM+a.used) p<=0)
def Qn(b:BB)(all:List dS)(p k:Nat)(hk:k<all.length):b.sure (all.drop k) p=(decide (b.bad (b.cM+all[k].used) p<=0)&&b.sure (all.drop (k+1)) p):=by
 rw[dO hk];rfl
def Reads.cell{w:ak}{g off n cap:Nat}{l:List dS}(hc:∀j u,(rowOf l)[j]?=some u->w.cell? ⟨g,off+j,none⟩=some u)(k:Nat)(hk:k<l.length) :
  w.cell? ⟨g,off+k*4,none⟩=some (ag af l[k].leak)/\w.cell? ⟨g,off+k*4+1,none⟩=some (ag af l[k].m0)/\w.cell? ⟨g,off+k*4+2,none⟩=some (ag af l[k].m1)/\w.cell? ⟨g,off+k*4+3,none⟩=some (ag af l[k].m2):=
 ⟨hc (k*4) _ (by have:=sJ l k 0 hk oM;rw[qU];simpa using this),hc (k*4+1) _ (by rw[qU,sJ l k 1 hk oM];rfl),hc (k*4+2) _ (by rw[qU,sJ l k 2 hk oM];rfl),hc (k*4+3) _ (by rw[qU,sJ l k 3 hk oM];rfl)⟩
def jy{w:ak}{B:Nat}{b:BB}{bm aH az all:aj}{T:aZ}(h:w.heap[B]?=some (au (b.open bm aH az all) T (0,0))) :
  w.cell? ⟨B,0,none⟩=some (ag af b.room)/\w.cell? ⟨B,1,none⟩=some (ag af b.depth)/\w.cell? ⟨B,2,none⟩=some (ag af b.least)/\w.cell? ⟨B,3,none⟩=some (ag af b.minutes)/\w.cell? ⟨B,4,none⟩=some (ag af b.cM)/\w.cell? ⟨B,5,none⟩=some (ag af b.jX)/\w.cell? ⟨B,6,none⟩=some (ag af b.eN)/\
  w.cell? ⟨B,7,none⟩=some (ag af b.jK)/\w.cell? ⟨B,8,none⟩=some (ag af b.ll)/\w.cell? ⟨B,9,none⟩=some (ag af b.lm)/\w.cell? ⟨B,10,none⟩=some (ag af b.pl)/\w.cell? ⟨B,11,none⟩=some (ag af b.pm)/\w.cell? ⟨B,12,none⟩=some bm/\w.cell? ⟨B,13,none⟩=some aH/\w.cell? ⟨B,14,none⟩=some az/\w.cell? ⟨B,15,none⟩=some all:=by
 unfold dG;simp only[h];exact⟨rfl,rfl,rfl,rfl,rfl,rfl,rfl,rfl,rfl,rfl,rfl,rfl,rfl,rfl,rfl,rfl⟩
def qi{w:ak}{B:Nat}{a:dS}{T:aZ}(h:w.heap[B]?=some (au a.cells T (0,0))) :
  w.cell? ⟨B,0,none⟩=some (ag af a.leak)/\w.cell? ⟨B,1,none⟩=some (ag af a.m0)/\w.cell? ⟨B,2,none⟩=some (ag af a.m1)/\w.cell? ⟨B,3,none⟩=some (ag af a.m2):=by
 unfold dG;simp only[h];exact⟨rfl,rfl,rfl,rfl⟩
def DC{w wr w2 w3:ak}{X O O2:Obj}(h0:wr.heap[w.heap.size]?=some X)(hsz:w.heap.size+1<wr.heap.size)(hb2:fX (wr.alloc O).heap.size (wr.alloc O) w2)(hg:(w2.alloc O2).grownBy w3 (some (w.heap.size+1))) :
  w3.heap[w.heap.size]?=some X/\w3.heap[wr.heap.size]?=some O:=by
 have hs2:=hb2.size;simp at hs2;constructor
 .rw[hg.block _ sO sM,aW _ _ _ oM,hb2.block _ sO,aW _ _ _ oM];exact h0
 rw[hg.block _ sO sO,aW _ _ _ oM,hb2.block _ sM];exact ax wr O
end Go.Proofs.YtffladgmkiimjaaGreatDoor
namespace Go.Lag
open Go Go.RowKit
def mM.alloc{w:ak}{b:Nat}{key:Int->aj}{us:List Int}(h:mM w b key us)(o:Obj):mM (w.alloc o) b key us:=h.keep (by
 have:=(MapKept.heap_alloc w o).2 b;exact aW _ _ _ h.lt)
end Go.Lag
namespace Go.Proofs.YtffladgmkiimjaaGreatDoor
open Go.RowKit Go.Lag
def xL(b:BB)(hb:b.Ok)(bm aH az v:aj)(l:List dS)(hl:∀a∈l,a.Ok)(p:Nat)(hp:p<512)(w:ak)(hv:Reads w v l.length (rowOf l)) :
  a_ aq 105 #[aN (b.open bm aH az v),ag af p] w (Rt w (aA (b.sure l p))):=by
 rcases hv with⟨rfl,hn,hx0⟩|⟨g,off,cap,rfl,hn,hg,hc⟩
 .obtain rfl:l=[]:=aX hn;clear hn hx0;have hmm:=@run_makeMap aq
  go_enter Tryz.func105,Tryz.ntmps105
  go_wp2
  go_loopw [13] (fun i wr=>i=ag af 0/\Bw w wr) (fun _ _=>0)
  case atStart=>exact⟨rfl,cY.alloc sM _⟩
  case round=>
   obtain⟨rfl,eb⟩:=hrel;go_wp2
   go_ret
   exact⟨rfl,eb⟩
 have HC:=ai hc;clear hc;generalize hL:l.length=L at *;have HL:=ai hL;clear hL;have hmm:=@run_makeMap aq
 go_enter Tryz.func105,Tryz.ntmps105
 go_wp2;clear hmm
 go_loopw [7,8,13] (fun _ _ i wr=>∃(k:Nat) (us:List Int),k<=L/\i=ag af k/\mM wr (w.heap.size+1) AP us/\(∀u∈us,b.bad (b.cM+u) p<=0)/\b.sure l p=b.sure (l.drop k) p/\fX (w.heap.size+1) (w.alloc (au (b.open bm aH az (ae (some ⟨g,off,none⟩) L cap)) 122)) wr) (fun _ _ i _=>L-(intOf i).toNat)
 case atStart=>exact⟨0,[],oM,rfl,by have:=mM.made (w.alloc (au (b.open bm aH az (ae (some ⟨g,off,none⟩) L cap)) 122)) AP;simpa using this,sM,rfl,(ay _ _).alloc sM _⟩
 case round=>
  obtain⟨k,us,hk,rfl,uN,hus,Ln,eb⟩:=hrel
  by_cases hlt:k<L
  .have jT:k<l.length:=by rw[HL.out];exact hlt
   have Dh:∀o,wr.cell? ⟨g,o,none⟩=w.cell? ⟨g,o,none⟩:=fun o=>(eb.cell (p:=⟨g,o,none⟩) (by show g<_;omega)).trans (en _ _ _ hg);obtain⟨hc0,hc1,hc2,hc3⟩:=Reads.cell (w:=wr) (cap:=cap) (n:=L) (fun j u hj=>(Dh _).trans (HC.out j u hj)) k jT;clear Dh;have ha:=hl l[k] (bG jT);have YT:=Qn b l p k jT;rw[YT] at Ln;clear YT;generalize l[k]=a at *
   have lg:wr.heap[w.heap.size]?=some (au (b.open bm aH az (ae (some ⟨g,off,none⟩) L cap)) 122 (0,0)):=by
    rw[eb.block _ oM];exact ax w _
   have hsz:=eb.size;simp at hsz;have HS:=ai Ln;have HU:=ai hus;clear Ln hus;have hU:=Ku a ha
   by_cases hm:a.used∈us
   .have ly:=HU.out a.used hm
    go_wp2_with (first
     |(go_at_call 165;refine(hU _).mono ?_;rintro e w2 ⟨rfl,hb2⟩;have Ci:=(uN.alloc _).below hb2)
     |(at_lookup;refine nv _ rfl _ _ 177 rfl DK (w.heap.size+1) rfl (Ci.alloc _) a.used rfl ?_))
    have hs2:=hb2.size;simp at hs2;go_roundw
    case rel=>
     exact⟨k+1,us,oM,by go_num,Ci.alloc _,HU.out,by rw[HS.out,decide_eq_true ly];rfl,((eb.alloc oM _).trans (hb2.mono sO)).alloc oM _⟩
    case measure=>simp[intOf];omega
   have hB:=JX b hb bm aH az a ha p hp;obtain⟨bd,zH⟩:∃bd,b.bad (b.cM+a.used) p=bd:=⟨_,rfl⟩
   simp only[zH] at hB;have HBD:=ai zH;clear zH
   by_cases ly:bd<=0
   .have uZ:decide (0<bd)=false:=sO;have HB:=ai ly;clear ly
    go_wp2_with (first
     |(go_at_call 165;refine(hU _).mono ?_;rintro e w2 ⟨rfl,hb2⟩;have Ci:=(uN.alloc _).below hb2)
     |(at_lookup;refine nv _ rfl _ _ 177 rfl DK (w.heap.size+1) rfl (Ci.alloc _) a.used rfl ?_)
     |(at_mapUpdate;refine rr _ rfl _ _ _ 177 rfl DK (w.heap.size+1) rfl (Ci.alloc _) a.used rfl rfl hm ?_;intro w3 PH Jz;obtain⟨hxx,hyy⟩:=DC lg uN.lt hb2 Jz;have hx3:=jy hxx;have ha3:=qi (a:=a) hyy;obtain⟨x0,x1,x2,x3,x4,x5,x6,x7,x8,x9,qo,qm,rj,qX,q7,x15⟩:=hx3;obtain⟨y0,y1,y2,y3⟩:=ha3)
     |(go_at_call 118;refine(hB _).mono ?_;rintro e w4 ⟨rfl,hb4⟩))
    have hlt3:=uN.lt;have hs2:=hb2.size;have hs4:=hb4.size;have hs3:=PH.lt;have hg3:=Jz.size;simp at hs2 hg3;have PQ:=(((eb.alloc oM _).trans (hb2.mono sO)).alloc oM _).grown Jz sO (fun j e=>by cases e;exact aJ _);have hB4:=PQ.trans (hb4.mono oM);clear PQ Jz;go_roundw
    case rel=>
     refine⟨k+1,us++[a.used],oM,by go_num,PH.below hb4,fun u hu=>?_,?_,hB4⟩
     .rcases List.mem_append.1 hu with h|h
      .exact HU.out u h
      rw[List.mem_singleton.1 h,HBD.out];exact HB.out
     rw[HS.out,HBD.out,decide_eq_true HB.out];rfl
    case measure=>simp[intOf];omega
   have uZ:decide (0<bd)=true:=sO;have HB:=ai ly;clear ly
   go_wp2_with (first
    |(go_at_call 165;refine(hU _).mono ?_;rintro e w2 ⟨rfl,hb2⟩;have Ci:=(uN.alloc _).below hb2)
    |(at_lookup;refine nv _ rfl _ _ 177 rfl DK (w.heap.size+1) rfl (Ci.alloc _) a.used rfl ?_)
    |(at_mapUpdate;refine rr _ rfl _ _ _ 177 rfl DK (w.heap.size+1) rfl (Ci.alloc _) a.used rfl rfl hm ?_;intro w3 PH Jz;obtain⟨hxx,hyy⟩:=DC lg uN.lt hb2 Jz;have hx3:=jy hxx;have ha3:=qi (a:=a) hyy;obtain⟨x0,x1,x2,x3,x4,x5,x6,x7,x8,x9,qo,qm,rj,qX,q7,x15⟩:=hx3;obtain⟨y0,y1,y2,y3⟩:=ha3)
    |(go_at_call 118;refine(hB _).mono ?_;rintro e w4 ⟨rfl,hb4⟩))
   have hlt3:=uN.lt;have hs2:=hb2.size;have hs4:=hb4.size;have hs3:=PH.lt;have hg3:=Jz.size;simp at hs2 hg3;have PQ:=(((eb.alloc oM _).trans (hb2.mono sO)).alloc oM _).grown Jz sO (fun j e=>by cases e;exact aJ _);have hB4:=PQ.trans (hb4.mono oM);clear PQ Jz
   go_ret
   exact⟨qu (by rw[HS.out,HBD.out,decide_eq_false (by have:=HB.out;omega)];rfl),cY.trans (hB4.mono oM)⟩
  obtain rfl:k=L:=oM;have e1:b.sure l p=true:=by rw[Ln,<-HL.out,List.drop_length];rfl
  have HE:=ai e1;clear e1 Ln;go_wp2
  go_ret
  exact⟨qu HE.out.symm,cY.trans (eb.mono oM)⟩
structure Mk where
 minute:Int
 lo:Int
 hi:Int
deriving DecidableEq
abbrev Mk.cells(m:Mk):Array Value:=#[ag af m.minute,ag af m.lo,ag af m.hi]
def dM(l:List Mk):List Value:=l.flatMap fun m=>m.cells.toList
def p_(l:List Mk):(dM l).length=3*l.length:=by
 induction l with
 |nil=>rfl
 |cons a l ih=>simp[dM] at ih ⊢;omega
def m8:∀(l:List Mk) (k j:Nat) (hk:k<l.length),j<3->(dM l)[3*k+j]?=l[k].cells[j]?
 |[],k,j,hk,_=>by simp at hk
 |a::l,0,j,_,hj=>by
  have:dM (a::l)=a.cells.toList++dM l:=rfl;rw[this,Ao sO];simp
 |a::l,k+1,j,hk,hj=>by
  have e:dM (a::l)=a.cells.toList++dM l:=rfl;rw[e,List.getElem?_append_right sO];have:=m8 l k j (by simpa using hk) hj;simp only[List.getElem_cons_succ];rw[<-this]
  congr 1
  simp;omega
def wC{w:ak}{g off:Nat}{l:List Mk}(hc:∀j u,(dM l)[j]?=some u->w.cell? ⟨g,off+j,none⟩=some u)(k:Nat)(hk:k<l.length) :
  w.cell? ⟨g,off+k*3,none⟩=some (ag af l[k].minute)/\w.cell? ⟨g,off+k*3+1,none⟩=some (ag af l[k].lo)/\w.cell? ⟨g,off+k*3+2,none⟩=some (ag af l[k].hi):=
 ⟨hc (k*3) _ (by have:=m8 l k 0 hk oM;rw[qU];simpa using this),hc (k*3+1) _ (by rw[qU,m8 l k 1 hk oM];rfl),hc (k*3+2) _ (by rw[qU,m8 l k 2 hk oM];rfl)⟩
def Jh(n m:Int):(if n<m then m else n)=max n m:=oM
def yF(ss:List Int):Int:=ss.foldl (fun n k=>max n (k+1)) 1
def C8(n:Int)(ms:List Mk):Int:=ms.foldl (fun n m=>max n (m.minute+1)) n
def di(ss:List Int)(ms:List Mk):Int:=C8 (yF ss) ms
def Ih(ss:List Int)(k:Nat)(hk:k<ss.length):yF (ss.take (k+1))=max (yF (ss.take k)) (ss[k]+1):=by
 unfold yF;rw[bV hk,BA];rfl
def Ii(n:Int)(ms:List Mk)(k:Nat)(hk:k<ms.length):C8 n (ms.take (k+1))=max (C8 n (ms.take k)) (ms[k].minute+1):=by
 unfold C8;rw[bV hk,BA];rfl
def E3{α:Type}(f:α->Int)(hi:Int):∀(l:List α) (n:Int),(∀a∈l,f a+1<=hi)->n<=hi->n<=l.foldl (fun n k=>max n (f k+1)) n/\l.foldl (fun n k=>max n (f k+1)) n<=hi
 |[],n,_,h=>⟨Int.le_refl _,h⟩
 |a::l,n,h,hn=>by
  have h1:=E3 f hi l (max n (f a+1)) (fun b hb=>h b (by simp[hb])) (by have:=h a sM;omega);simp only[List.foldl_cons];omega
def Aj(ss:List Int)(h:∀s∈ss,s<=8):1<=yF ss/\yF ss<=9:=E3 (fun k:Int=>k) 9 ss 1 (fun a ha=>by have:=h a ha;omega) oM
def JW(n:Int)(hn:n<=9)(ms:List Mk)(h:∀s∈ms,s.minute<=8):n<=C8 n ms/\C8 n ms<=9:=E3 Mk.minute 9 ms n (fun a ha=>by have:=h a ha;omega) hn
def Sl(ss:List Int)(ms:List Mk)(hs:∀s∈ss,s<=8)(hm:∀s∈ms,s.minute<=8):1<=di ss ms/\di ss ms<=9:=by
 have h1:=Aj ss hs;have h2:=JW (yF ss) h1.2 ms hm;unfold di;omega
def Sj(b:BB)(bm:aj)(w:ak) :
  a_ aq 155 #[aN (b.cells bm (ae none 0 0) (ae none 0 0))] w (Rt w (ag af (di [] []))):=by
 have HK:Hid ((w.alloc (au (b.cells bm (ae none 0 0) (ae none 0 0)) 119)).heap[w.heap.size]?=some (au (b.cells bm (ae none 0 0) (ae none 0 0)) 119 (0,0))):=ai (ax w _)
 go_enter Tryz.func155,Tryz.ntmps155
 go_wp2
 go_loopw [3,5,12] (fun n _ i wr=>i=ag af 0/\n=ag af 1/\fX (w.heap.size+1) (w.alloc (au (b.cells bm (ae none 0 0) (ae none 0 0)) 119)) wr) (fun _ _ _ _=>0)
 case atStart=>exact⟨rfl,rfl,ay _ _⟩
 case round=>
  obtain⟨rfl,rfl,uB⟩:=hrel;obtain⟨nb,Jv⟩:∃nb:Int,yF []=nb:=⟨_,rfl⟩
  have aai:nb=1:=Jv.symm;subst aai;have HNB:=ai Jv;clear Jv;have Uj:(1:Int)<=9:=oM;obtain⟨x0,x1,x2,x3,x4,x5,x6,x7,x8,x9,qo,qm,rj,qX,q7⟩:=bU ((uB.block w.heap.size oM).trans HK.out);have hw1:=uB.size;simp at hw1;go_wp2;obtain⟨wo,PG⟩:∃wo:ak,wo=wr:=⟨_,rfl⟩
  rw[<-PG] at uB ⊢;clear PG
  go_loopw [3,7,25] (fun n _ i wq=>i=ag af 0/\n=ag af 1/\fX (w.heap.size+1) (w.alloc (au (b.cells bm (ae none 0 0) (ae none 0 0)) 119)) wq) (fun _ _ _ _=>0)
  case atStart=>exact⟨rfl,rfl,uB⟩
  case round=>
   obtain⟨rfl,rfl,yN⟩:=hrel;go_wp2
   go_ret
   exact⟨ij (by rw[di,HNB.out];rfl),cY.trans (yN.mono oM)⟩
def Sg(b:BB)(bm:aj)(w:ak)(ss:List Int)(pw:∀s∈ss,1<=s/\s<=8)(gs os S cs:Nat)(hS:ss.length=S)(Rz:S<=4294967296)(qE:gs<w.heap.size)(hcs:∀j u,(ss.map (aD af))[j]?=some u->w.cell? ⟨gs,os+j,none⟩=some u) :
  a_ aq 155 #[aN (b.cells bm (ae (some ⟨gs,os,none⟩) S cs) (ae none 0 0))] w (Rt w (ag af (di ss []))):=by
 have HS:=ai hS;have HCS:=ai hcs;have SX:=ai pw;clear hS hcs pw;have HK:Hid ((w.alloc (au (b.cells bm (ae (some ⟨gs,os,none⟩) S cs) (ae none 0 0)) 119)).heap[w.heap.size]?=some (au (b.cells bm (ae (some ⟨gs,os,none⟩) S cs) (ae none 0 0)) 119 (0,0))):=ai (ax w _)
 go_enter Tryz.func155,Tryz.ntmps155
 go_wp2
 go_loopw [3,5,12] (fun n _ i wr=>∃k:Nat,k<=S/\i=ag af k/\n=ag af (yF (ss.take k))/\fX (w.heap.size+1) (w.alloc (au (b.cells bm (ae (some ⟨gs,os,none⟩) S cs) (ae none 0 0)) 119)) wr) (fun _ _ i _=>S-(intOf i).toNat)
 case atStart=>exact⟨0,oM,rfl,rfl,ay _ _⟩
 case round=>
  obtain⟨k,hk,rfl,rfl,uB⟩:=hrel
  by_cases hlt:k<S
  .have jT:k<ss.length:=by rw[HS.out];exact hlt
   have hcell:wr.cell? ⟨gs,os+k,none⟩=some (ag af ss[k]):=(uB.cell (p:=⟨gs,os+k,none⟩) (by show gs<_;omega)).trans ((en _ _ _ qE).trans (HCS.out k _ (by simp[jT])));have hx:=SX.out ss[k] (bG jT);have hst:=Ih ss k jT;have zH:=Aj (ss.take k) (fun s hs=>(SX.out s (fH hs)).2);generalize ss[k]=x at *;generalize yF (ss.take k)=n at *;have HST:=ai hst;clear hst;go_wp2;go_roundw
   case rel=>exact⟨k+1,oM,by go_num,by rw[HST.out,Jh],uB⟩
   case measure=>simp[intOf];omega
  obtain rfl:S=k:=oM;have zH:=Aj (ss.take S) (fun s hs=>(SX.out s (fH hs)).2);have su:ss.take S=ss:=cU (by rw[HS.out];exact aJ _);rw[su] at zH ⊢;clear su;obtain⟨nb,Jv⟩:∃nb:Int,yF ss=nb:=⟨_,rfl⟩
  rw[Jv] at zH ⊢;have HNB:=ai Jv;clear Jv;have Uj:nb<=9:=zH.2;have agS:1<=nb:=zH.1;clear zH;obtain⟨x0,x1,x2,x3,x4,x5,x6,x7,x8,x9,qo,qm,rj,qX,q7⟩:=bU ((uB.block w.heap.size oM).trans HK.out);have hw1:=uB.size;simp at hw1;go_wp2;obtain⟨wo,PG⟩:∃wo:ak,wo=wr:=⟨_,rfl⟩
  rw[<-PG] at uB ⊢;clear PG
  go_loopw [3,7,25] (fun n _ i wq=>i=ag af 0/\n=ag af nb/\fX (w.heap.size+1) (w.alloc (au (b.cells bm (ae (some ⟨gs,os,none⟩) S cs) (ae none 0 0)) 119)) wq) (fun _ _ _ _=>0)
  case atStart=>exact⟨rfl,rfl,uB⟩
  case round=>
   obtain⟨rfl,rfl,yN⟩:=hrel;go_wp2
   go_ret
   exact⟨ij (by rw[di,HNB.out];rfl),cY.trans (yN.mono oM)⟩
def Si(b:BB)(bm:aj)(w:ak)(ms:List Mk)(Lt:∀m∈ms,1<=m.minute/\m.minute<=8)(gm om M cm:Nat)(hM:ms.length=M)(hM2:M<=4294967296)(XC:gm<w.heap.size)(hcm:∀j u,(dM ms)[j]?=some u->w.cell? ⟨gm,om+j,none⟩=some u) :
  a_ aq 155 #[aN (b.cells bm (ae none 0 0) (ae (some ⟨gm,om,none⟩) M cm))] w (Rt w (ag af (di [] ms))):=by
 have HM:=ai hM;have Qe:=ai hcm;have HMM:=ai Lt;clear hM hcm Lt;have HK:Hid ((w.alloc (au (b.cells bm (ae none 0 0) (ae (some ⟨gm,om,none⟩) M cm)) 119)).heap[w.heap.size]?=some (au (b.cells bm (ae none 0 0) (ae (some ⟨gm,om,none⟩) M cm)) 119 (0,0))):=ai (ax w _)
 go_enter Tryz.func155,Tryz.ntmps155
 go_wp2
 go_loopw [3,5,12] (fun n _ i wr=>i=ag af 0/\n=ag af 1/\fX (w.heap.size+1) (w.alloc (au (b.cells bm (ae none 0 0) (ae (some ⟨gm,om,none⟩) M cm)) 119)) wr) (fun _ _ _ _=>0)
 case atStart=>exact⟨rfl,rfl,ay _ _⟩
 case round=>
  obtain⟨rfl,rfl,uB⟩:=hrel;obtain⟨nb,Jv⟩:∃nb:Int,yF []=nb:=⟨_,rfl⟩
  have aai:nb=1:=Jv.symm;subst aai;have HNB:=ai Jv;clear Jv;have Uj:(1:Int)<=9:=oM;obtain⟨x0,x1,x2,x3,x4,x5,x6,x7,x8,x9,qo,qm,rj,qX,q7⟩:=bU ((uB.block w.heap.size oM).trans HK.out);have hw1:=uB.size;simp at hw1;go_wp2;obtain⟨wo,PG⟩:∃wo:ak,wo=wr:=⟨_,rfl⟩
  rw[<-PG] at uB ⊢;clear PG
  go_loopw [3,7,25] (fun n _ i wq=>∃k:Nat,k<=M/\i=ag af k/\n=ag af (C8 1 (ms.take k))/\fX (w.heap.size+1) (w.alloc (au (b.cells bm (ae none 0 0) (ae (some ⟨gm,om,none⟩) M cm)) 119)) wq) (fun _ _ i _=>M-(intOf i).toNat)
  case atStart=>exact⟨0,oM,rfl,rfl,uB⟩
  case round=>
   obtain⟨k,hk,rfl,rfl,yN⟩:=hrel
   by_cases hlt:k<M
   .have jT:k<ms.length:=by rw[HM.out];exact hlt
    have Dh:∀o,wr.cell? ⟨gm,o,none⟩=w.cell? ⟨gm,o,none⟩:=fun o=>(yN.cell (p:=⟨gm,o,none⟩) (by show gm<_;omega)).trans (en _ _ _ XC);obtain⟨hc0,hc1,hc2⟩:=wC (w:=wr) (fun j u hj=>(Dh _).trans (Qe.out j u hj)) k jT;clear Dh;have hx:=HMM.out ms[k] (bG jT);have hst:=Ii 1 ms k jT;have zH:=JW 1 Uj (ms.take k) (fun s hs=>(HMM.out s (fH hs)).2);generalize ms[k]=x at *;generalize C8 1 (ms.take k)=n at *;have HST:=ai hst;clear hst;have hw2:=yN.size;simp at hw2;go_wp2;go_roundw
    case rel=>exact⟨k+1,oM,by go_num,by rw[HST.out,Jh],yN.alloc oM _⟩
    case measure=>simp[intOf];omega
   obtain rfl:M=k:=oM;have su:ms.take M=ms:=cU (by rw[HM.out];exact aJ _);rw[su];clear su;obtain⟨nc,uP⟩:∃nc:Int,C8 1 ms=nc:=⟨_,rfl⟩
   rw[uP];have HNC:=ai uP;clear uP;go_wp2
   go_ret
   exact⟨ij (by rw[di,HNB.out,HNC.out]),cY.trans (yN.mono oM)⟩
def Sd(b:BB)(bm:aj)(w:ak)(ss:List Int)(pw:∀s∈ss,1<=s/\s<=8)(gs os S cs:Nat)(hS:ss.length=S)(Rz:S<=4294967296)(qE:gs<w.heap.size)(hcs:∀j u,(ss.map (aD af))[j]?=some u->w.cell? ⟨gs,os+j,none⟩=some u)(ms:List Mk)(Lt:∀m∈ms,1<=m.minute/\m.minute<=8)(gm om M cm:Nat)(hM:ms.length=M)(hM2:M<=4294967296)(XC:gm<w.heap.size)(hcm:∀j u,(dM ms)[j]?=some u->w.cell? ⟨gm,om+j,none⟩=some u) :
  a_ aq 155 #[aN (b.cells bm (ae (some ⟨gs,os,none⟩) S cs) (ae (some ⟨gm,om,none⟩) M cm))] w (Rt w (ag af (di ss ms))):=by
 have HS:=ai hS;have HCS:=ai hcs;have SX:=ai pw;clear hS hcs pw;have HM:=ai hM;have Qe:=ai hcm;have HMM:=ai Lt;clear hM hcm Lt;have HK:Hid ((w.alloc (au (b.cells bm (ae (some ⟨gs,os,none⟩) S cs) (ae (some ⟨gm,om,none⟩) M cm)) 119)).heap[w.heap.size]?=some (au (b.cells bm (ae (some ⟨gs,os,none⟩) S cs) (ae (some ⟨gm,om,none⟩) M cm)) 119 (0,0))):=ai (ax w _)
 go_enter Tryz.func155,Tryz.ntmps155
 go_wp2
 go_loopw [3,5,12] (fun n _ i wr=>∃k:Nat,k<=S/\i=ag af k/\n=ag af (yF (ss.take k))/\fX (w.heap.size+1) (w.alloc (au (b.cells bm (ae (some ⟨gs,os,none⟩) S cs) (ae (some ⟨gm,om,none⟩) M cm)) 119)) wr) (fun _ _ i _=>S-(intOf i).toNat)
 case atStart=>exact⟨0,oM,rfl,rfl,ay _ _⟩
 case round=>
  obtain⟨k,hk,rfl,rfl,uB⟩:=hrel
  by_cases hlt:k<S
  .have jT:k<ss.length:=by rw[HS.out];exact hlt
   have hcell:wr.cell? ⟨gs,os+k,none⟩=some (ag af ss[k]):=(uB.cell (p:=⟨gs,os+k,none⟩) (by show gs<_;omega)).trans ((en _ _ _ qE).trans (HCS.out k _ (by simp[jT])));have hx:=SX.out ss[k] (bG jT);have hst:=Ih ss k jT;have zH:=Aj (ss.take k) (fun s hs=>(SX.out s (fH hs)).2);generalize ss[k]=x at *;generalize yF (ss.take k)=n at *;have HST:=ai hst;clear hst;go_wp2;go_roundw
   case rel=>exact⟨k+1,oM,by go_num,by rw[HST.out,Jh],uB⟩
   case measure=>simp[intOf];omega
  obtain rfl:S=k:=oM;have zH:=Aj (ss.take S) (fun s hs=>(SX.out s (fH hs)).2);have su:ss.take S=ss:=cU (by rw[HS.out];exact aJ _);rw[su] at zH ⊢;clear su;obtain⟨nb,Jv⟩:∃nb:Int,yF ss=nb:=⟨_,rfl⟩
  rw[Jv] at zH ⊢;have HNB:=ai Jv;clear Jv;have Uj:nb<=9:=zH.2;have agS:1<=nb:=zH.1;clear zH;obtain⟨x0,x1,x2,x3,x4,x5,x6,x7,x8,x9,qo,qm,rj,qX,q7⟩:=bU ((uB.block w.heap.size oM).trans HK.out);have hw1:=uB.size;simp at hw1;go_wp2;obtain⟨wo,PG⟩:∃wo:ak,wo=wr:=⟨_,rfl⟩
  rw[<-PG] at uB ⊢;clear PG
  go_loopw [3,7,25] (fun n _ i wq=>∃k:Nat,k<=M/\i=ag af k/\n=ag af (C8 nb (ms.take k))/\fX (w.heap.size+1) (w.alloc (au (b.cells bm (ae (some ⟨gs,os,none⟩) S cs) (ae (some ⟨gm,om,none⟩) M cm)) 119)) wq) (fun _ _ i _=>M-(intOf i).toNat)
  case atStart=>exact⟨0,oM,rfl,rfl,uB⟩
  case round=>
   obtain⟨k,hk,rfl,rfl,yN⟩:=hrel
   by_cases hlt:k<M
   .have jT:k<ms.length:=by rw[HM.out];exact hlt
    have Dh:∀o,wr.cell? ⟨gm,o,none⟩=w.cell? ⟨gm,o,none⟩:=fun o=>(yN.cell (p:=⟨gm,o,none⟩) (by show gm<_;omega)).trans (en _ _ _ XC);obtain⟨hc0,hc1,hc2⟩:=wC (w:=wr) (fun j u hj=>(Dh _).trans (Qe.out j u hj)) k jT;clear Dh;have hx:=HMM.out ms[k] (bG jT);have hst:=Ii nb ms k jT;have zH:=JW nb Uj (ms.take k) (fun s hs=>(HMM.out s (fH hs)).2);generalize ms[k]=x at *;generalize C8 nb (ms.take k)=n at *;have HST:=ai hst;clear hst;have hw2:=yN.size;simp at hw2;go_wp2;go_roundw
    case rel=>exact⟨k+1,oM,by go_num,by rw[HST.out,Jh],yN.alloc oM _⟩
    case measure=>simp[intOf];omega
   obtain rfl:M=k:=oM;have su:ms.take M=ms:=cU (by rw[HM.out];exact aJ _);rw[su];clear su;obtain⟨nc,uP⟩:∃nc:Int,C8 nb ms=nc:=⟨_,rfl⟩
   rw[uP];have HNC:=ai uP;clear uP;go_wp2
   go_ret
   exact⟨ij (by rw[di,HNB.out,HNC.out]),cY.trans (yN.mono oM)⟩
def FI(b:BB)(bm aH az:aj)(ss:List Int)(ms:List Mk)(pw:∀s∈ss,1<=s/\s<=8)(Lt:∀m∈ms,1<=m.minute/\m.minute<=8)(w:ak)(hs:Reads w aH ss.length (ss.map (aD af)))(hm:Reads w az ms.length (dM ms)) :
  a_ aq 155 #[aN (b.cells bm aH az)] w (Rt w (ag af (di ss ms))):=by
 rcases hs with⟨rfl,hn,_⟩|⟨gs,os,cs,rfl,Rz,qE,hcs⟩
 .obtain rfl:=aX hn;rcases hm with⟨rfl,hn,_⟩|⟨gm,om,cm,rfl,hM2,XC,hcm⟩
  .obtain rfl:=aX hn;exact Sj b bm w
  exact Si b bm w ms Lt gm om _ cm rfl hM2.1 XC hcm
 rcases hm with⟨rfl,hn,_⟩|⟨gm,om,cm,rfl,hM2,XC,hcm⟩
 .obtain rfl:=aX hn;exact Sg b bm w ss pw gs os _ cs rfl Rz.1 qE hcs
 exact Sd b bm w ss pw gs os _ cs rfl Rz.1 qE hcs ms Lt gm om _ cm rfl hM2.1 XC hcm
def bM(ss:List Int):Nat:=ss.foldl (fun p s=>p ||| 2 ^ s.toNat) 0
def Nv(ss:List Int)(k:Nat)(hk:k<ss.length):bM (ss.take (k+1))=bM (ss.take k) ||| 2 ^ ss[k].toNat:=by
 unfold bM;rw[bV hk,BA];rfl
def Ej:∀(l:List Int) (n:Nat),(∀s∈l,1<=s/\s<=8)->n<512->l.foldl (fun p s=>p ||| 2 ^ s.toNat) n<512
 |[],n,_,h=>h
 |a::l,n,h,hn=>by
  refine Ej l _ (fun s hs=>h s (by simp[hs])) ?_;have ha:=h a sM;have:2 ^ a.toNat<2 ^ 9:=Nat.pow_lt_pow_right oM oM;exact Nat.or_lt_two_pow (n:=9) hn this
def nA(ss:List Int)(h:∀s∈ss,1<=s/\s<=8):bM ss<512:=Ej ss 0 h oM
def lL(ss:List Int)(pw:∀s∈ss,1<=s/\s<=8)(v:aj)(w:ak)(hv:Reads w v ss.length (ss.map (aD af))) :
  a_ aq 106 #[v] w fun e w'=>e=aU (ag af (bM ss))/\w=w':=by
 rcases hv with⟨rfl,hn,_⟩|⟨g,off,cap,rfl,hn,hg,hc⟩
 .obtain rfl:=aX hn;clear hn
  go_enter Tryz.func106,Tryz.ntmps106
  go_wp2
  go_loop [3,8] (fun p i=>i=ag af 0/\p=ag af 0) (fun _ _=>0)
  case atStart=>exact⟨rfl,rfl⟩
  case round=>
   obtain⟨rfl,rfl⟩:=hrel;go_wp2
   go_ret
   exact⟨rfl,rfl⟩
 have HC:=ai hc;have SX:=ai pw;clear hc pw;generalize hL:ss.length=L at *;have HL:=ai hL;clear hL
 go_enter Tryz.func106,Tryz.ntmps106
 go_wp2
 go_loop [3,5,8] (fun p _ i=>∃k:Nat,k<=L/\i=ag af k/\p=ag af (bM (ss.take k))) (fun _ _ i=>L-(intOf i).toNat)
 case atStart=>exact⟨0,oM,rfl,rfl⟩
 case round=>
  obtain⟨k,hk,rfl,rfl⟩:=hrel
  by_cases hlt:k<L
  .have jT:k<ss.length:=by rw[HL.out];exact hlt
   have hcell:w.cell? ⟨g,off+k,none⟩=some (ag af ss[k]):=HC.out k _ (by simp[jT]);have hx:=SX.out ss[k] (bG jT);have hst:=Nv ss k jT;have zH:=nA (ss.take k) (fun s hs=>SX.out s (fH hs));obtain⟨x,hxn⟩:∃x:Nat,ss[k]=(x:Int):=⟨ss[k].toNat,oM⟩
   rw[hxn] at hx hst hcell;clear hxn;generalize bM (ss.take k)=n at *;have HST:=ai hst;clear hst;go_wp2
   go_round
   case rel=>
    refine⟨k+1,oM,by go_num,?_⟩;rw[HST.out];have h1:(2:Nat) ^ x<512:=Nat.pow_lt_pow_right (m:=x) (n:=9) oM oM
    have h2:wrap64 (2 ^ x)=((2 ^ x:Nat):Int):=by
     have e:(2:Int) ^ x=((2 ^ x:Nat):Int):=sM;rw[e,<-IntWalk.i64_left];exact fC _ (Int.natCast_nonneg _) (Int.lt_trans (Int.ofNat_lt.2 h1) dC)
    rw[h2,acJ n (2 ^ x) oM oM,Int.toNat_natCast]
   case measure=>simp[intOf];omega
  obtain rfl:k=L:=oM;have su:ss.take k=ss:=cU (by rw[HL.out];exact aJ _);rw[su];clear su;go_wp2
  go_ret
  exact⟨rfl,rfl⟩
def m9(lo hi l m:Int)(w:ak)(h1:l<=lo)(h2:lo<=hi)(h3:hi<=m):a_ aq 152 #[aN #[ag af lo,ag af hi],ag af l,ag af m] w (Rt w (aA true)):=by
 go_enter Tryz.func152,Tryz.ntmps152
 go_wp2
 go_ret
 exact⟨rfl,cY⟩
def je(n l m:Int)(h1:l<=n)(h2:n<=m)(w:ak):a_ aq 138 #[ag af n,ag af l,ag af m] w fun e w'=>e=aU (aA true)/\w=w':=by
 have:=qC n l m w;rw[gF.2 ⟨h1,h2⟩] at this;exact this
def nH(b:BB)(bm aH az:aj)(n:Int)(h1:1<=n)(h2:n<=b.minutes)(w:ak):a_ aq 132 #[aN (b.cells bm aH az),ag af n] w (Rt w (aA true)):=by
 go_enter Tryz.func132,Tryz.ntmps132
 go_wp2_with (go_at_call 138;refine(je _ _ _ oM oM _).mono ?_;rintro e w' ⟨rfl,rfl⟩)
 go_ret
 exact⟨rfl,cY⟩
def Oy(b:BB)(hb:b.Ok)(bm aH az:aj)(w:ak):a_ aq 218 #[aN (b.cells bm aH az)] w (Rt w (ag af 0)):=by
 have h1:=hb.room;have h2:=hb.depth;have h3:=hb.least;have h4:=hb.minutes
 go_enter Tryz.func218,Tryz.ntmps218
 go_wp2_with (go_at_call 138;refine(je _ _ _ oM oM _).mono ?_;rintro e w' ⟨rfl,rfl⟩)
 go_ret
 exact⟨rfl,cY⟩
def Ow(b:BB)(hb:b.Ok)(bm aH az:aj)(w:ak):a_ aq 219 #[aN (b.cells bm aH az)] w (Rt w (ag af 0)):=by
 have h1:=hb.cM;have h2:=hb.jX;have h3:=hb.jK;have h4:=hb.eN;have h5:=hb.leak;have h6:=hb.Nt;have h7:=hb.minutes;have HK:Hid ((w.alloc (au (b.cells bm aH az) 119)).heap[w.heap.size]?=some (au (b.cells bm aH az) 119 (0,0))):=ai (ax w _)
 go_enter Tryz.func219,Tryz.ntmps219
 go_wp2
 go_loopw [4,16] (fun _ i wr=>((i=ag af 0\/i=ag af 1)\/(i=ag af 2\/i=ag af 3))/\wr=(w.alloc (au (b.cells bm aH az) 119)).alloc (au #[ag af b.cM,ag af b.jX,ag af b.jK] 3)) (fun _ i _=>3-(intOf i).toNat)
 case atStart=>exact⟨cz (cz rfl),rfl⟩
 case round=>
  obtain⟨hi,rfl⟩:=hrel;rcases hi with(rfl|rfl)|(rfl|rfl)
  .go_wp2_with (go_at_call 138;refine(je _ _ _ oM oM _).mono ?_;rintro e w' ⟨rfl,rfl⟩)
   go_roundw
   case rel=>exact⟨cz (.inr rfl),trivial⟩
   case measure=>simp[intOf]
  .go_wp2_with (go_at_call 138;refine(je _ _ _ oM oM _).mono ?_;rintro e w' ⟨rfl,rfl⟩)
   go_roundw
   case rel=>exact⟨.inr (cz rfl),trivial⟩
   case measure=>simp[intOf]
  .go_wp2_with (go_at_call 138;refine(je _ _ _ oM oM _).mono ?_;rintro e w' ⟨rfl,rfl⟩)
   go_roundw
   case rel=>exact⟨.inr (.inr rfl),trivial⟩
   case measure=>simp[intOf]
  go_wp2_with (go_at_call 138;refine(je _ _ _ oM oM _).mono ?_;rintro e w' ⟨rfl,rfl⟩)
  go_at_call 152
  refine(m9 _ _ _ _ _ oM oM oM).mono ?_;rintro e w2 ⟨rfl,hb2⟩;have hk2:w2.heap[w.heap.size]?=some (au (b.cells bm aH az) 119 (0,0)):=(hb2.block _ sO).trans ((aW _ _ _ sM).trans HK.out);have hs2:=hb2.size;simp at hs2;obtain⟨x0,x1,x2,x3,x4,x5,x6,x7,x8,x9,qo,qm,rj,qX,q7⟩:=bU hk2
  go_wp2_with fail
  refine(m9 _ _ _ _ _ oM oM oM).mono ?_;rintro e w3 ⟨rfl,hb3⟩;clear x0 x1 x2 x3 x4 x5 x6 x7 x8 x9 qo qm rj qX q7;obtain⟨x0,x1,x2,x3,x4,x5,x6,x7,x8,x9,qo,qm,rj,qX,q7⟩:=bU ((hb3.block _ oM).trans hk2);go_wp2
  go_ret
  exact⟨rfl,((cY.alloc sM _).trans (hb2.mono sO)).trans (hb3.mono oM)⟩
structure jD(b:BB)(pl:List Int):Prop where
 mem:∀p∈pl,1<=p/\p<=b.minutes
 asc:∀(k:Nat) (h:k+1<pl.length),pl[k]<pl[k+1]
 len:(pl.length:Int)<=b.eN
def tT(b:BB)(hb:b.Ok)(bm aH az v:aj)(pl:List Int)(hp:jD b pl)(w:ak)(hv:Reads w v pl.length (pl.map (aD af))) :
  a_ aq 113 #[aN (b.cells bm aH az),v] w (Rt w (ag af 0)):=by
 have hc3:=hb.eN;have AX:=hb.minutes;have HP:=ai hp;rcases hv with⟨rfl,hn,_⟩|⟨g,off,cap,rfl,hn,hg,hc⟩
 .obtain rfl:=aX hn;clear hn hp;have HK:Hid ((w.alloc (au (b.cells bm aH az) 119)).heap[w.heap.size]?=some (au (b.cells bm aH az) 119 (0,0))):=ai (ax w _)
  go_enter Tryz.func113,Tryz.ntmps113
  go_wp2
  go_loopw [9] (fun i wr=>i=ag af 0/\fX (w.heap.size+1) (w.alloc (au (b.cells bm aH az) 119)) wr) (fun _ _=>0)
  case atStart=>exact⟨rfl,ay _ _⟩
  case round=>
   obtain⟨rfl,eb⟩:=hrel;obtain⟨x0,x1,x2,x3,x4,x5,x6,x7,x8,x9,qo,qm,rj,qX,q7⟩:=bU ((eb.block w.heap.size oM).trans HK.out);go_wp2
   go_ret
   exact⟨rfl,cY.trans (eb.mono oM)⟩
 have HC:=ai hc;have hlen:=hp.len;clear hc hp;generalize hL:pl.length=L at *;have HL:=ai hL;clear hL;have HK:Hid ((w.alloc (au (b.cells bm aH az) 119)).heap[w.heap.size]?=some (au (b.cells bm aH az) 119 (0,0))):=ai (ax w _)
 go_enter Tryz.func113,Tryz.ntmps113
 go_wp2
 go_loopw [5,6,9,14,19] (fun _ _ i _ _ wr=>∃k:Nat,k<=L/\i=ag af k/\fX (w.heap.size+1) (w.alloc (au (b.cells bm aH az) 119)) wr) (fun _ _ i _ _ _=>L-(intOf i).toNat)
 case atStart=>exact⟨0,oM,rfl,ay _ _⟩
 case round=>
  obtain⟨k,hk,rfl,eb⟩:=hrel;have hsz:=eb.size;simp at hsz;have Xm:w.heap.size<wr.heap.size:=oM;have hk2:wr.heap[w.heap.size]?=some (au (b.cells bm aH az) 119 (0,0)):=(eb.block w.heap.size oM).trans HK.out;obtain⟨x0,x1,x2,x3,x4,x5,x6,x7,x8,x9,qo,qm,rj,qX,q7⟩:=bU hk2
  by_cases hlt:k<L
  .have jT:k<pl.length:=by rw[HL.out];exact hlt
   have Dh:∀o,wr.cell? ⟨g,o,none⟩=w.cell? ⟨g,o,none⟩:=fun o=>(eb.cell (p:=⟨g,o,none⟩) (by show g<_;omega)).trans (en _ _ _ hg);have hcell:wr.cell? ⟨g,off+k,none⟩=some (ag af pl[k]):=(Dh _).trans (HC.out k _ (by simp[jT]));have hx:=HP.out.mem pl[k] (bG jT)
   by_cases h0:k=0
   .have uZ:decide ((0:Int)<(k:Int))=false:=decide_eq_false oM;have amI:decide (0<k)=false:=decide_eq_false oM;have H0:=ai h0;clear h0;clear Dh;generalize pl[k]=x at *;have GQ:=ai hk2;clear hk2
    go_wp2_with fail
    refine(nH b bm aH az x hx.1 hx.2 _).mono ?_;rintro e w2 ⟨rfl,hb2⟩;go_wp2;go_roundw
    case rel=>exact⟨k+1,oM,by go_num,eb.trans (hb2.mono oM)⟩
    case measure=>simp[intOf];omega
   obtain⟨j,rfl⟩:∃j,k=j+1:=⟨k-1,oM⟩
   have hcj:wr.cell? ⟨g,off+j,none⟩=some (ag af pl[j]):=(Dh _).trans (HC.out j _ (by simp[show j<pl.length by omega]));have has:=HP.out.asc j jT;have HGW:=ai Dh;clear Dh;generalize pl[j+1]=x at *;generalize pl[j]=y at *;have GQ:=ai hk2;clear hk2;have uZ:decide ((0:Int)<((j+1:Nat):Int))=true:=decide_eq_true oM;have hjj:IntKind.i64.wrap (((j+1:Nat):Int)-1)=(j:Int):=by rw[show((j+1:Nat):Int)-1=(j:Int) by omega];exact fC _ oM oM
   go_wp2_with fail
   refine(nH b bm aH az x hx.1 hx.2 _).mono ?_;rintro e w2 ⟨rfl,hb2⟩;have hc2:w2.cell? ⟨g,off+j,none⟩=some (ag af y):=(hb2.cell (p:=⟨g,off+j,none⟩) (by show g<_;omega)).trans hcj;go_wp2;go_roundw
   case rel=>exact⟨j+1+1,oM,by go_num,eb.trans (hb2.mono oM)⟩
   case measure=>simp[intOf];omega
  obtain rfl:L=k:=oM;go_wp2
  go_ret
  exact⟨rfl,cY.trans (eb.mono oM)⟩
def Ox(b:BB)(hb:b.Ok)(bm aH az:aj)(pl:List Int)(hp:jD b pl)(w:ak)(hv:Reads w aH pl.length (pl.map (aD af))) :
  a_ aq 221 #[aN (b.cells bm aH az)] w (Rt w (ag af 0)):=by
 have hv1:Reads (w.alloc (au (b.cells bm aH az) 119)) aH pl.length (pl.map (aD af)):=hv.below cY;have hP:=tT b hb bm aH az aH pl hp _ hv1;clear hv hv1
 go_enter Tryz.func221,Tryz.ntmps221
 go_wp2_with (go_at_call 113;refine hP.mono ?_;rintro e w2 ⟨rfl,hb2⟩)
 go_ret
 exact⟨rfl,cY.trans (hb2.mono sM)⟩
structure l9(b:BB)(ms:List Mk):Prop where
 mem:∀m∈ms,1<=m.minute/\m.minute<=b.minutes/\0<=m.lo/\m.lo<=m.hi/\m.hi<=99
 len:ms.length<=3
def Mh(b:BB)(hb:b.Ok)(bm aH az:aj)(ms:List Mk)(hm:l9 b ms)(w:ak)(hv:Reads w az ms.length (dM ms)) :
  a_ aq 222 #[aN (b.cells bm aH az)] w (Rt w (ag af 0)):=by
 have AX:=hb.minutes;have HM:=ai hm;have h3:=hm.len;rcases hv with⟨rfl,hn,_⟩|⟨g,off,cap,rfl,hn,hg,hc⟩
 .obtain rfl:=aX hn;clear hn hm h3;have HK:Hid ((w.alloc (au (b.cells bm aH (ae none 0 0)) 119)).heap[w.heap.size]?=some (au (b.cells bm aH (ae none 0 0)) 119 (0,0))):=ai (ax w _)
  go_enter Tryz.func222,Tryz.ntmps222
  go_wp2
  go_loopw [14] (fun i wr=>i=ag af 0/\fX (w.heap.size+1) (w.alloc (au (b.cells bm aH (ae none 0 0)) 119)) wr) (fun _ _=>0)
  case atStart=>exact⟨rfl,ay _ _⟩
  case round=>
   obtain⟨rfl,eb⟩:=hrel;go_wp2
   go_ret
   exact⟨rfl,cY.trans (eb.mono oM)⟩
 have HC:=ai hc;clear hc hm;generalize hL:ms.length=L at *;have HL:=ai hL;clear hL;have HK:Hid ((w.alloc (au (b.cells bm aH (ae (some ⟨g,off,none⟩) L cap)) 119)).heap[w.heap.size]?=some (au (b.cells bm aH (ae (some ⟨g,off,none⟩) L cap)) 119 (0,0))):=ai (ax w _)
 go_enter Tryz.func222,Tryz.ntmps222
 go_wp2
 go_loopw [4,14,18,24] (fun _ i _ _ wr=>∃k:Nat,k<=L/\i=ag af k/\fX (w.heap.size+1) (w.alloc (au (b.cells bm aH (ae (some ⟨g,off,none⟩) L cap)) 119)) wr) (fun _ i _ _ _=>L-(intOf i).toNat)
 case atStart=>exact⟨0,oM,rfl,ay _ _⟩
 case round=>
  obtain⟨k,hk,rfl,eb⟩:=hrel;have hsz:=eb.size;simp at hsz;have Xm:w.heap.size<wr.heap.size:=oM;have hk2:wr.heap[w.heap.size]?=some (au (b.cells bm aH (ae (some ⟨g,off,none⟩) L cap)) 119 (0,0)):=(eb.block w.heap.size oM).trans HK.out;obtain⟨x0,x1,x2,x3,x4,x5,x6,x7,x8,x9,qo,qm,rj,qX,q7⟩:=bU hk2
  by_cases hlt:k<L
  .have jT:k<ms.length:=by rw[HL.out];exact hlt
   have Dh:∀o,wr.cell? ⟨g,o,none⟩=w.cell? ⟨g,o,none⟩:=fun o=>(eb.cell (p:=⟨g,o,none⟩) (by show g<_;omega)).trans (en _ _ _ hg);obtain⟨y0,y1,y2⟩:=wC (w:=wr) (fun j u hj=>(Dh _).trans (HC.out j u hj)) k jT;have hx:=HM.out.mem ms[k] (bG jT);clear Dh;generalize ms[k]=x at *;have GQ:=ai hk2;clear hk2
   go_wp2_with fail
   refine(nH b bm aH _ x.minute oM oM _).mono ?_;rintro e w2 ⟨rfl,hb2⟩;have NQ:w2.heap[wr.heap.size]?=some (au x.cells 81 (0,0)):=(hb2.block _ sM).trans (ax wr _);have z0:w2.cell? ⟨wr.heap.size,0,none⟩=some (ag af x.minute):=by unfold dG;rw[NQ];rfl
   have z1:w2.cell? ⟨wr.heap.size,1,none⟩=some (ag af x.lo):=by unfold dG;rw[NQ];rfl
   have z2:w2.cell? ⟨wr.heap.size,2,none⟩=some (ag af x.hi):=by unfold dG;rw[NQ];rfl
   clear NQ;have hs2:=hb2.size;simp at hs2
   go_wp2_with (go_at_call 152;refine(m9 _ _ _ _ _ oM oM oM).mono ?_;rintro e w3 ⟨rfl,hb3⟩)
   go_roundw
   case rel=>exact⟨k+1,oM,by go_num,((eb.alloc oM _).trans (hb2.mono sO)).trans (hb3.mono oM)⟩
   case measure=>simp[intOf];omega
  obtain rfl:L=k:=oM;go_wp2
  go_ret
  exact⟨rfl,cY.trans (eb.mono oM)⟩
structure J5(s:ByteArray):Prop where
 size:1<=s.size/\s.size<=12
 chr:∀(k:Nat) (h:k<s.size),(97<=s[k].toNat/\s[k].toNat<=122)\/(k≠0/\48<=s[k].toNat/\s[k].toNat<=57)
def JU(s:ByteArray)(cap k:Nat)(h:k<s.size):(bytesRow s cap)[k]?=some (ag .u8 (s[k].toNat:Int)):=by
 unfold bytesRow;have hd:k<s.data.size:=h;rw[Array.getElem?_append_left (by simpa using hd),Array.getElem?_map,aO hd];rfl
def T3(s:ByteArray)(hs:J5 s)(w:ak):a_ aq 223 #[.string s] w (Rt w (aA true)):=by
 have YU:=run_bytes_of_string (P:=aq) w 9 234 5 s Tryz.underlying9 Tryz.underlying234 Tryz.underlying5;have h1:=hs.size;have HS:=ai hs;generalize grownCap w s.size 0 5=cap at *;have hC:=JU s cap;generalize bytesRow s cap=C at *;obtain⟨n,hn⟩:∃n,s.size=n:=⟨_,rfl⟩
 rw[hn] at YU h1;have HN:=ai hn;have HC:=ai hC;clear hn hC hs;have hB1:Bw w (w.drew.alloc (au C 5 (C.size,C.size+1))):=(ay _ _).drew.alloc sM _
 go_enter Tryz.func223,Tryz.ntmps223
 go_wp2;clear YU
 go_loopw [3,4,8] (fun _ _ i wr=>∃k:Nat,k<=n/\i=ag af k/\wr=(w.alloc (au C 5 (C.size,C.size+1))).drew) (fun _ _ i _=>n-(intOf i).toNat)
 case atStart=>exact⟨0,oM,rfl,rfl⟩
 case round=>
  obtain⟨k,hk,rfl,rfl⟩:=hrel
  by_cases hlt:k<n
  .have jT:k<s.size:=by rw[HN.out];exact hlt
   have hck:=HC.out k jT
   have hcell:(w.alloc (au C 5 (C.size,C.size+1))).cell? ⟨w.heap.size,k,none⟩=some (ag .u8 (s[k].toNat:Int)):=by
    unfold dG;rw[ax];exact hck
   have hch:=HS.out.chr k jT;have amC:s[k].toNat<256:=s[k].toNat_lt;generalize s[k].toNat=c at *;clear hck;have hI:=qC (c:Int) 97 122;have hD:=qC (c:Int) 48 57;have hcv:IntKind.i64.wrap (c:Int)=c:=fC _ oM oM;rcases hch with hch|⟨hk0,hch⟩
   .have e1:aV (c:Int) 97 122=true:=gF.2 ⟨oM,oM⟩;rw[e1] at hI;clear hD e1;have HCH:=ai hch;clear hch
    go_wp2_with (go_at_call 138;refine(hI _).mono ?_;rintro e w' ⟨rfl,rfl⟩)
    go_roundw
    case rel=>exact⟨k+1,oM,by go_num,trivial⟩
    case measure=>simp[intOf];omega
   have e1:aV (c:Int) 97 122=false:=by unfold aV;rw[decide_eq_false oM];rfl
   have e2:aV (c:Int) 48 57=true:=gF.2 ⟨oM,oM⟩;rw[e1] at hI;rw[e2] at hD;have e3:((k:Int)==0)=false:=sO;have e4:(k==0)=false:=sO;clear e1 e2;have HCH:=ai hch;have HK0:=ai hk0;clear hch hk0
   go_wp2_with fail
   refine(hI _).mono ?_;rintro e w' ⟨rfl,rfl⟩
   go_wp2_with fail
   refine(hD _).mono ?_;rintro e w' ⟨rfl,rfl⟩;go_wp2;go_roundw
   case rel=>exact⟨k+1,oM,by go_num,trivial⟩
   case measure=>simp[intOf];omega
  obtain rfl:n=k:=oM;have hs1:=HS.out.size
  go_wp2_with (go_at_call 138;refine(je _ _ _ oM oM _).mono ?_;rintro e w' ⟨rfl,rfl⟩)
  go_ret
  exact⟨rfl,cY.drew⟩
structure Mn where
 name:ByteArray
 lo:Int
 hi:Int
abbrev Mn.cells(m:Mn):Array Value:=#[.string m.name,ag af m.lo,ag af m.hi]
def eA(l:List Mn):List Value:=l.flatMap fun m=>m.cells.toList
def pZ(l:List Mn):(eA l).length=3*l.length:=by
 induction l with
 |nil=>rfl
 |cons a l ih=>simp[eA] at ih ⊢;omega
def iF:∀(l:List Mn) (k j:Nat) (hk:k<l.length),j<3->(eA l)[3*k+j]?=l[k].cells[j]?
 |[],k,j,hk,_=>by simp at hk
 |a::l,0,j,_,hj=>by
  have:eA (a::l)=a.cells.toList++eA l:=rfl;rw[this,Ao sO];simp
 |a::l,k+1,j,hk,hj=>by
  have e:eA (a::l)=a.cells.toList++eA l:=rfl;rw[e,List.getElem?_append_right sO];have:=iF l k j (by simpa using hk) hj;simp only[List.getElem_cons_succ];rw[<-this]
  congr 1
  simp;omega
def zn{w:ak}{g off:Nat}{l:List Mn}(hc:∀j u,(eA l)[j]?=some u->w.cell? ⟨g,off+j,none⟩=some u)(k:Nat)(hk:k<l.length) :
  w.cell? ⟨g,off+k*3,none⟩=some (.string l[k].name)/\w.cell? ⟨g,off+k*3+1,none⟩=some (ag af l[k].lo)/\w.cell? ⟨g,off+k*3+2,none⟩=some (ag af l[k].hi):=
 ⟨hc (k*3) _ (by have:=iF l k 0 hk oM;rw[qU];simpa using this),hc (k*3+1) _ (by rw[qU,iF l k 1 hk oM];rfl),hc (k*3+2) _ (by rw[qU,iF l k 2 hk oM];rfl)⟩
structure uJ(l:List Mn):Prop where
 mem:∀m∈l,J5 m.name/\1<=m.lo/\m.lo<=m.hi/\m.hi<=99/\m.hi-m.lo<3
 apart:∀(i k:Nat) (hi:i<l.length) (hk:k<l.length),i<k->l[i].name≠l[k].name
 len:l.length<=3
def Mx{a b:ByteArray}(h:a≠b):¬a.toList=b.toList:=by
 intro e;rw[ByteArray.toList_eq,ByteArray.toList_eq] at e;obtain⟨⟨x⟩⟩:=a;obtain⟨⟨y⟩⟩:=b;have:x=y:=e;subst this;exact h rfl
def IW(m:Mn)(o:ByteArray)(hne:m.name≠o)(B:Nat)(w:ak)(hB:w.cell? ⟨B,0,none⟩=some (.string o))(hBl:B<w.heap.size):a_ aq 225 #[aN m.cells,dB (some ⟨B,0,none⟩)] w (Rt w (aA false)):=by
 have H:=ai (Mx hne);clear hne
 go_enter Tryz.func225,Tryz.ntmps225
 go_wp2
 go_ret
 exact⟨qu (by simpa using H.out),cY⟩
def Lm(l:List Mn)(o:ByteArray)(hne:∀m∈l,m.name≠o)(g off L cap B:Nat)(w:ak)(hL:l.length=L)(hL2:L<=4294967296)(hg:g<w.heap.size)(hc:∀j u,(eA l)[j]?=some u->w.cell? ⟨g,off+j,none⟩=some u)
  (hB:w.cell? ⟨B,0,none⟩=some (.string o)) (hBl:B<w.heap.size) :
  a_ aq 226 #[ae (some ⟨g,off,none⟩) L cap,.func (.func 225) #[] #[dB (some ⟨B,0,none⟩)]] w (Rt w (ag af (-1))):=by
 have HC:=ai hc;have HN:=ai hne;have HL:=ai hL;have HB:=ai hB;clear hc hne hL hB
 go_enter Tryz.func226,Tryz.ntmps226
 go_wp2
 go_loopw [5,8] (fun _ i wr=>∃k:Nat,k<=L/\i=ag af k/\Bw w wr) (fun _ i _=>L-(intOf i).toNat)
 case atStart=>exact⟨0,oM,rfl,ay _ _⟩
 case round=>
  obtain⟨k,hk,rfl,eb⟩:=hrel
  by_cases hlt:k<L
  .have jT:k<l.length:=by rw[HL.out];exact hlt
   have Dh:∀o,wr.cell? ⟨g,o,none⟩=w.cell? ⟨g,o,none⟩:=fun o=>eb.cell (p:=⟨g,o,none⟩) hg;obtain⟨y0,y1,y2⟩:=zn (w:=wr) (fun j u hj=>(Dh _).trans (HC.out j u hj)) k jT;have hS:=IW l[k] o (HN.out _ (bG jT)) B wr ((eb.cell (p:=⟨B,0,none⟩) hBl).trans HB.out) (bD hBl eb.size);clear Dh;have hsz:=eb.size;generalize l[k]=x at *
   go_wp2_with (go_at_call 225;refine hS.mono ?_;rintro e w2 ⟨rfl,hb2⟩)
   go_roundw
   case rel=>exact⟨k+1,oM,by go_num,eb.trans (hb2.mono hsz)⟩
   case measure=>simp[intOf];omega
  obtain rfl:L=k:=oM;go_wp2
  go_ret
  exact⟨rfl,eb⟩
def Fh(l:List Mn)(o:ByteArray)(hne:∀m∈l,m.name≠o)(g off L cap B:Nat)(w:ak)(hL:l.length=L)(hL2:L<=4294967296)(hg:g<w.heap.size)(hc:∀j u,(eA l)[j]?=some u->w.cell? ⟨g,off+j,none⟩=some u)
  (hB:w.cell? ⟨B,0,none⟩=some (.string o)) (hBl:B<w.heap.size) :
  a_ aq 224 #[ae (some ⟨g,off,none⟩) L cap,.func (.func 225) #[] #[dB (some ⟨B,0,none⟩)]] w (Rt w (aA false)):=by
 have hI:=Lm l o hne g off L cap B w hL hL2 hg hc hB hBl;clear hne hL hc hB
 go_enter Tryz.func224,Tryz.ntmps224
 go_wp2_with (go_at_call 226;refine hI.mono ?_;rintro e w2 ⟨rfl,hb2⟩)
 go_ret
 exact⟨rfl,hb2⟩
def RZ(b:BB)(bm aH az:aj)(l:List Mn)(hl:uJ l)(w:ak)(hv:Reads w bm l.length (eA l)) :
  a_ aq 220 #[aN (b.cells bm aH az)] w (Rt w (ag af 0)):=by
 have HM:=ai hl;have h3:=hl.len;rcases hv with⟨rfl,hn,_⟩|⟨g,off,cap,rfl,hn,hg,hc⟩
 .obtain rfl:=aX hn;clear hn hl h3
  go_enter Tryz.func220,Tryz.ntmps220
  go_wp2
  go_loopw [14] (fun i wr=>i=ag af 0/\fX (w.heap.size+1) (w.alloc (au (b.cells (ae none 0 0) aH az) 119)) wr) (fun _ _=>0)
  case atStart=>exact⟨rfl,ay _ _⟩
  case round=>
   obtain⟨rfl,eb⟩:=hrel;go_wp2
   go_ret
   exact⟨rfl,cY.trans (eb.mono oM)⟩
 have HC:=ai hc;clear hc hl;generalize hL:l.length=L at *;have HL:=ai hL;clear hL;have HK:Hid ((w.alloc (au (b.cells (ae (some ⟨g,off,none⟩) L cap) aH az) 119)).heap[w.heap.size]?=some (au (b.cells (ae (some ⟨g,off,none⟩) L cap) aH az) 119 (0,0))):=ai (ax w _)
 go_enter Tryz.func220,Tryz.ntmps220
 go_wp2
 go_loopw [3,4,14,19,24,32] (fun _ _ i _ _ _ wr=>∃k:Nat,k<=L/\i=ag af k/\fX (w.heap.size+1) (w.alloc (au (b.cells (ae (some ⟨g,off,none⟩) L cap) aH az) 119)) wr) (fun _ _ i _ _ _ _=>L-(intOf i).toNat)
 case atStart=>exact⟨0,oM,rfl,ay _ _⟩
 case round=>
  obtain⟨k,hk,rfl,eb⟩:=hrel;have hsz:=eb.size;simp at hsz;have Xm:w.heap.size<wr.heap.size:=oM
  by_cases hlt:k<L
  .have jT:k<l.length:=by rw[HL.out];exact hlt
   have Dh:∀o,wr.cell? ⟨g,o,none⟩=w.cell? ⟨g,o,none⟩:=fun o=>(eb.cell (p:=⟨g,o,none⟩) (by show g<_;omega)).trans (en _ _ _ hg);obtain⟨y0,y1,y2⟩:=zn (w:=wr) (fun j u hj=>(Dh _).trans (HC.out j u hj)) k jT;obtain⟨Ro,hx⟩:=HM.out.mem l[k] (bG jT)
   have hne:∀m∈l.take k,m.name≠l[k].name:=by
    intro m hm;obtain⟨i,hi,rfl⟩:=List.mem_iff_getElem.1 hm;have hik:i<k:=by simp at hi;omega
    rw[List.getElem_take];exact HM.out.apart i k oM jT hik
   have hrow:∀(j:Nat) (u:aj),(eA (l.take k))[j]?=some u->(eA l)[j]?=some u:=by
    intro j u hj
    have e:eA l=eA (l.take k)++eA (l.drop k):=by
     unfold eA;rw[<-List.flatMap_append,List.take_append_drop]
    rw[e,Ao (List.getElem?_eq_some_iff.1 hj).1];exact hj
   have HGW:=ai Dh;have HNE:=ai hne;have aiK:=ai hrow;have hlk:(l.take k).length=k:=sO;have HLK:=ai hlk;have ahD:=T3 l[k].name Ro;clear Dh hne hrow hlk Ro;generalize l.take k=lk at *;generalize l[k]=x at *;have rE:wr.heap[w.heap.size]?=some (au (b.cells (ae (some ⟨g,off,none⟩) L cap) aH az) 119 (0,0)):=(eb.block w.heap.size oM).trans HK.out;have HKK:=ai rE;clear rE
   go_wp2_with fail
   refine(ahD _).mono ?_;rintro e w2 ⟨rfl,hb2⟩;have NQ:w2.heap[wr.heap.size]?=some (au x.cells 79 (0,0)):=(hb2.block _ sM).trans (ax wr _);have z0:w2.cell? ⟨wr.heap.size,0,none⟩=some (.string x.name):=by unfold dG;rw[NQ];rfl
   have hs2:=hb2.size;simp at hs2;have adY:w2.heap[w.heap.size]?=some (au (b.cells (ae (some ⟨g,off,none⟩) L cap) aH az) 119 (0,0)):=(hb2.block _ sO).trans ((aW _ _ _ Xm).trans HKK.out);have adM:∀o,w2.cell? ⟨g,o,none⟩=w.cell? ⟨g,o,none⟩:=fun o=>((hb2.cell (p:=⟨g,o,none⟩) (by show g<_;simp;omega)).trans (en _ _ _ (by show g<_;omega))).trans (HGW.out o);have hCt:=Fh lk x.name HNE.out g off k cap wr.heap.size w2 HLK.out oM oM (fun j u hj=>(adM _).trans (HC.out j u (aiK.out j u hj))) z0 oM;obtain⟨x0,x1,x2,x3,x4,x5,x6,x7,x8,x9,qo,qm,rj,qX,q7⟩:=bU adY;have HXK:=ai NQ;clear NQ adM adY
   go_wp2_with fail
   refine hCt.mono ?_;rintro e w3 ⟨rfl,hb3⟩;have Xk:w3.heap[wr.heap.size]?=some (au x.cells 79 (0,0)):=(hb3.block _ oM).trans HXK.out;have u1:w3.cell? ⟨wr.heap.size,1,none⟩=some (ag af x.lo):=by unfold dG;rw[Xk];rfl
   have u2:w3.cell? ⟨wr.heap.size,2,none⟩=some (ag af x.hi):=by unfold dG;rw[Xk];rfl
   have anO:=ai Xk;have hs3:=hb3.size;clear Xk x0 x1 x2 x3 x4 x5 x6 x7 x8 x9 qo qm rj qX q7 z0
   go_wp2_with fail
   refine(m9 _ _ _ _ _ oM oM oM).mono ?_;rintro e w4 ⟨rfl,hb4⟩;have v1:w4.cell? ⟨wr.heap.size,1,none⟩=some (ag af x.lo):=(hb4.cell (p:=⟨wr.heap.size,1,none⟩) (by show wr.heap.size<_;omega)).trans u1;have v2:w4.cell? ⟨wr.heap.size,2,none⟩=some (ag af x.hi):=(hb4.cell (p:=⟨wr.heap.size,2,none⟩) (by show wr.heap.size<_;omega)).trans u2;go_wp2;go_roundw
   case rel=>exact⟨k+1,oM,by go_num,(((eb.alloc oM _).trans (hb2.mono sO)).trans (hb3.mono oM)).trans (hb4.mono oM)⟩
   case measure=>simp[intOf];omega
  obtain rfl:L=k:=oM;go_wp2
  go_ret
  exact⟨rfl,cY.trans (eb.mono oM)⟩
section
variable(P:aL)(w:ak)(a:Addr)(m:Mode)
@[go_sem] theorem Tm (f:Fn) (c d:Array aj):(store a (.func f c d) m).run P w=stored P w a (.func f c d) m:=run_store P w a _ m rfl
end
structure Laid(w:ak):Prop where
 c0:w.cell? ⟨0,0,none⟩=some (.func (.func 218) #[] #[])
 c1:w.cell? ⟨0,1,none⟩=some (.func (.func 219) #[] #[])
 c2:w.cell? ⟨0,2,none⟩=some (.func (.func 220) #[] #[])
 c3:w.cell? ⟨0,3,none⟩=some (.func (.func 221) #[] #[])
 c4:w.cell? ⟨0,4,none⟩=some (.func (.func 222) #[] #[])
 lt:0<w.heap.size
def Laid.below{w w':ak}(h:Laid w)(hb:Bw w w'):Laid w':=
 ⟨(hb.cell (p:=⟨0,0,none⟩) h.lt).trans h.c0,(hb.cell (p:=⟨0,1,none⟩) h.lt).trans h.c1,(hb.cell (p:=⟨0,2,none⟩) h.lt).trans h.c2,(hb.cell (p:=⟨0,3,none⟩) h.lt).trans h.c3,(hb.cell (p:=⟨0,4,none⟩) h.lt).trans h.c4,bD h.lt hb.size⟩
structure bW(b:BB)(bm aH az:aj)(ml:List Mn)(ss:List Int)(ms:List Mk)(w:ak):Prop where
 ok:b.Ok
 eT:uJ ml
 lH:jD b ss
 jM:l9 b ms
 rm:Reads w bm ml.length (eA ml)
 rs:Reads w aH ss.length (ss.map (aD af))
 rk:Reads w az ms.length (dM ms)
def bW.below{b:BB}{bm aH az:aj}{ml:List Mn}{ss:List Int}{ms:List Mk}{w w':ak}(h:bW b bm aH az ml ss ms w)(hb:Bw w w'):bW b bm aH az ml ss ms w':=
 ⟨h.ok,h.eT,h.lH,h.jM,h.rm.below hb,h.rs.below hb,h.rk.below hb⟩
def dI(b:BB)(bm aH az:aj)(ml:List Mn)(ss:List Int)(ms:List Mk)(w:ak)(hL:Laid w)(hB:bW b bm aH az ml ss ms w) :
  a_ aq 71 #[aN (b.cells bm aH az)] w (Rt w (ag af 0)):=by
 obtain⟨l0,l1,l2,l3,l4,llt⟩:=hL;have i0:∀w,(m6 163 (aN #[.func (.func 218) #[] #[],.func (.func 219) #[] #[],.func (.func 220) #[] #[],.func (.func 221) #[] #[],.func (.func 222) #[] #[]]) (ag af 0)).run aq w=.ok (aN #[.func (.func 218) #[] #[]]) w:=fun _=>by kernel_rfl
 have i1:∀w,(m6 163 (aN #[.func (.func 218) #[] #[],.func (.func 219) #[] #[],.func (.func 220) #[] #[],.func (.func 221) #[] #[],.func (.func 222) #[] #[]]) (ag af 1)).run aq w=.ok (aN #[.func (.func 219) #[] #[]]) w:=fun _=>by kernel_rfl
 have i2:∀w,(m6 163 (aN #[.func (.func 218) #[] #[],.func (.func 219) #[] #[],.func (.func 220) #[] #[],.func (.func 221) #[] #[],.func (.func 222) #[] #[]]) (ag af 2)).run aq w=.ok (aN #[.func (.func 220) #[] #[]]) w:=fun _=>by kernel_rfl
 have i3:∀w,(m6 163 (aN #[.func (.func 218) #[] #[],.func (.func 219) #[] #[],.func (.func 220) #[] #[],.func (.func 221) #[] #[],.func (.func 222) #[] #[]]) (ag af 3)).run aq w=.ok (aN #[.func (.func 221) #[] #[]]) w:=fun _=>by kernel_rfl
 have i4:∀w,(m6 163 (aN #[.func (.func 218) #[] #[],.func (.func 219) #[] #[],.func (.func 220) #[] #[],.func (.func 221) #[] #[],.func (.func 222) #[] #[]]) (ag af 4)).run aq w=.ok (aN #[.func (.func 222) #[] #[]]) w:=fun _=>by kernel_rfl
 have HK:Hid ((w.alloc (au (b.cells bm aH az) 28)).heap[w.heap.size]?=some (au (b.cells bm aH az) 28 (0,0))):=ai (ax w _)
 go_enter Tryz.func71,Tryz.ntmps71
 go_wp2
 go_loopw [4,5,7] (fun _ _ i wr=>((i=ag af 0\/i=ag af 1)\/(i=ag af 2\/i=ag af 3)\/(i=ag af 4\/i=ag af 5))/\fX (w.heap.size+1) (w.alloc (au (b.cells bm aH az) 28)) wr) (fun _ _ i _=>5-(intOf i).toNat)
 case atStart=>exact⟨cz (cz rfl),ay _ _⟩
 case round=>
  obtain⟨hi,eb⟩:=hrel;have hsz:=eb.size;simp at hsz;have Xm:w.heap.size<wr.heap.size:=oM;have r5:Bw w wr:=cY.trans (eb.mono oM);have hB2:=hB.below r5;obtain⟨x0,x1,x2,x3,x4,x5,x6,x7,x8,x9,qo,qm,rj,qX,q7⟩:=bU ((eb.block w.heap.size oM).trans HK.out);clear r5 l0 l1 l2 l3 l4;rcases hi with(rfl|rfl)|(rfl|rfl)|(rfl|rfl)
  .go_wp2_with (go_at_call 218;refine(Oy b hB2.ok bm aH az _).mono ?_;rintro e w2 ⟨rfl,hb2⟩)
   have hs2:=hb2.size;simp at hs2;go_roundw
   case rel=>exact⟨cz (.inr rfl),(eb.alloc oM _).trans (hb2.mono sO)⟩
   case measure=>simp[intOf]
  .go_wp2_with (go_at_call 219;refine(Ow b hB2.ok bm aH az _).mono ?_;rintro e w2 ⟨rfl,hb2⟩)
   have hs2:=hb2.size;simp at hs2;go_roundw
   case rel=>exact⟨.inr (cz (cz rfl)),(eb.alloc oM _).trans (hb2.mono sO)⟩
   case measure=>simp[intOf]
  .go_wp2_with (go_at_call 220;refine(RZ b bm aH az ml hB2.eT _ (hB2.rm.below cY)).mono ?_;rintro e w2 ⟨rfl,hb2⟩)
   have hs2:=hb2.size;simp at hs2;go_roundw
   case rel=>exact⟨.inr (cz (.inr rfl)),(eb.alloc oM _).trans (hb2.mono sO)⟩
   case measure=>simp[intOf]
  .go_wp2_with (go_at_call 221;refine(Ox b hB2.ok bm aH az ss hB2.lH _ (hB2.rs.below cY)).mono ?_;rintro e w2 ⟨rfl,hb2⟩)
   have hs2:=hb2.size;simp at hs2;go_roundw
   case rel=>exact⟨.inr (.inr (cz rfl)),(eb.alloc oM _).trans (hb2.mono sO)⟩
   case measure=>simp[intOf]
  .go_wp2_with (go_at_call 222;refine(Mh b hB2.ok bm aH az ms hB2.jM _ (hB2.rk.below cY)).mono ?_;rintro e w2 ⟨rfl,hb2⟩)
   have hs2:=hb2.size;simp at hs2;go_roundw
   case rel=>exact⟨.inr (.inr (.inr rfl)),(eb.alloc oM _).trans (hb2.mono sO)⟩
   case measure=>simp[intOf]
  go_wp2
  go_ret
  exact⟨rfl,cY.trans (eb.mono oM)⟩
open Go Go.ChangeShapes
abbrev Lj:List (String × DataW Unit):=[("lagan/bell.checks",Rows.laid_lagan_bell_checks)]
def Ra:Tryz.prog.globalNamed "lagan/bell.checks" = some 0:=kQ
def T1:(Tryz.prog.globals[0]?).map (·.type)=some 163:=kQ
def zy{W:ak}{n:Nat}{cs:List aj}{i:Nat}{f0:dU}{b:UInt8}{r:List UInt8}{xs:List (DataW (List UInt8) × List MemPlace)}(hlen:cs.length=5)(hi:i<5)
  (hel:∀(i:Nat),i<5->DataW.trod (funcToken aq) aq W 0 (fun _=>true) true n 162 ((cs.drop (i*1)).take 1)=xs[i]?) {q:List MemPlace} (hx:xs[i]?=some (.agg [.held (b::r)],q))
  (adz:((aQ Tryz.prog.funcs.size).filter fun f=>(Tryz.prog.funcs[f]?).any (·.name.toUTF8.data.toList==b::r))=[f0]):cs[i]?=some (.func (.func f0) #[] #[]):=by
 have h:=hel i hi;rw[hx] at h;obtain⟨ys,m,-,hy,-,hl,hf⟩:=DataW.trod_struct Tryz.underlying162 h;have h0:=hf 0 _ rfl;have hl:ys.length=1:=hl
 match ys,hl with
 |[y],_=>
  have aio:Tryz.prog.cellsOf 125=1:=kQ;simp only[cP,List.map_nil,g_,DataW.agg.injEq,Ar,and_true] at hy
  have e:List.take 1 (List.drop 0 (List.take 1 (List.drop (i*1) cs)))=[cs[i]'oM]:=by
   rw[Nat.mul_one,dO (l:=cs) (i:=i) oM];rfl
  have h0':DataW.trod (funcToken aq) aq W 0 (fun _=>true) true m 125 (List.take (Tryz.prog.cellsOf 125) (List.drop 0 (List.take 1 (List.drop (i*1) cs))))=some y:=h0;rw[aio,e] at h0';have h1:DataW.trod (funcToken aq) aq W 0 (fun _=>true) true m 125 [cs[i]'oM]=some (.held (b::r),y.2):=by rw[h0',hy.1]
  have:=func_of_trod Tryz.underlying125 adz h1;rw[List.getElem?_eq_getElem oM,this]
def WW{W:ak}(h:laidMetH aq Lj W):Laid W:=by
 obtain⟨g,t,cs,fuel,p,hg,ht,hv,htr⟩:=laidMetH.funcs h (.head _);obtain rfl:=a7 (Ra.symm.trans hg);obtain rfl:=a7 (T1.symm.trans ht);obtain⟨xs,m,-,hx,hlen,Xj,hel⟩:=DataW.trod_array Tryz.underlying163 htr;have aim:Tryz.prog.cellsOf 163=5:=kQ;have ain:Tryz.prog.cellsOf 162=1:=kQ;rw[aim] at hlen;simp only[ain] at hel;simp only[g_] at hx;have hx:=hx.1;simp only[DataW.funcsOut,DataW.funcsOutAll,DataW.agg.injEq] at hx
 match xs,Xj with
 |[x0,x1,x2,x3,x4],_=>
  simp only[cP,List.map_nil,Ar,and_true] at hx;obtain⟨y0,y1,y2,y3,y4⟩:=hx;have hc:=World.var?_cell hg hv;have hs:∀(i:Nat) (u:aj),cs.toList[i]?=some u->W.cell? ⟨0,i,none⟩=some u:=fun i u h=>(hc i).trans (by rw[<-Array.getElem?_toList];exact h);have z0:=hs 0 _ (zy (f0:=218) (q:=x0.2) hlen dC hel (congrArg some (Prod.ext y0.symm rfl)) kQ);have z1:=hs 1 _ (zy (f0:=219) (q:=x1.2) hlen dC hel (congrArg some (Prod.ext y1.symm rfl)) kQ);have z2:=hs 2 _ (zy (f0:=220) (q:=x2.2) hlen dC hel (congrArg some (Prod.ext y2.symm rfl)) kQ);have z3:=hs 3 _ (zy (f0:=221) (q:=x3.2) hlen dC hel (congrArg some (Prod.ext y3.symm rfl)) kQ);have z4:=hs 4 _ (zy (f0:=222) (q:=x4.2) hlen dC hel (congrArg some (Prod.ext y4.symm rfl)) kQ);exact⟨z0,z1,z2,z3,z4,Nat.lt_of_not_le fun h=>by rw[dG,fF h] at z0;cases z0⟩
end Go.Proofs.YtffladgmkiimjaaGreatDoor
namespace Go.Lag
open Go Go.RowKit
abbrev pv(b i:Nat):Value:=.pointer (some ⟨b,i,none⟩)
def Yields(P:aL)(o:cI)(ev:bI->aj)(w:ak)(R:aj->ak->Prop):Prop:=
 match (cu ev o).run P w with
 |.ok (.value v) w'=>R v w'
 |.ok .skip w'=>R ar w'
 |.ok (.enter f args) w'=>a_ P f args w' fun e w''=>∃v,e=.returned v/\R v w''
 |_=>False
def Yields.value{P:aL}{o:cI}{ev:bI->aj}{w w':ak}{R:aj->ak->Prop}{v:aj}(he:(cu ev o).run P w=.ok (.value v) w')(h:R v w'):Yields P o ev w R:=by
 unfold Yields;rw[he];exact h
def Yields.skip{P:aL}{o:cI}{ev:bI->aj}{w w':ak}{R:aj->ak->Prop}(he:(cu ev o).run P w=.ok .skip w')(h:R ar w'):Yields P o ev w R:=by
 unfold Yields;rw[he];exact h
def Yields.call{P:aL}{o:cI}{ev:bI->aj}{w:ak}{R:aj->ak->Prop}{f:dU}{args:Array aj}{R':Ending->ak->Prop}(he:(cu ev o).run P w=.ok (.enter f args) w)
  (h:a_ P f args w R') (hr:∀e w',R' e w'->∃v,e=.returned v/\R v w'):Yields P o ev w R:=by
 unfold Yields;rw[he];exact h.mono hr
def Yields.wp{P:aL}{o:cI}{a:k9}{w:ak}{R:aj->ak->Prop}{K:k9->ak->Prop}{Q:Exit->k9->ak->Prop}(h:Yields P o a.eval w R)
  (hk:∀v w',R v w'->K (a.put o.dst v) w'):o.wp P a w K Q:=by
 unfold Oper.wp;unfold Yields at h;generalize (cu a.eval o).run P w=r at *;cases r with
 |halt x w'=>exact h.elim
 |ok n w'=>
  cases n<;>simp only[] at h
  .exact hk _ _ h
  .exact hk _ _ h
  all_goals first|exact h.elim|skip
  exact h.mono (by rintro e w'' ⟨v,rfl,hv⟩;exact hk _ _ hv)
abbrev Pred:=aj->List aj->ak->Prop
def d_(aM:Array cI)(j:Nat):Option Tmp:=(aM[j]?).bind (·.dst)
def jc(d:Option kG)(ev:bI->aj):Value:=
 match d with
 |some d=>ev (.tmp d)
 |none=>ar
def gh(Vs:List Pred)(i:Nat):Pred:=Vs.getD i fun _ _ _=>True
def gi(aM:Array cI)(ev:bI->aj)(l:List Edge):List Value:=(l.filter (fE .any)).map fun e=>jc (d_ aM e.on) ev
def fR(aM:Array cI)(i:Nat):List Edge:=match aM[i]? with|some o=>o.after.toList|none=>[]
def gp(ev:bI->aj):List (kG × aj)->Prop
 |[]=>True
 |(t,v)::l=>ev (.tmp t)=v/\gp ev l
def FT(aM:Array cI)(Vs:List Pred)(ev:bI->aj)(w:ak):List Edge->Prop
 |[]=>True
 |e::l=>(fE .any e=true->gh Vs e.on (jc (d_ aM e.on) ev) (gi aM ev (fR aM e.on)) w)/\FT aM Vs ev w l
def Post(aM:Array cI)(ev:bI->aj)(Vs:List Pred)(S:ak->Prop)(i:Nat)(o:cI)(w:ak)(v:aj)(w':ak):Prop:=
 gh Vs i (match o.dst with|some _=>v|none=>ar) (gi aM ev o.after.toList) w'/\(Bw w w'\/(S w'/\∀k u ds,k≠i->gh Vs k u ds w->gh Vs k u ds w'))
abbrev mL:=cI->(bI->aj)->ak->(aj->ak->Prop)->Prop
def Qa(Y:mL)(aM:Array cI)(Vs:List Pred)(S:ak->Prop)(base:List (kG × aj))(i:Nat)(o:cI):Prop:=
 ∀(ev:bI->aj) (w:ak),S w->(∀v,ev (.const v)=v)->(∀g,ev (.global g)=.pointer (some ⟨g,0,none⟩))->(∀f,ev (.func f)=.func (.func f) #[] #[])->gp ev base->FT aM Vs ev w o.after.toList->
  match o.guard with
  |none=>Y o ev w (Post aM ev Vs S i o w)
  |some (j,b)=>(∃r,jc (d_ aM j) ev=.bool r)/\∀r,jc (d_ aM j) ev=.bool r->if r=b then Y o ev w (Post aM ev Vs S i o w) else Post aM ev Vs S i o w ar w
def Each(Y:mL)(aM:Array cI)(Vs:List Pred)(S:ak->Prop)(base:List (kG × aj)):Nat->List cI->Prop
 |_,[]=>True
 |i,o::l=>Qa Y aM Vs S base i o/\Each Y aM Vs S base (i+1) l
def jC(S:ak->Prop):List Pred->Prop
 |[]=>True
 |V::l=>(∀u ds w w',S w->V u ds w->Bw w w'->V u ds w')/\jC S l
def jl(aM:Array cI)(n:Nat)(base:List (kG × aj)):Bool:=
 ((aQ aM.size).all fun i=>
  match aM[i]? with
  |none=>false
  |some o=>(o.after.toList.all fun e=>!Region.binds .any e||decide (e.on<i)) &&
   (match o.dst with|some d=>decide (d<n)&&(base.all fun p=>decide (p.1≠d))&&((aQ i).all fun j=>decide (d_ aM j≠some d))|none=>true) &&
   (match o.guard with|some (j,_)=>(o.after.toList.any fun e=>fE .any e&&decide (e.on=j))|none=>true)) &&
 (base.all fun p=>decide (p.1<n))
section
variable{P:aL}{aM:Array cI}{Q:Exit->k9->ak->Prop}{Vs:List Pred}{S:ak->Prop}{base:List (kG × aj)}{n:Nat}
theorem Each.get{Y:mL}{i:Nat}{l:List cI}(h:Each Y aM Vs S base i l){j:Nat}{o:cI}(hj:l[j]?=some o):Qa Y aM Vs S base (i+j) o:=by
 induction l generalizing i j with
 |nil=>simp at hj
 |cons x l ih=>
  cases j with
  |zero=>simp at hj;subst hj;exact h.1
  |succ j=>have:=ih h.2 (j:=j) (by simpa using hj);rwa [qV,Nat.add_comm 1 j] at this
theorem jC.get(h:jC S Vs)(i:Nat){u:aj}{ds:List aj}{w w':ak}(hS:S w)(hb:Bw w w')(hv:gh Vs i u ds w):gh Vs i u ds w':=by
 induction Vs generalizing i with
 |nil=>trivial
 |cons V l ih=>
  cases i with
  |zero=>exact h.1 u ds w w' hS hv hb
  |succ i=>exact ih h.2 i hv
theorem gp.congr{ev E8:bI->aj}{l:List (kG × aj)}(h:gp ev l)(he:∀p∈l,E8 (.tmp p.1)=ev (.tmp p.1)):gp E8 l:=by
 induction l with
 |nil=>trivial
 |cons p l ih=>exact⟨(he p (by simp)).trans h.1,ih h.2 fun q hq=>he q (by simp[hq])⟩
theorem FT.of{ev:bI->aj}{w:ak}{l:List Edge}(h:∀e∈l,fE .any e=true->gh Vs e.on (jc (d_ aM e.on) ev) (gi aM ev (fR aM e.on)) w):FT aM Vs ev w l:=by
 induction l with
 |nil=>trivial
 |cons e l ih=>exact⟨h e (by simp),ih fun e' he=>h e' (by simp[he])⟩
theorem ze(a:k9)(d:Option kG)(v:aj):(a.put d v).tmps.size=a.tmps.size:=by cases d<;>simp[Act.put]
theorem put_defers(a:k9)(d:Option kG)(v:aj):(a.put d v).defers=a.defers:=by cases d<;>rfl
theorem tS(a:k9)(d:Option kG)(v:aj)(t:kG)(h:d≠some t):(a.put d v).eval (.tmp t)=a.eval (.tmp t):=by
 cases d with
 |none=>rfl
 |some d=>
  have:d≠t:=fun e=>h (by rw[e]);simp[Act.put,Act.eval,aY,bA,this]
theorem put_eq(a:k9)(d:kG)(v:aj)(h:d<a.tmps.size):(a.put (some d) v).eval (.tmp d)=v:=by
 simp[Act.put,Act.eval,aY,bA,h]
structure jw(aM:Array cI)(Vs:List Pred)(S:ak->Prop)(a0:k9)(L:Array Bool)(a:k9)(w:ak):Prop where
 uA:L.size=aM.size
 size:a.tmps.size=a0.tmps.size
 defers:a.defers=a0.defers
 s:S w
 keep:∀t,(∀o∈aM.toList,o.dst≠some t)->a.eval (.tmp t)=a0.eval (.tmp t)
 closed:∀i e,L.getD i false=true->e∈fR aM i->fE .any e=true->L.getD e.on false=true
 vals:∀i,L.getD i false=true->gh Vs i (jc (d_ aM i) a.eval) (gi aM a.eval (fR aM i)) w
theorem MF{i:Nat}{e:Edge}(cV:jl aM n base=true)(he:e∈fR aM i)(hb:fE .any e=true):e.on<aM.size:=by
 unfold fR at he
 by_cases hi:i<aM.size
 .have wQ:aM[i]?=some aM[i]:=aO hi;rw[wQ] at he;unfold jl at cV;rw[aF,bf] at cV;have h2:=cV.1 i (bQ.2 hi);rw[wQ] at h2;simp only[aF] at h2;have h3:=bf.1 h2.1.1 e he;simp only[hb,Bool.not_true,Bool.false_or,decide_eq_true_eq] at h3;omega
 simp[fF (Nat.le_of_not_lt hi)] at he
theorem pS{ev E8:bI->aj}{l:List Edge}(h:∀e∈l,fE .any e=true->jc (d_ aM e.on) E8=jc (d_ aM e.on) ev):gi aM E8 l=gi aM ev l:=by
 unfold gi;apply F7;intro e he;rw[kx] at he;exact h e he.1 he.2
theorem ready_nil{L:Array Bool}(cV:jl aM n base=true)(hL:L.size=aM.size)(h:ja .any aM L=[]):∀i,i<aM.size->L.getD i false=true:=by
 intro i
 induction i using Nat.strongRecOn with
 |ind i ih=>
  intro hi;refine Classical.byContradiction fun hc=>?_
  have hm:i∈ja .any aM L:=by
   unfold ja;rw[kx];have wQ:aM[i]?=some aM[i]:=aO hi;refine⟨bQ.2 hi,?_⟩;have xr:i<L.size:=by omega
   have h1:L.getD i true=false:=by
    simp[ep,xr] at hc ⊢;exact hc
   rw[h1,wQ];simp only[Bool.not_false,Bool.true_and,dJ,Option.getD_some];rw[Array.all_eq_true];intro k hk;unfold jl at cV;rw[aF,bf] at cV;have h2:=cV.1 i (bQ.2 hi);rw[wQ] at h2;simp only[aF] at h2;have h3:=bf.1 h2.1.1 (aM[i].after[k]) (by simp);simp only[Bool.or_eq_true,Bool.not_eq_true',decide_eq_true_eq] at h3 ⊢;rcases h3 with h3|h3
   .exact .inl h3
   exact .inr (ih _ h3 (by omega))
  rw[h] at hm;cases hm
def anyOf(nO:Nat->(k9->ak->Prop)->k9->ak->Prop)(aM:Array cI)(Q:Exit->k9->ak->Prop):Nat->Array Bool->k9->ak->Prop
 |0,L,a,w=>ja .any aM L=[]/\Q .normal a w
 |fuel+1,L,a,w=>(ja .any aM L=[]->Q .normal a w)/\∀i∈ja .any aM L,nO i (anyOf nO aM Q fuel (L.setIfInBounds i true)) a w
theorem Du:∀fuel L,wpAny P .any aM Q fuel L=anyOf (wpOp P aM Q) aM Q fuel L
 |0,L=>rfl
 |fuel+1,L=>by
  funext a w
  simp only[wpAny,anyOf];simp only[Du fuel]
theorem xR{a0:k9}{w:ak}(hS:S w):jw aM Vs S a0 (bz aM.size false) a0 w:=⟨by simp,rfl,rfl,hS,fun _ _=>rfl,fun i e hi _ _=>by
  simp[aY,qW] at hi;split at hi<;>simp at hi,fun i hi=>by
  simp[aY,qW] at hi
  split at hi<;>simp at hi⟩
theorem vJ:(bz aM.size false).toList.countP (!·)<=aM.size:=by simpa using xI (p:=(!·)) (l:=List.replicate aM.size false)
end
namespace Gd
open Go Go.RowKit
def Qa(Y:mL)(aM:Array cI)(Vs:List Pred)(S:ak->Prop)(base:List (kG × aj))(i:Nat)(o:cI):Prop:=
 ∀(ev:bI->aj) (w:ak),S w->(∀v,ev (.const v)=v)->(∀g,ev (.global g)=.pointer (some ⟨g,0,none⟩))->(∀f,ev (.func f)=.func (.func f) #[] #[])->gp ev base->FT aM Vs ev w o.after.toList->
  match o.guard with
  |none=>Y o ev w (Post aM ev Vs S i o w)
  |some (j,b)=>(jc (d_ aM j) ev=.bool b->Y o ev w (Post aM ev Vs S i o w))/\(jc (d_ aM j) ev≠.bool b->Post aM ev Vs S i o w ar w)
def Each(Y:mL)(aM:Array cI)(Vs:List Pred)(S:ak->Prop)(base:List (kG × aj)):Nat->List cI->Prop
 |_,[]=>True
 |i,o::l=>Qa Y aM Vs S base i o/\Each Y aM Vs S base (i+1) l
section
variable{P:aL}{aM:Array cI}{Q:Exit->k9->ak->Prop}{Vs:List Pred}{S:ak->Prop}{base:List (kG × aj)}{n:Nat}
theorem Each.get{Y:mL}{i:Nat}{l:List cI}(h:Each Y aM Vs S base i l){j:Nat}{o:cI}(hj:l[j]?=some o):Qa Y aM Vs S base (i+j) o:=by
 induction l generalizing i j with
 |nil=>simp at hj
 |cons x l ih=>
  cases j with
  |zero=>simp at hj;subst hj;exact h.1
  |succ j=>have:=ih h.2 (j:=j) (by simpa using hj);rwa [qV,Nat.add_comm 1 j] at this
theorem Al{Y:mL}{nO:Nat->(k9->ak->Prop)->k9->ak->Prop}
  (hs1:∀i o K a w R,aM[i]?=some o->cL o (j8 aM a.tmps)=true->Y o a.eval w R->(∀v w',R v w'->K (a.put o.dst v) w')->nO i K a w)
  (hs2:∀i o K a w,aM[i]?=some o->¬cL o (j8 aM a.tmps)=true->K (a.put o.dst ar) w->nO i K a w)
  (cV:jl aM n base=true) (ES:jC S Vs) (HV:∀w w',S w->Bw w w'->S w') (a0:k9) (hn:a0.tmps.size=n) (hbase:gp a0.eval base) (lo:Nat) (hE:∀j o,lo<=j->aM[j]?=some o->Qa Y aM Vs S base j o)
  (hQ:∀a w,jw aM Vs S a0 (bz aM.size true) a w->Q .normal a w) :
  ∀fuel (L:Array Bool) (a:k9) (w:ak),L.toList.countP (!·)<=fuel->(∀k,k<lo->L.getD k false=true)->jw aM Vs S a0 L a w->anyOf nO aM Q fuel L a w:=by
 have fin:∀(L:Array Bool) (a:k9) (w:ak),ja .any aM L=[]->jw aM Vs S a0 L a w->Q .normal a w:=fun L a w hr h=>
  hQ a w ⟨by simp,h.size,h.defers,h.s,h.keep,fun i e hi he hb=>by
   have hlt:e.on<aM.size:=MF cV he hb;simp[ep,hlt],fun i hi=>by
   by_cases hlt:i<aM.size
   .exact h.vals i (ready_nil cV h.uA hr i hlt)
   simp[ep,hlt] at hi⟩
 intro fuel
 induction fuel with
 |zero=>
  intro L a w hc hlo h
  have hr:ja .any aM L=[]:=by
   apply List.eq_nil_iff_forall_not_mem.2;intro i hi;unfold ja at hi;rw[kx,bQ] at hi;obtain⟨hi,h2⟩:=hi;have xr:i<L.size:=by have:=h.uA;omega
   simp[ep,xr] at h2;have h0:=List.countP_eq_zero.1 (Nat.le_zero.1 hc) L[i] (by simp);simp[h2.1] at h0
  exact⟨hr,fin L a w hr h⟩
 |succ fuel ih=>
  intro L a w hc hlo h;refine⟨fun hr=>fin L a w hr h,fun i hi=>?_⟩;have hi':=hi;unfold ja at hi';rw[kx,bQ] at hi';obtain⟨hlt,h2⟩:=hi';have xr:i<L.size:=by have:=h.uA;omega
  have wQ:aM[i]?=some aM[i]:=aO hlt;generalize aM[i]=o at wQ;rw[wQ] at h2;simp only[aF,Bool.not_eq_true',dJ,Option.getD_some,Array.all_eq_true] at h2;obtain⟨UD,Uu⟩:=h2
  have SJ:o∈aM.toList:=by
   have:=eV wQ;simpa using this
  have rY:=cV;unfold jl at rY;rw[aF,bf,bf] at rY;have CV:=rY.1 i (bQ.2 hlt);rw[wQ] at CV;simp only[aF] at CV;obtain⟨⟨aaL,uQ⟩,aar⟩:=CV
  have UG:FT aM Vs a.eval w o.after.toList:=FT.of fun e he hb=>by
   obtain⟨k,hk,rfl⟩:=fZ he;have:=Uu k (by simpa using hk);simp only[ri] at hb ⊢;rw[hb] at this;simp only[Bool.not_true,Bool.false_or] at this;exact h.vals _ this
  have hBs:gp a.eval base:=hbase.congr fun p hp=>h.keep _ fun o' ho' hd=>by
   obtain⟨k,hk,rfl⟩:=fZ ho';have qY:k<aM.size:=by simpa using hk
   have h3:=rY.1 k (bQ.2 qY);rw[aO qY] at h3;simp only[ri] at hd;simp only[aF,hd] at h3;have:=bf.1 h3.1.2.1.2 p hp;simp at this
  have hil:lo<=i:=by
   refine Nat.le_of_not_lt fun hc2=>?_;have:=hlo i hc2;simp[ep,xr] at UD this;rw[UD] at this;cases this
  have hO:=hE i o hil wQ a.eval w h.s (fun _=>rfl) (fun _=>rfl) (fun _=>rfl) hBs UG;have hao:fR aM i=o.after.toList:=by unfold fR;rw[wQ]
  have Lx:∀e∈o.after.toList,fE .any e=true->L.getD e.on false=true:=fun e he hb=>by
   obtain⟨k,hk,rfl⟩:=fZ he;have:=Uu k (by simpa using hk);simp only[ri] at hb ⊢;rw[hb] at this;simpa using this
  have hne:∀k,L.getD k false=true->k≠i/\k<aM.size:=fun k hk=>by
   refine⟨fun e=>?_,?_⟩
   .subst e;simp[ep,xr] at UD hk;rw[UD] at hk;cases hk
   rcases Nat.lt_or_ge k aM.size with h5|h5
   .exact h5
   have:¬k<L.size:=by have:=h.uA;omega
   simp[ep,this] at hk
  have next:∀v w',Post aM a.eval Vs S i o w v w'->anyOf nO aM Q fuel (L.setIfInBounds i true) (a.put o.dst v) w':=fun v w' hp=>by
   have hval:∀k,L.getD k false=true->jc (d_ aM k) (a.put o.dst v).eval=jc (d_ aM k) a.eval:=fun k qY=>by
    obtain⟨ye,wD⟩:=hne k qY;cases MW:d_ aM k with
    |none=>rfl
    |some d=>
     refine tS _ _ _ _ fun YL=>?_;rcases Nat.lt_trichotomy k i with h5|h5|h5
     .rw[YL] at uQ;simp only[aF,decide_eq_true_eq] at uQ;have:=bf.1 uQ.2 k (bQ.2 h5);simp[MW] at this
     .exact ye h5
     have h6:=rY.1 k (bQ.2 wD);rw[aO wD] at h6
     have h7:(aM[k]).dst=some d:=by
      unfold d_ at MW;rw[aO wD] at MW;simpa using MW
     simp only[aF,h7] at h6;have:=bf.1 h6.1.2.2 i (bQ.2 h5);unfold d_ at this;rw[wQ] at this;simp[YL] at this
   have uN:∀k,L.getD k false=true->(L.setIfInBounds i true).getD k false=true:=fun k hk=>by
    have:=(hne k hk).1;simpa [aY,bA,xH this] using hk
   have hback:∀k,k≠i->(L.setIfInBounds i true).getD k false=true->L.getD k false=true:=fun k ye hk=>by
    simpa [aY,bA,xH ye] using hk
   refine ih _ _ _ ?_ (fun k hk=>uN k (hlo k hk)) ⟨by simp[h.uA],by rw[ze,h.size],by rw[put_defers,h.defers],?_,fun t ht=>?_,fun k e hk he hb=>?_,fun k hk=>?_⟩
   .have hLv:L[i]=false:=by simpa [ep,xr] using UD
    have h4:(L.setIfInBounds i true).toList.countP (!·)=L.toList.countP (!·)-1:=by
     rw[Array.toList_setIfInBounds,List.countP_set (by simpa using xr)];simp[hLv]
    omega
   .exact hp.2.elim (fun hb=>HV _ _ h.s hb) fun hs=>hs.1
   .rw[tS _ _ _ _ (ht o SJ)];exact h.keep t ht
   .by_cases ye:k=i
    .subst ye;rw[hao] at he;exact uN _ (Lx e he hb)
    exact uN _ (h.closed k e (hback k ye hk) he hb)
   by_cases ye:k=i
   .subst ye
    have hdd:gi aM (a.put o.dst v).eval (fR aM k)=gi aM a.eval o.after.toList:=by
     rw[hao];exact pS fun e he hb=>hval _ (Lx e he hb)
    rw[hdd];have:=hp.1;unfold d_ jc;rw[wQ];simp only[gI];cases hd:o.dst with
    |none=>rw[hd] at this;exact this
    |some d=>
     rw[hd] at this uQ;simp only[aF,decide_eq_true_eq] at uQ;have h9:=put_eq a d v (by rw[h.size,hn];exact uQ.1.1);simp only[] at this ⊢;rw[h9];exact this
   have qY:=hback k ye hk;have ZZ:=h.vals k qY;have hdd:gi aM (a.put o.dst v).eval (fR aM k)=gi aM a.eval (fR aM k):=pS fun e he hb=>hval _ (h.closed k e qY he hb);rw[hval k qY,hdd];exact hp.2.elim (fun hb=>ES.get k h.s hb ZZ) fun hs=>hs.2 k _ _ ye ZZ
  cases hg:o.guard with
  |none=>
   rw[hg] at hO;exact hs1 i o _ a w _ wQ (by simp[cL,hg]) hO next
  |some jb=>
   obtain⟨j,b⟩:=jb;rw[hg] at hO;obtain⟨hO1,V3⟩:=hO
   by_cases hr:jc (d_ aM j) a.eval=.bool b
   .have hy:j8 aM a.tmps j=some b:=by
     unfold j8;unfold jc at hr;unfold d_ at hr;cases hd:(aM[j]?).bind (·.dst) with
     |none=>rw[hd] at hr;simp[ar] at hr
     |some d=>
      rw[hd] at hr;simp only[gI]
      have h8:a.tmps[d]?=some (.bool b):=by
       unfold Act.eval at hr;simp only[] at hr
       by_cases CW:d<a.tmps.size
       .simp[ep,CW] at hr;rw[aO CW,hr]
       simp[ep,CW,ar] at hr
      rw[h8]
    exact hs1 i o _ a w _ wQ (by simp[cL,hg,hy]) (hO1 hr) next
   have hy:j8 aM a.tmps j≠some b:=by
    intro hy;refine hr ?_;unfold j8 at hy;unfold jc d_;cases hd:(aM[j]?).bind (·.dst) with
    |none=>rw[hd] at hy;simp at hy
    |some d=>
     rw[hd] at hy;simp only[gI] at hy;simp only[];unfold Act.eval;simp only[];cases h8:a.tmps[d]? with
     |none=>rw[h8] at hy;simp at hy
     |some v=>
      rw[h8] at hy
      have hv:v=.bool b:=by
       revert hy;cases v<;>simp
      simp[aY,h8,hv]
   exact hs2 i o _ a w wQ (by simpa [cL,hg] using hy) (next _ _ (V3 hr))
theorem cj{id:Nat}{a0:k9}{w:ak}(hm:P.follows .mixedOrders=true)(Vs:List Pred)(S:ak->Prop)(base:List (kG × aj))(cV:jl aM a0.tmps.size base=true)(ES:jC S Vs)(HV:∀w w',S w->Bw w w'->S w')
  (hS:S w.drew) (hbase:gp a0.eval base) (hE:Each (Yields P) aM Vs S base 0 aM.toList) (hQ:∀a w,jw aM Vs S a0 (bz aM.size true) a w->Q .normal a w):(Code.region id aM true).wp P Q a0 w:=
 wp_region_any hm (by
  rw[Du]
  exact Al (Y:=Yields P) (fun i o K a w R ho hw hy hk=>wpOp_step ho fun K' hK=>by rw[if_pos hw];exact hy.wp fun v w' hv=>hK _ _ (hk v w' hv))
   (fun i o K a w ho hw hk=>wpOp_step ho fun K' hK=>by rw[if_neg hw];exact hK _ _ hk) cV ES HV a0 rfl hbase 0 (fun j o _ h=>by have:=hE.get (j:=j) (o:=o) (by simpa using h);rwa [cO] at this) hQ aM.size _ a0 _ vJ (fun k hk=>by omega) (xR hS))
end
end Gd
section
variable{P:aL}{aM:Array cI}{Q:Exit->k9->ak->Prop}{Vs:List Pred}{S:ak->Prop}{base:List (kG × aj)}{n:Nat}
theorem Qa.gd{Y:mL}{i:Nat}{o:cI}(h:Qa Y aM Vs S base i o):Gd.Qa Y aM Vs S base i o:=by
 intro ev w hS hc hg hf hb hd;have h1:=h ev w hS hc hg hf hb hd;cases hgd:o.guard with
 |none=>rw[hgd] at h1;exact h1
 |some jb=>
  obtain⟨j,b⟩:=jb;rw[hgd] at h1;obtain⟨⟨r,hr⟩,h2⟩:=h1;exact⟨fun e=>by have:=h2 b e;rwa [if_pos rfl] at this,fun e=>by have:=h2 r hr;rwa [if_neg (fun h=>e (hr.trans (congrArg _ h)))] at this⟩
theorem Each.gd{Y:mL}:∀ {i:Nat} {l:List cI},Each Y aM Vs S base i l->Gd.Each Y aM Vs S base i l
 |_,[],_=>trivial
 |_,_::_,h=>⟨h.1.gd,Each.gd h.2⟩
theorem cj{id:Nat}{a0:k9}{w:ak}(hm:P.follows .mixedOrders=true)(Vs:List Pred)(S:ak->Prop)(base:List (kG × aj))(cV:jl aM a0.tmps.size base=true)(ES:jC S Vs)(HV:∀w w',S w->Bw w w'->S w')
  (hS:S w.drew) (hbase:gp a0.eval base) (hE:Each (Yields P) aM Vs S base 0 aM.toList) (hQ:∀a w,jw aM Vs S a0 (bz aM.size true) a w->Q .normal a w):(Code.region id aM true).wp P Q a0 w:=
 Gd.cj hm Vs S base cV ES HV hS hbase hE.gd hQ
def keeps(aM:Array cI)(t:kG):Bool:=aM.toList.all fun o=>decide (o.dst≠some t)
theorem jw.kept{a0 a:k9}{L:Array Bool}{w:ak}(h:jw aM Vs S a0 L a w){t:kG}(hk:keeps aM t=true):a.tmps.getD t ar=a0.tmps.getD t undef:=
 h.keep t fun o ho=>by
  have:=bf.1 hk o ho;simpa using this
theorem jw.kp{a0 a:k9}{L:Array Bool}{w:ak}(h:jw aM Vs S a0 L a w)(t:kG)(hk:keeps aM t=true:=by kernel_rfl):a.tmps.getD t ar=a0.tmps.getD t undef:=h.kept hk
theorem jw.val{a0 a:k9}{w:ak}(h:jw aM Vs S a0 (bz aM.size true) a w)(i:Nat)(hi:i<aM.size:=by decide):gh Vs i (jc (d_ aM i) a.eval) (gi aM a.eval (fR aM i)) w:=h.vals i (by simp[ep,hi])
theorem jw.act{a0 a:k9}{L:Array Bool}{w:ak}(h:jw aM Vs S a0 L a w):a=⟨((aQ a0.tmps.size).map fun t=>a.tmps.getD t ar).toArray,a0.defers⟩:=by
 have h1:=h.size;have h2:=h.defers;obtain⟨tm,df⟩:=a;simp only[] at h1 h2;subst h2;rw[<-h1]
 congr 1
 apply Array.ext
 .simp
 intro i h1 h2;simp[ep,h1]
theorem jw.lits{a0 a:k9}{L:Array Bool}{w:ak}(h:jw aM Vs S a0 L a w)(n:Nat)(hn:a0.tmps.size=n):a=⟨((aQ n).map fun t=>a.tmps.getD t ar).toArray,a0.defers⟩:=hn▸h.act
end
def kO(l:List aj)(i:Nat)(d:aj):l.toArray.getD i d=l.getD i d:=by simp[aY,List.getD]
def ru{P:aL}{o:cI}{ev:bI->aj}{w:ak}{c a b:bI}{t:Bool}(ho:o.op=.pick c a b)(hc:ev c=.bool t):(cu ev o).run P w=.ok (.value (if t then ev a else ev b)) w:=by
 unfold cu;simp only[ho,hc,asBool,qT,Sem.run_pure,jF]
def Yields.acF{P:aL}{o:cI}{ev:bI->aj}{w:ak}{R:aj->ak->Prop}{c b:bI}{A B:Bool}(ho:o.op=.pick c (.const (.bool true)) b)(hc:∀v,ev (.const v)=v)(hA:ev c=.bool A)(hB:A=false->ev b=.bool B)(h:R (.bool (A||B)) w):Yields P o ev w R:=by
 refine .value (ru ho hA) ?_;cases A
 .rw[hB rfl];exact h
 rw[hc];exact h
def Yields.acG{P:aL}{o:cI}{ev:bI->aj}{w:ak}{R:aj->ak->Prop}{c b:bI}{A B:Bool}(ho:o.op=.pick c b (.const (.bool false)))(hc:∀v,ev (.const v)=v)(hA:ev c=.bool A)(hB:A=true->ev b=.bool B)(h:R (.bool (A&&B)) w):Yields P o ev w R:=by
 refine .value (ru ho hA) ?_;cases A
 .rw[hc];exact h
 rw[hB rfl];exact h
abbrev pV(x:aj):Pred:=fun v _ _=>v=x
abbrev pC(c:Bool)(x:aj):Pred:=fun v _ _=>c=true->v=x
def sV{S:ak->Prop}{x:aj}:∀(u:aj) (ds:List aj) (w w':ak),S w->pV x u ds w->Bw w w'->pV x u ds w':=fun _ _ _ _ _ h _=>h
def sC{S:ak->Prop}{c:Bool}{x:aj}:∀(u:aj) (ds:List aj) (w w':ak),S w->pC c x u ds w->Bw w w'->pC c x u ds w':=fun _ _ _ _ _ h _=>h
section
variable{P:aL}{aM:Array cI}{Vs:List Pred}{S:ak->Prop}{o:cI}{ev:bI->aj}{w:ak}{i:Nat}
theorem yv{v:aj}(he:(cu ev o).run P w=.ok (.value v) w)(hp:gh Vs i (match o.dst with|some _=>v|none=>ar) (gi aM ev o.after.toList) w):Yields P o ev w (Post aM ev Vs S i o w):=.value he ⟨hp,.inl (ay _ _)⟩
theorem kS{S:ak->Prop}{Q:aj->List aj->Prop}:∀(u:aj) (ds:List aj) (w w':ak),S w->Q u ds->fX w.heap.size w w'->Q u ds:=fun _ _ _ _ _ h _=>h
theorem tV{p:Prop}(h:p:=by refine yv ?_ rfl;go_simp):p:=h
theorem yO{c b:bI}{A B:Bool}(ho:o.op=.pick c (.const (.bool true)) b)(hc:∀v,ev (.const v)=v)(hA:ev c=.bool A)(hB:A=false->ev b=.bool B)(hp:gh Vs i (match o.dst with | some _=>.bool (A||B) | none=>ar) (gi aM ev o.after.toList) w):Yields P o ev w (Post aM ev Vs S i o w):=.acF ho hc hA hB ⟨hp,.inl (ay _ _)⟩
theorem yA{c b:bI}{A B:Bool}(ho:o.op=.pick c b (.const (.bool false)))(hc:∀v,ev (.const v)=v)(hA:ev c=.bool A)(hB:A=true->ev b=.bool B)(hp:gh Vs i (match o.dst with|some _=>.bool (A&&B)|none=>ar) (gi aM ev o.after.toList) w):Yields P o ev w (Post aM ev Vs S i o w):=.acG ho hc hA hB ⟨hp,.inl (ay _ _)⟩
theorem yc{f:dU}{args:Array aj}{X:aj}(h:a_ P f args w fun e w'=>e=.returned X/\Bw w w')(he:(cu ev o).run P w=.ok (.enter f args) w)(hp:∀w',gh Vs i (match o.dst with|some _=>X|none=>ar) (gi aM ev o.after.toList) w'):Yields P o ev w (Post aM ev Vs S i o w):=
 .call he h (by rintro e w2 ⟨rfl,hb⟩;exact⟨_,rfl,hp _,.inl hb⟩)
theorem yq{f:dU}{args:Array aj}{X:aj}(h:a_ P f args w fun e w'=>e=.returned X/\w=w')(he:(cu ev o).run P w=.ok (.enter f args) w)(hp:∀w',gh Vs i (match o.dst with|some _=>X|none=>ar) (gi aM ev o.after.toList) w'):Yields P o ev w (Post aM ev Vs S i o w):=
 .call he h (by rintro e w2 ⟨rfl,rfl⟩;exact⟨_,rfl,hp _,.inl (ay _ _)⟩)
end
section
variable{A b x:Bool}{val V0 u X:aj}{Y R Z:Prop}{w:ak}
theorem gC(d:val=V0)(l:V0=.bool b↔A=true)(h:A=true->Y):(val=.bool b->Y)/\(val≠.bool b->(A=true->u=X)/\(Bw w w\/Z)):=
 ⟨fun e=>h (l.1 (d.symm.trans e)),fun e=>⟨fun hc=>absurd (d.trans (l.2 hc)) e,.inl (ay _ _)⟩⟩
theorem gN(d:val=.bool x)(hne:(x==b)=false):(val=.bool b->Y)/\(val≠.bool b->True/\(Bw w w\/Z)):=
 ⟨fun e=>absurd (d.symm.trans e) (by intro h;cases h;simp at hne),fun _=>⟨trivial,.inl (ay _ _)⟩⟩
theorem gL(d:val=.bool b)(h:Y):(val=.bool b->Y)/\(val≠.bool b->R):=⟨fun _=>h,fun e=>absurd d e⟩
end
def Yields.ia{P:aL}{o:cI}{ev:bI->aj}{w:ak}{R:aj->ak->Prop}(ty:aZ)(x y:bI)(ho:o.op=.store ty x y)(g:Nat)(cells:Array aj)(hx:ev x=.pointer (some ⟨g,0,none⟩))(hy:ev y=.agg cells)
  (t:aZ) (old:Array aj) (hg:w.heap[g]?=some (.cells old t (0,0))) (hi:(P.info? ty).map (·.size)=some cells.size) (hold:old.size=cells.size) (h1:cells.all (·.oneCell')=true) (h:R ar (w.setRow g cells)):Yields P o ev w R:=by
 refine Yields.skip (w':=w.setRow g cells) ?_ h;unfold cu;simp only[ho,hx,hy,Instr.storeAt,Instr.sureAddr,qT,Sem.run_pure,jF,run_storeVar_row w g t ty old cells hg hi hold h1]
def Yields.zw{P:aL}{o:cI}{ev:bI->aj}{w:ak}{R:aj->ak->Prop}(ty:aZ)(x:bI)(ho:o.op=.load ty x)(g:Nat)(hx:ev x=.pointer (some ⟨g,0,none⟩))(t:aZ)(cs:Array aj)(fr:Nat × Nat)(d:TypeDesc)(hg:w.heap[g]?=some (.cells cs t fr))
  (hu:P.underlying ty=some d) (hd:(match d with|.struct _|.array _ _=>true|_=>false)=true) (hi:(P.info? ty).map (·.size)=some cs.size) (h:R (.agg cs) w):Yields P o ev w R:=by
 refine Yields.value (v:=.agg cs) (w':=w) ?_ h;unfold cu;simp only[ho,hx,Instr.loadAt,Instr.sureAddr,qT,Sem.run_pure,jF,run_loadVar_row w g t ty cs fr d hg hu hd hi]
def wP{P:aL}{aM:Array cI}{Vs:List Pred}{S:ak->Prop}{o:cI}{ev:bI->aj}{w:ak}{i:Nat}(ty:aZ){x:bI}(ho:o.op=.load ty x){g:Nat}(hx:ev x=.pointer (some ⟨g,0,none⟩)){t:aZ}{cs:Array aj}{fr:Nat × Nat}{d:TypeDesc}(hg:w.heap[g]?=some (.cells cs t fr))
  (hu:P.underlying ty=some d) (hd:(match d with|.struct _|.array _ _=>true|_=>false)=true) (hi:(P.info? ty).map (·.size)=some cs.size) (hp:gh Vs i (match o.dst with|some _=>.agg cs|none=>ar) (gi aM ev o.after.toList) w):Yields P o ev w (Post aM ev Vs S i o w):=
 Yields.zw ty x ho g hx t cs fr d hg hu hd hi ⟨hp,.inl (ay _ _)⟩
namespace Gd
section
variable{P:aL}{aM:Array cI}{Q:Exit->k9->ak->Prop}{Vs:List Pred}{S:ak->Prop}{base:List (kG × aj)}{n:Nat}
theorem qj{i:Nat}{o:cI}{e:Edge}(cV:jl aM n base=true)(ho:aM[i]?=some o)(he:e∈o.after.toList)(hb:fE .any e=true):e.on<i:=by
 have hi:i<aM.size:=(ah.1 ho).1;unfold jl at cV;rw[aF,bf] at cV;have h2:=cV.1 i (bQ.2 hi);rw[ho] at h2;simp only[aF] at h2;have h3:=bf.1 h2.1.1 e he;simpa [hb] using h3
theorem QH{L:Array Bool}{i:Nat}(cV:jl aM n base=true)(hlt:i<aM.size)(hL:L.size=aM.size)(hk:∀k,L.getD k false=decide (k<i)):i∈ja .any aM L:=by
 unfold ja;rw[kx];have wQ:aM[i]?=some aM[i]:=aO hlt;refine⟨bQ.2 hlt,?_⟩;have xr:i<L.size:=by omega
 have h1:L.getD i true=false:=by
  have:=hk i;simp[ep,xr] at this ⊢;exact this
 rw[h1,wQ];simp only[Bool.not_false,Bool.true_and,dJ,Option.getD_some];rw[Array.all_eq_true];intro k hk2;cases hb:fE .any aM[i].after[k] with
 |false=>rfl
 |true=>
  have:=qj cV wQ (e:=aM[i].after[k]) (by simp) hb;rw[hk];simp[this]
theorem Xa{L:Array Bool}{i:Nat}(xr:i<L.size)(hk:∀k,L.getD k false=decide (k<i))(k:Nat):(L.setIfInBounds i true).getD k false=decide (k<i+1):=by
 by_cases ye:k=i
 .subst ye;simp[aY,bA,xr]
 have:=hk k;rw[aY,bA,if_neg (xH ye),<-aY,this];simp;omega
theorem yP(cV:jl aM n base=true):∀(m i:Nat) (L:Array Bool) (a:k9) (w:ak),i+m=aM.size->L.size=aM.size->(∀k,L.getD k false=decide (k<i))->anyOf (wpOp P aM Q) aM Q m L a w->wpOps P aM Q (bP i m) a w
 |0,i,L,a,w,hi,hL,hk,h=>h.2
 |m+1,i,L,a,w,hi,hL,hk,h=>by
  show wpOps P aM Q (i::bP (i+1) m) a w;rw[wpOps_cons];exact wpOp_mono (fun a w h=>yP cV m (i+1) _ a w (by omega) (by simpa using hL) (Xa (by omega) hk) h) (h.2 i (QH cV (by omega) hL hk))
def NK(n i:Nat):Array Bool:=((aQ n).map fun k=>decide (k<i)).toArray
theorem zv(n i k:Nat)(hi:i<=n):(NK n i).getD k false=decide (k<i):=by
 unfold NK;rw[aY]
 by_cases hk:k<n
 .simp[hk]
 have:¬k<i:=by omega
 simp[hk,this]
theorem Iy{a0:k9}{w:ak}(i m:Nat)(him:i+m=aM.size)(Vs:List Pred)(S:ak->Prop)(base:List (kG × aj))(cV:jl aM n base=true)(hn:a0.tmps.size=n)(ES:jC S Vs)(HV:∀w w',S w->Bw w w'->S w')
  (hS:S w) (hbase:gp a0.eval base) (Xw:∀k,k<i->gh Vs k (jc (d_ aM k) a0.eval) (gi aM a0.eval (fR aM k)) w) (hE:Each (Yields P) aM Vs S base i (aM.toList.drop i)) (hQ:∀a w,jw aM Vs S a0 (bz aM.size true) a w->Q .normal a w):wpOps P aM Q (bP i m) a0 w:=by
 refine yP cV m i (NK aM.size i) a0 w him (by simp[NK]) (fun k=>zv _ _ _ (by omega)) ?_
 refine Al (Y:=Yields P) (fun i o K a w R ho hw hy hk=>wpOp_step ho fun K' hK=>by rw[if_pos hw];exact hy.wp fun v w' hv=>hK _ _ (hk v w' hv))
  (fun i o K a w ho hw hk=>wpOp_step ho fun K' hK=>by rw[if_neg hw];exact hK _ _ hk) cV ES HV a0 hn hbase i (fun j o hj h=>by
   have:=hE.get (j:=j-i) (o:=o) (by rw[List.getElem?_drop,show i+(j-i)=j by omega];simpa using h)
   rwa [show i+(j-i)=j by omega] at this) hQ m _ a0 _ ?_ (fun k hk=>by rw[zv _ _ _ (by omega)];simpa using hk) ⟨by simp[NK],rfl,rfl,hS,fun _ _=>rfl,fun k e hk he hb=>?_,fun k hk=>?_⟩
 .have e:(NK aM.size i).toList=(aQ i).map (fun _=>true)++(bP i m).map fun _=>false:=by
   unfold NK;simp only
   have:aQ aM.size=aQ i++bP i m:=by
    rw[m5,m5,<-him,<-List.range'_append_1,cO]
   rw[this,eG]
   congr 1
   .apply F7;intro k hk;simpa using hk
   apply F7;intro k hk;have:=(List.mem_range'_1.1 hk).1;simp;omega
  rw[e,List.countP_append]
  have h1:((aQ i).map fun _=>true).countP (!·)=0:=by
   rw[List.countP_eq_zero];intro x hx;simp at hx;simp[hx.2]
  have h2:=xI (p:=(!·)) (l:=(bP i m).map fun _=>false);simp only[List.length_map,List.length_range'] at h2;omega
 .rw[zv _ _ _ (by omega)] at hk ⊢;have ye:k<i:=by simpa using hk
  unfold fR at he;have hko:aM[k]?=some aM[k]:=aO (by omega);rw[hko] at he;have:=qj cV hko he hb;simp;omega
 rw[zv _ _ _ (by omega)] at hk;exact Xw k (by simpa using hk)
theorem Iz{id:Nat}{a0:k9}{w:ak}(Vs:List Pred)(S:ak->Prop)(base:List (kG × aj))(cV:jl aM n base=true)(hn:a0.tmps.size=n)(ES:jC S Vs)(HV:∀w w',S w->Bw w w'->S w')
  (hS:S w) (hbase:gp a0.eval base) (hE:Each (Yields P) aM Vs S base 0 aM.toList) (hQ:∀a w,jw aM Vs S a0 (bz aM.size true) a w->Q .normal a w):(Code.region id aM false).wp P Q a0 w:=by
 refine wp_region ?_;rw[m5];exact Iy 0 aM.size (by omega) Vs S base cV hn ES HV hS hbase (fun k hk=>by omega) hE hQ
end
end Gd
structure ik(n:Nat)(a:k9)(l:List (kG × aj)):Prop where
 size:a.tmps.size=n
 defers:a.defers=[]
 base:gp a.eval l
def jw.fr{aM:Array cI}{Vs:List Pred}{S:ak->Prop}{a0 a:k9}{L:Array Bool}{w:ak}{n:Nat}{l:List (kG × aj)}(h:jw aM Vs S a0 L a w)(h0:ik n a0 l)(hk:(l.all fun p=>keeps aM p.1)=true:=by kernel_rfl):ik n a l:=
 ⟨h.size.trans h0.size,h.defers.trans h0.defers,h0.base.congr fun p hp=>h.keep p.1 fun o ho=>by
  have h1:=bf.1 hk p hp;have:=bf.1 h1 o ho
  simpa using this⟩
def ik.g{n:Nat}{a:k9}{l:List (kG × aj)}(h:ik n a l)(k:Nat){t:kG}{v:aj}(hk:l[k]?=some (t,v)):a.eval (.tmp t)=v:=by
 have h1:=h.base;clear h
 induction l generalizing k with
 |nil=>simp at hk
 |cons p l ih=>cases k with
  |zero=>cases hk;exact h1.1
  |succ k=>exact ih k (by simpa using hk) h1.2
def WA:Op->Bool
 |.call c=>match c.callee with|.builtin _=>true|_=>false
 |.load ..=>false
 |_=>true
def yw{P:aL}{aM:Array cI}{Vs:List Pred}{S:ak->Prop}{o:cI}{ev:bI->aj}{w:ak}{i:Nat}{v:aj}(hq:WA o.op=true)(he:(cu ev o).run P w=.ok (.value v) w)(hp:gh Vs i (match o.dst with|some _=>v|none=>ar) (gi aM ev o.after.toList) w):Yields P o ev w (Post aM ev Vs S i o w):=yv he hp
def jn(t:kG):List (kG × aj)->List (kG × aj)
 |[]=>[]
 |p::l=>if p.1=t then l else p::jn t l
def ik.del{n:Nat}{a:k9}{l:List (kG × aj)}(h:ik n a l)(t:kG):ik n a (jn t l):=⟨h.size,h.defers,by
 have h1:=h.base;clear h
 induction l with
 |nil=>trivial
 |cons p l ih=>
  unfold jn;split
  .exact h1.2
  exact⟨h1.1,ih h1.2⟩⟩
def ik.tl{n:Nat}{a:k9}{p:kG × aj}{l:List (kG × aj)}(h:ik n a (p::l)):ik n a l:=⟨h.size,h.defers,h.base.2⟩
def ik.put{n:Nat}{a:k9}{l:List (kG × aj)}(h:ik n a l)(d:kG)(v:aj)(hk:(l.all fun p=>!Nat.beq p.1 d)=true):ik n (a.put (some d) v) l:=
 ⟨(ze _ _ _).trans h.size,(put_defers _ _ _).trans h.defers,h.base.congr fun p hp=>tS _ _ _ _ fun e=>by
  have h1:=bf.1 hk p hp;cases e
  simp at h1⟩
def ik.cons{n:Nat}{a:k9}{l:List (kG × aj)}(h:ik n a l){t:kG}{v:aj}(hv:a.eval (.tmp t)=v):ik n a ((t,v)::l):=⟨h.size,h.defers,hv,h.base⟩
section
variable{P:aL}{aM:Array cI}{Q:Exit->k9->ak->Prop}{n:Nat}
end
namespace Ph
open Go Go.RowKit
abbrev Ls:=Nat->Bool
def upd(L:Ls)(i:Nat):Ls:=fun t=>if t=i then true else L t
def needs(aM:Array cI)(i t:Nat):Bool:=(fR aM t).any fun e=>fE .any e&&decide (e.on=i)
def yI(L:Ls)(ev:bI->aj):List (Nat × kG × aj)->Prop
 |[]=>True
 |(i,t,v)::l=>(L i=false->ev (.tmp t)=v)/\yI L ev l
def J4(aM:Array cI)(ev:bI->aj):List (Nat × kG × aj)->Prop
 |[]=>True
 |(i,t,v)::l=>(d_ aM i=some t/\ev (.tmp t)=v)/\J4 aM ev l
def Iu(L:Ls)(ev:bI->aj)(late:List (Nat × kG × aj)):List (kG × aj)->Prop
 |[]=>yI L ev late
 |(t,v)::l=>ev (.tmp t)=v/\Iu L ev late l
def Iu.of{L:Ls}{ev:bI->aj}{late:List (Nat × kG × aj)}(h2:yI L ev late):∀ {base:List (kG × aj)},gp ev base->Iu L ev late base
 |[],_=>h2
 |(_,_)::_,h=>⟨h.1,Iu.of h2 h.2⟩
def yI.of{aM:Array cI}{L:Ls}{ev E8:bI->aj}(hk:∀i d,d_ aM i=some d->L i=false->E8 (.tmp d)=ev (.tmp d)):∀ {late:List (Nat × kG × aj)},J4 aM ev late->yI L E8 late
 |[],_=>trivial
 |(_,_,_)::_,h=>⟨fun e=>(hk _ _ h.1.1 e).trans h.1.2,yI.of hk h.2⟩
def Post(L:Ls)(aM:Array cI)(ev:bI->aj)(Vs:List Pred)(S:Ls->ak->Prop)(i:Nat)(o:cI)(w:ak)(v:aj)(w':ak):Prop:=
 gh Vs i (match o.dst with|some _=>v|none=>ar) (gi aM ev o.after.toList) w'/\(Bw w w'\/(S (upd L i) w'/\∀k u ds,k≠i->L k=true->gh Vs k u ds w->gh Vs k u ds w'))
def yv{P:aL}{L:Ls}{aM:Array cI}{Vs:List Pred}{S:Ls->ak->Prop}{o:cI}{ev:bI->aj}{w:ak}{i:Nat}{v:aj}(he:(cu ev o).run P w=.ok (.value v) w)(hp:gh Vs i (match o.dst with|some _=>v|none=>ar) (gi aM ev o.after.toList) w):Yields P o ev w (Post L aM ev Vs S i o w):=.value he ⟨hp,.inl (ay _ _)⟩
def tV{p:Prop}(h:p:=by refine Ph.yv ?_ rfl;go_simp):p:=h
def kS{S:Ls->ak->Prop}{Q:aj->List aj->Prop}:∀(u:aj) (ds:List aj) (L:Ls) (w w':ak),S L w->Q u ds->fX w.heap.size w w'->Q u ds:=fun _ _ _ _ _ _ h _=>h
def sV{S:Ls->ak->Prop}{x:aj}:∀(u:aj) (ds:List aj) (L:Ls) (w w':ak),S L w->pV x u ds w->Bw w w'->pV x u ds w':=fun _ _ _ _ _ _ h _=>h
def sC{S:Ls->ak->Prop}{c:Bool}{x:aj}:∀(u:aj) (ds:List aj) (L:Ls) (w w':ak),S L w->pC c x u ds w->Bw w w'->pC c x u ds w':=fun _ _ _ _ _ _ h _=>h
def Qa(Y:mL)(aM:Array cI)(Vs:List Pred)(S:Ls->ak->Prop)(base:List (kG × aj))(late:List (Nat × kG × aj))(i:Nat)(o:cI):Prop:=
 ∀(L:Ls) (ev:bI->aj) (w:ak),(∀t,needs aM i t=true->L t=false)->L i=false->S L w->(∀v,ev (.const v)=v)->(∀g,ev (.global g)=.pointer (some ⟨g,0,none⟩))->(∀f,ev (.func f)=.func (.func f) #[] #[])->Iu L ev late base->FT aM Vs ev w o.after.toList->
  match o.guard with
  |none=>Y o ev w (Post L aM ev Vs S i o w)
  |some (j,b)=>(∃r,jc (d_ aM j) ev=.bool r)/\∀r,jc (d_ aM j) ev=.bool r->if r=b then Y o ev w (Post L aM ev Vs S i o w) else Post L aM ev Vs S i o w ar w
def Each(Y:mL)(aM:Array cI)(Vs:List Pred)(S:Ls->ak->Prop)(base:List (kG × aj))(late:List (Nat × kG × aj)):Nat->List cI->Prop
 |_,[]=>True
 |i,o::l=>Qa Y aM Vs S base late i o/\Each Y aM Vs S base late (i+1) l
def jC(S:Ls->ak->Prop):List Pred->Prop
 |[]=>True
 |V::l=>(∀u ds L w w',S L w->V u ds w->Bw w w'->V u ds w')/\jC S l
section
variable{P:aL}{aM:Array cI}{Q:Exit->k9->ak->Prop}{Vs:List Pred}{S:Ls->ak->Prop}{base:List (kG × aj)}{late:List (Nat × kG × aj)}{n:Nat}
theorem Each.get{Y:mL}{i:Nat}{l:List cI}(h:Each Y aM Vs S base late i l){j:Nat}{o:cI}(hj:l[j]?=some o):Qa Y aM Vs S base late (i+j) o:=by
 induction l generalizing i j with
 |nil=>simp at hj
 |cons x l ih=>
  cases j with
  |zero=>simp at hj;subst hj;exact h.1
  |succ j=>have:=ih h.2 (j:=j) (by simpa using hj);rwa [qV,Nat.add_comm 1 j] at this
theorem jC.get(h:jC S Vs)(i:Nat){L:Ls}{u:aj}{ds:List aj}{w w':ak}(hS:S L w)(hb:Bw w w')(hv:gh Vs i u ds w):gh Vs i u ds w':=by
 induction Vs generalizing i with
 |nil=>trivial
 |cons V l ih=>
  cases i with
  |zero=>exact h.1 u ds L w w' hS hv hb
  |succ i=>exact ih h.2 i hv
structure jw(aM:Array cI)(Vs:List Pred)(S:Ls->ak->Prop)(a0:k9)(L:Array Bool)(a:k9)(w:ak):Prop where
 uA:L.size=aM.size
 size:a.tmps.size=a0.tmps.size
 defers:a.defers=a0.defers
 s:S (fun t=>L.getD t false) w
 keep:∀t,(∀o∈aM.toList,o.dst≠some t)->a.eval (.tmp t)=a0.eval (.tmp t)
 late:∀i d,d_ aM i=some d->L.getD i false=false->a.eval (.tmp d)=a0.eval (.tmp d)
 closed:∀i e,L.getD i false=true->e∈fR aM i->fE .any e=true->L.getD e.on false=true
 vals:∀i,L.getD i false=true->gh Vs i (jc (d_ aM i) a.eval) (gi aM a.eval (fR aM i)) w
theorem Al{Y:mL}{nO:Nat->(k9->ak->Prop)->k9->ak->Prop}
  (hs1:∀i o K a w R,aM[i]?=some o->cL o (j8 aM a.tmps)=true->Y o a.eval w R->(∀v w',R v w'->K (a.put o.dst v) w')->nO i K a w)
  (hs2:∀i o K a w,aM[i]?=some o->¬cL o (j8 aM a.tmps)=true->K (a.put o.dst ar) w->nO i K a w)
  (cV:jl aM n base=true) (ES:jC S Vs) (HV:∀(L L':Ls) w w',(∀t,L' t=false->L t=false)->S L w->Bw w w'->S L' w') (a0:k9) (hn:a0.tmps.size=n) (hbase:gp a0.eval base) (hlate:J4 aM a0.eval late) (hE:Each Y aM Vs S base late 0 aM.toList)
  (hQ:∀a w,jw aM Vs S a0 (bz aM.size true) a w->Q .normal a w) :
  ∀fuel (L:Array Bool) (a:k9) (w:ak),L.toList.countP (!·)<=fuel->jw aM Vs S a0 L a w->anyOf nO aM Q fuel L a w:=by
 have ahA:∀(L:Array Bool) (a:k9) (w:ak),ja .any aM L=[]->jw aM Vs S a0 L a w->S (fun t=>(bz aM.size true).getD t false) w:=fun L a w hr h=>
  HV _ _ w w (fun t ht=>by
   by_cases hlt:t<aM.size
   .simp[ep,hlt] at ht
   have:¬t<L.size:=by have:=h.uA;omega
   simp[ep,this]) h.s (ay _ _)
 have fin:∀(L:Array Bool) (a:k9) (w:ak),ja .any aM L=[]->jw aM Vs S a0 L a w->Q .normal a w:=fun L a w hr h=>
  hQ a w ⟨by simp,h.size,h.defers,ahA L a w hr h,h.keep,fun i d hd hi=>by
   by_cases hlt:i<aM.size
   .simp[ep,hlt] at hi
   .unfold d_ at hd;rw[fF (by omega)] at hd;simp at hd,fun i e hi he hb=>by
   have hlt:e.on<aM.size:=MF cV he hb;simp[ep,hlt],fun i hi=>by
   by_cases hlt:i<aM.size
   .exact h.vals i (ready_nil cV h.uA hr i hlt)
   simp[ep,hlt] at hi⟩
 intro fuel
 induction fuel with
 |zero=>
  intro L a w hc h
  have hr:ja .any aM L=[]:=by
   apply List.eq_nil_iff_forall_not_mem.2;intro i hi;unfold ja at hi;rw[kx,bQ] at hi;obtain⟨hi,h2⟩:=hi;have xr:i<L.size:=by have:=h.uA;omega
   simp[ep,xr] at h2;have h0:=List.countP_eq_zero.1 (Nat.le_zero.1 hc) L[i] (by simp);simp[h2.1] at h0
  exact⟨hr,fin L a w hr h⟩
 |succ fuel ih=>
  intro L a w hc h;refine⟨fun hr=>fin L a w hr h,fun i hi=>?_⟩;have hi':=hi;unfold ja at hi';rw[kx,bQ] at hi';obtain⟨hlt,h2⟩:=hi';have xr:i<L.size:=by have:=h.uA;omega
  have wQ:aM[i]?=some aM[i]:=aO hlt;generalize aM[i]=o at wQ;rw[wQ] at h2;simp only[aF,Bool.not_eq_true',dJ,Option.getD_some,Array.all_eq_true] at h2;obtain⟨UD,Uu⟩:=h2
  have SJ:o∈aM.toList:=by
   have:=eV wQ;simpa using this
  have rY:=cV;unfold jl at rY;rw[aF,bf,bf] at rY;have CV:=rY.1 i (bQ.2 hlt);rw[wQ] at CV;simp only[aF] at CV;obtain⟨⟨aaL,uQ⟩,aar⟩:=CV
  have UG:FT aM Vs a.eval w o.after.toList:=FT.of fun e he hb=>by
   obtain⟨k,hk,rfl⟩:=fZ he;have:=Uu k (by simpa using hk);simp only[ri] at hb ⊢;rw[hb] at this;simp only[Bool.not_true,Bool.false_or] at this;exact h.vals _ this
  have hBs:gp a.eval base:=hbase.congr fun p hp=>h.keep _ fun o' ho' hd=>by
   obtain⟨k,hk,rfl⟩:=fZ ho';have qY:k<aM.size:=by simpa using hk
   have h3:=rY.1 k (bQ.2 qY);rw[aO qY] at h3;simp only[ri] at hd;simp only[aF,hd] at h3;have:=bf.1 h3.1.2.1.2 p hp;simp at this
  have ad9:(fun t=>L.getD t false) i=false:=by
   simp[ep,xr] at UD ⊢;exact UD
  have adB:∀t,needs aM i t=true->L.getD t false=false:=fun t ht=>by
   cases hq:L.getD t false with
   |false=>rfl
   |true=>
    unfold needs at ht;obtain⟨e,he,h8⟩:=List.any_eq_true.1 ht;rw[aF,decide_eq_true_eq] at h8;have h9:=h.closed t e hq he h8.1;rw[h8.2] at h9;have h10:L.getD i false=false:=ad9;rw[h10] at h9;cases h9
  have hO:=hE.get (j:=i) (o:=o) (by simpa using wQ) (fun t=>L.getD t false) a.eval w (by rw[cO];exact adB) (by rw[cO];exact ad9) h.s (fun _=>rfl) (fun _=>rfl) (fun _=>rfl) (Iu.of (yI.of (fun k d hd hk=>h.late k d hd hk) hlate) hBs) UG;rw[cO] at hO;have hao:fR aM i=o.after.toList:=by unfold fR;rw[wQ]
  have Lx:∀e∈o.after.toList,fE .any e=true->L.getD e.on false=true:=fun e he hb=>by
   obtain⟨k,hk,rfl⟩:=fZ he;have:=Uu k (by simpa using hk);simp only[ri] at hb ⊢;rw[hb] at this;simpa using this
  have hne:∀k,L.getD k false=true->k≠i/\k<aM.size:=fun k hk=>by
   refine⟨fun e=>?_,?_⟩
   .subst e;simp[ep,xr] at UD hk;rw[UD] at hk;cases hk
   rcases Nat.lt_or_ge k aM.size with h5|h5
   .exact h5
   have:¬k<L.size:=by have:=h.uA;omega
   simp[ep,this] at hk
  have next:∀v w',Post (fun t=>L.getD t false) aM a.eval Vs S i o w v w'->anyOf nO aM Q fuel (L.setIfInBounds i true) (a.put o.dst v) w':=fun v w' hp=>by
   have hval:∀k,L.getD k false=true->jc (d_ aM k) (a.put o.dst v).eval=jc (d_ aM k) a.eval:=fun k qY=>by
    obtain⟨ye,wD⟩:=hne k qY;cases MW:d_ aM k with
    |none=>rfl
    |some d=>
     refine tS _ _ _ _ fun YL=>?_;rcases Nat.lt_trichotomy k i with h5|h5|h5
     .rw[YL] at uQ;simp only[aF,decide_eq_true_eq] at uQ;have:=bf.1 uQ.2 k (bQ.2 h5);simp[MW] at this
     .exact ye h5
     have h6:=rY.1 k (bQ.2 wD);rw[aO wD] at h6
     have h7:(aM[k]).dst=some d:=by
      unfold d_ at MW;rw[aO wD] at MW;simpa using MW
     simp only[aF,h7] at h6;have:=bf.1 h6.1.2.2 i (bQ.2 h5);unfold d_ at this;rw[wQ] at this;simp[YL] at this
   have uN:∀k,L.getD k false=true->(L.setIfInBounds i true).getD k false=true:=fun k hk=>by
    have:=(hne k hk).1;simpa [aY,bA,xH this] using hk
   have hback:∀k,k≠i->(L.setIfInBounds i true).getD k false=true->L.getD k false=true:=fun k ye hk=>by
    simpa [aY,bA,xH ye] using hk
   refine ih _ _ _ ?_ ⟨by simp[h.uA],by rw[ze,h.size],by rw[put_defers,h.defers],?_,fun t ht=>?_,fun k d hd hk=>?_,fun k e hk he hb=>?_,fun k hk=>?_⟩
   .have hLv:L[i]=false:=by simpa [ep,xr] using UD
    have h4:(L.setIfInBounds i true).toList.countP (!·)=L.toList.countP (!·)-1:=by
     rw[Array.toList_setIfInBounds,List.countP_set (by simpa using xr)];simp[hLv]
    omega
   .have hup:(fun t=>(L.setIfInBounds i true).getD t false)=upd (fun t=>L.getD t false) i:=by
     funext t
     unfold upd
     by_cases ht:t=i
     .subst ht;simp[aY,bA,xr]
     simp[aY,bA,xH ht,ht]
    rw[hup]
    exact hp.2.elim (fun hb=>HV _ _ _ _ (fun t ht=>by
     unfold upd at ht;split at ht
     .cases ht
     exact ht) h.s hb) fun hs=>hs.1
   .rw[tS _ _ _ _ (ht o SJ)];exact h.keep t ht
   .have ye:k≠i:=by
     rintro rfl;simp[aY,bA,xr] at hk
    have hkL:L.getD k false=false:=by
     simpa [aY,bA,xH ye] using hk
    have wD:k<aM.size:=by
     rcases Nat.lt_or_ge k aM.size with h5|h5
     .exact h5
     unfold d_ at hd;rw[fF h5] at hd;simp at hd
    rw[tS _ _ _ _ fun YL=>?_]
    .exact h.late k d hd hkL
    rcases Nat.lt_trichotomy k i with h5|h5|h5
    .rw[YL] at uQ;simp only[aF,decide_eq_true_eq] at uQ;have:=bf.1 uQ.2 k (bQ.2 h5);simp[hd] at this
    .exact ye h5
    have h6:=rY.1 k (bQ.2 wD);rw[aO wD] at h6
    have h7:(aM[k]).dst=some d:=by
     unfold d_ at hd;rw[aO wD] at hd;simpa using hd
    simp only[aF,h7] at h6;have:=bf.1 h6.1.2.2 i (bQ.2 h5);unfold d_ at this;rw[wQ] at this;simp[YL] at this
   .by_cases ye:k=i
    .subst ye;rw[hao] at he;exact uN _ (Lx e he hb)
    exact uN _ (h.closed k e (hback k ye hk) he hb)
   by_cases ye:k=i
   .subst ye
    have hdd:gi aM (a.put o.dst v).eval (fR aM k)=gi aM a.eval o.after.toList:=by
     rw[hao];exact pS fun e he hb=>hval _ (Lx e he hb)
    rw[hdd];have:=hp.1;unfold d_ jc;rw[wQ];simp only[gI];cases hd:o.dst with
    |none=>rw[hd] at this;exact this
    |some d=>
     rw[hd] at this uQ;simp only[aF,decide_eq_true_eq] at uQ;have h9:=put_eq a d v (by rw[h.size,hn];exact uQ.1.1);simp only[] at this ⊢;rw[h9];exact this
   have qY:=hback k ye hk;have ZZ:=h.vals k qY;have hdd:gi aM (a.put o.dst v).eval (fR aM k)=gi aM a.eval (fR aM k):=pS fun e he hb=>hval _ (h.closed k e qY he hb);rw[hval k qY,hdd];exact hp.2.elim (fun hb=>ES.get k h.s hb ZZ) fun hs=>hs.2 k _ _ ye qY ZZ
  cases hg:o.guard with
  |none=>
   rw[hg] at hO;exact hs1 i o _ a w _ wQ (by simp[cL,hg]) hO next
  |some jb=>
   obtain⟨j,b⟩:=jb;rw[hg] at hO;obtain⟨⟨r,hr⟩,hO⟩:=hO;have hO:=hO r hr
   have hy:j8 aM a.tmps j=some r:=by
    unfold j8;unfold jc at hr;unfold d_ at hr;cases hd:(aM[j]?).bind (·.dst) with
    |none=>rw[hd] at hr;simp[ar] at hr
    |some d=>
     rw[hd] at hr;simp only[gI]
     have h8:a.tmps[d]?=some (.bool r):=by
      unfold Act.eval at hr;simp only[] at hr
      by_cases CW:d<a.tmps.size
      .simp[ep,CW] at hr;rw[aO CW,hr]
      simp[ep,CW,ar] at hr
     rw[h8]
   by_cases hrb:r=b
   .rw[if_pos hrb] at hO;exact hs1 i o _ a w _ wQ (by simp[cL,hg,hy,hrb]) hO next
   rw[if_neg hrb] at hO;exact hs2 i o _ a w wQ (by simp[cL,hg,hy,hrb]) (next _ _ hO)
theorem xR{a0:k9}{w:ak}(hS:S (fun t=>(bz aM.size false).getD t false) w):jw aM Vs S a0 (bz aM.size false) a0 w:=⟨by simp,rfl,rfl,hS,fun _ _=>rfl,fun _ _ _ _=>rfl,fun i e hi _ _=>by
  simp[aY,qW] at hi;split at hi<;>simp at hi,fun i hi=>by
  simp[aY,qW] at hi
  split at hi<;>simp at hi⟩
theorem vJ:(bz aM.size false).toList.countP (!·)<=aM.size:=by simpa using xI (p:=(!·)) (l:=List.replicate aM.size false)
theorem vd{id:Nat}{a0:k9}{w:ak}(hm:P.follows .mixedOrders=true)(Vs:List Pred)(S:Ls->ak->Prop)(base:List (kG × aj))(cV:jl aM a0.tmps.size base=true)(ES:jC S Vs)(HV:∀(L L':Ls) w w',(∀t,L' t=false->L t=false)->S L w->Bw w w'->S L' w')
  (hS:S (fun _=>false) w.drew) (hbase:gp a0.eval base) (hlate:J4 aM a0.eval late) (hE:Each (Yields P) aM Vs S base late 0 aM.toList) (hQ:∀a w,jw aM Vs S a0 (bz aM.size true) a w->Q .normal a w):(Code.region id aM true).wp P Q a0 w:=
 wp_region_any hm (by
  rw[Du]
  exact Al (Y:=Yields P) (fun i o K a w R ho hw hy hk=>wpOp_step ho fun K' hK=>by rw[if_pos hw];exact hy.wp fun v w' hv=>hK _ _ (hk v w' hv))
   (fun i o K a w ho hw hk=>wpOp_step ho fun K' hK=>by rw[if_neg hw];exact hK _ _ hk) cV ES HV a0 rfl hbase hlate hE hQ aM.size _ a0 _ vJ (xR (by
   have e:(fun t=>(bz aM.size false).getD t false)=fun _=>false:=by
    funext t
    simp[aY,qW];split<;>simp
   rw[e];exact hS)))
theorem cj{id:Nat}{a0:k9}{w:ak}(hm:P.follows .mixedOrders=true)(Vs:List Pred)(S:Ls->ak->Prop)(base:List (kG × aj))(cV:jl aM a0.tmps.size base=true)(ES:jC S Vs)(HV:∀(L L':Ls) w w',(∀t,L' t=false->L t=false)->S L w->Bw w w'->S L' w')
  (hS:S (fun _=>false) w.drew) (hbase:gp a0.eval base) (hE:Each (Yields P) aM Vs S base [] 0 aM.toList) (hQ:∀a w,jw aM Vs S a0 (bz aM.size true) a w->Q .normal a w):(Code.region id aM true).wp P Q a0 w:=
 vd (late:=[]) hm Vs S base cV ES HV hS hbase trivial hE hQ
theorem jw.kept{a0 a:k9}{L:Array Bool}{w:ak}(h:jw aM Vs S a0 L a w){t:kG}(hk:keeps aM t=true):a.tmps.getD t ar=a0.tmps.getD t undef:=
 h.keep t fun o ho=>by
  have:=bf.1 hk o ho;simpa using this
theorem jw.kp{a0 a:k9}{L:Array Bool}{w:ak}(h:jw aM Vs S a0 L a w)(t:kG)(hk:keeps aM t=true:=by kernel_rfl):a.tmps.getD t ar=a0.tmps.getD t undef:=h.kept hk
theorem jw.val{a0 a:k9}{w:ak}(h:jw aM Vs S a0 (bz aM.size true) a w)(i:Nat)(hi:i<aM.size:=by decide):gh Vs i (jc (d_ aM i) a.eval) (gi aM a.eval (fR aM i)) w:=h.vals i (by simp[ep,hi])
theorem jw.act{a0 a:k9}{L:Array Bool}{w:ak}(h:jw aM Vs S a0 L a w):a=⟨((aQ a0.tmps.size).map fun t=>a.tmps.getD t ar).toArray,a0.defers⟩:=by
 have h1:=h.size;have h2:=h.defers;obtain⟨tm,df⟩:=a;simp only[] at h1 h2;subst h2;rw[<-h1]
 congr 1
 apply Array.ext
 .simp
 intro i h1 h2;simp[ep,h1]
theorem jw.lits{a0 a:k9}{L:Array Bool}{w:ak}(h:jw aM Vs S a0 L a w)(n:Nat)(hn:a0.tmps.size=n):a=⟨((aQ n).map fun t=>a.tmps.getD t ar).toArray,a0.defers⟩:=hn▸h.act
end
end Ph
def M4(c:Bool)(v:aj):Value:=if c then v else ar
def yE{x:Bool}:((.bool x:aj)=.bool true)↔x=true:=by simp
def mE{x:Bool}:((.bool x:aj)=.bool false)↔(!x)=true:=by cases x<;>simp
end Go.Lag
namespace Go.RowKit
def Below.tr{w W W':ak}(h:Bw w W)(ho:Bw W W'):Bw w W':=h.trans (ho.mono h.size)
end Go.RowKit
namespace Go.Lag
open Go Go.RowKit
def aw{W W':ak}{B:Nat}{o:Obj}(h:W.heap[B]?=some o)(ho:Bw W W'):W'.heap[B]?=some o:=(ho.block _ (ah.1 h).1).trans h
section
variable{P:aL}{aM:Array cI}{Q:Exit->k9->ak->Prop}{n:Nat}
theorem nV{id:Nat}{y:Code}{a0:k9}{W:ak}(Vs:List Pred)(base:List (kG × aj))(cV:jl aM n base=true)(hn:a0.tmps.size=n)(hbase:gp a0.eval base)(ES:jC (fun w=>Bw W w) Vs)
  (hE:Gd.Each (Yields P) aM Vs (fun w=>Bw W w) base 0 aM.toList) (hy:∀a w,jw aM Vs (fun w=>Bw W w) a0 (bz aM.size true) a w->y.wp P Q a w):(Code.seq (.region id aM false) y).wp P Q a0 W:=
 wp_seq (Gd.Iz Vs (fun w=>Bw W w) base cV hn ES (fun _ _ h hb=>h.trans (hb.mono h.size)) (ay _ _) hbase hE fun a w h=>hy a w h)
theorem Cv(hm:P.follows .mixedOrders=true){id:Nat}{y:Code}{a0:k9}{W:ak}(Vs:List Pred)(base:List (kG × aj))(cV:jl aM n base=true)(hn:a0.tmps.size=n)(hbase:gp a0.eval base)(ES:jC (fun w=>Bw W w) Vs)
  (hE:Gd.Each (Yields P) aM Vs (fun w=>Bw W w) base 0 aM.toList) (hy:∀a w,jw aM Vs (fun w=>Bw W w) a0 (bz aM.size true) a w->y.wp P Q a w):(Code.seq (.region id aM true) y).wp P Q a0 W:=
 wp_seq (Gd.cj hm Vs (fun w=>Bw W w) base (by rw[hn];exact cV) ES (fun _ _ h hb=>h.trans (hb.mono h.size)) (ay _ _).drew hbase hE fun a w h=>hy a w h)
theorem aeA(hm:P.follows .mixedOrders=true){id:Nat}{a0:k9}{W:ak}(Vs:List Pred)(base:List (kG × aj))(cV:jl aM n base=true)(hn:a0.tmps.size=n)(hbase:gp a0.eval base)(ES:jC (fun w=>Bw W w) Vs)
  (hE:Gd.Each (Yields P) aM Vs (fun w=>Bw W w) base 0 aM.toList) (hy:∀a w,jw aM Vs (fun w=>Bw W w) a0 (bz aM.size true) a w->Q .normal a w):(Code.region id aM true).wp P Q a0 W:=
 Gd.cj hm Vs (fun w=>Bw W w) base (by rw[hn];exact cV) ES (fun _ _ h hb=>h.trans (hb.mono h.size)) (ay _ _).drew hbase hE fun a w h=>hy a w h
theorem iL{args:Array aj}{k t:Nat}{v:aj}(h:args[t]?=some v):(⟨args++bz k ar,[]⟩:k9).eval (.tmp t)=v:=by
 have hl:=(ah.1 h).1;unfold Act.eval;simp only[aY];rw[Array.getElem?_append_left hl,h];rfl
theorem EZ{args:Array aj}{n:Nat}(hn:args.size<=n)(l:List (kG × aj))(h:gp (⟨args++bz (n-args.size) ar,[]⟩:k9).eval l):ik n ⟨args++bz (n-args.size) ar,[]⟩ l:=⟨by simp;omega,rfl,h⟩
theorem jV{P:aL}{fn:Func}{c:Code}{f:dU}{args:Array aj}{w:ak}{R:Ending->ak->Prop}(hf:P.funcs[f]?=some fn)(hb:fn.body=some c){n:Nat}(hn:fn.ntmps=n)(l:List (kG × aj))(hl:gp (⟨args++bz (n-args.size) ar,[]⟩:k9).eval l)(h:∀a W,ik n a l->Bw w W->c.wp P (bodyPost P fn R) a W)(hs:args.size<=n:=by simp):a_ P f args w R:=
 calls_of_wp hf hb (by rw[hn];exact h _ w (EZ hs l hl) (ay _ _))
theorem kP{P:aL}{fn:Func}{c:Code}{f:dU}{args:Array aj}{w:ak}{R:Ending->ak->Prop}(hf:P.funcs[f]?=some fn)(hb:fn.body=some c){n:Nat}(hn:fn.ntmps=n)(l:List (kG × aj))(hl:gp (⟨args++bz (n-args.size) ar,[]⟩:k9).eval l)(h:∀a,ik n a l->c.wp P (bodyPost P fn R) a w)(hs:args.size<=n:=by simp):a_ P f args w R:=
 calls_of_wp hf hb (by rw[hn];exact h _ (EZ hs l hl))
end
end Go.Lag
