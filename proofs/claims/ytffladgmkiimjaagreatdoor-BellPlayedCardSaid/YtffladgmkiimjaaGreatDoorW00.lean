/- THE BELL IN PLAIN LEAN: a book's numbers, plans by bits, the air minut .. -/
import Derived.WalkKit
import Derived.Test.YtffladgmkiimjaaGreatDoorProg
import Derived.Lib.Hide
import Derived.Outline
import Derived.Deep.RegionHeld3
import Derived.RangeFuncRecord
import Derived.Maps.Own
import Derived.Maps.OwnOps
import Derived.RowKit
import Derived.Laws.StructEq
import Derived.Laws.IdiomStrings
import Derived.Test.YtffladgmkiimjaaGreatDoorRows
import Derived.LaidHandle
import Derived.LaidMore
import Derived.OpenShut
import Derived.ProofKit
import Derived.RegionTactic
import Derived.OrdersIn
import Derived.Below
import Derived.Laws.Tables
set_option linter.all false
set_option maxHeartbeats 100000000
set_option maxRecDepth 1000000
open Array renaming getElem?_eq_getElem -> aQ,getD_eq_getD_getElem? -> aY,getElem?_eq_some_iff -> ai,replicate -> bE,getElem?_setIfInBounds -> bF,getD -> eD,getElem?_eq_none -> fH,getElem?_replicate -> qY,getElem_toList -> rp
open Bool renaming and_eq_true -> aI,false_eq_true -> bG
open Go renaming Program -> aL,TypeId -> aZ,undef -> af,Value -> ak,World -> ar,Operand -> bL,Calls -> bu,execOp -> cG,Oper -> cR,yielded -> jY,underlying -> jc,Tmp -> kG,Act -> kH,MapEntry -> uv
open Go.Addr renaming add -> k8
open Go.Ending renaming returned -> aF,returned -> aP
open Go.Instr renaming mapUpdate -> Ay,findKey -> Dl,findAsking -> jw,index -> mR
open Go.IntKind renaming i64 -> ag
open Go.Lib renaming hid -> aj
open Go.Obj renaming cells -> aw
open Go.Proofs.Tryz renaming prog -> aq,underlying25 -> eJ
open Go.Region renaming wanted -> cS,binds -> fG,ready -> je
open Go.Result renaming andThen -> GM,andThen_ok -> sD
open Go.RowKit renaming Below -> az
open Go.RowKit.Below renaming heap_alloc -> aX,refl -> au
open Go.Value renaming int -> aB,bool -> aH,agg -> aR,pointer -> aS,slice -> ae,int -> ah
open Go.World renaming alloc_heap_new -> ay,cell? -> dJ,ownsRow_nil -> dR,cell?_alloc_lt -> ey
open List renaming getElem?_append_left -> Aq,foldl_append -> BG,map_congr_left -> FX,all_eq_true -> a7,range -> aU,take_succ_eq_append_getElem -> bN,mem_range -> bP,range' -> bR,getElem_mem -> bV,eq_nil_of_length_eq_zero -> bf,map_cons -> cZ,drop_eq_getElem_cons -> dS,take_of_length_le -> dp,mem_of_mem_take -> eQ,mem_filter -> fQ,map_append -> fh,getElem_of_mem -> jy,range_eq_range' -> mQ,countP_le_length -> xF
open List.cons renaming injEq -> Ax
open Nat renaming le_refl -> ax,lt_of_lt_of_le -> bA,mul_comm -> vh
open Option renaming map_some -> dH,bind_some -> gK
open Option.some renaming inj -> bj
open Or renaming inl -> cK
open Prod.mk renaming injEq -> iO
namespace Go.Proofs.YtffladgmkiimjaaGreatDoor
open Go
theorem fE(n:Int)(h₀:0<=n)(h₁:n<2 ^ 62):IntKind.i64.wrap n=n:=by rw[IntKind.wrap_i64];omega
theorem Y9(a b:Nat)(ha:a<2 ^ 62)(hb:b<2 ^ 62):bits .and ag (a:Int) (b:Int)=((a &&& b:Nat):Int):=(bits_nat ag 62 (by decide) fE a b ha hb).1
theorem acM(a b:Nat)(ha:a<2 ^ 62)(hb:b<2 ^ 62):bits .or ag (a:Int) (b:Int)=((a ||| b:Nat):Int):=(bits_nat ag 62 (by decide) fE a b ha hb).2
theorem wL(n m:Nat)(hn:n<512):(bits BinOp.and IntKind.i64 (↑n / 2 ^ m) 1==1)=n.testBit m:=by
 have e:((n:Int) / 2 ^ m)=((n / 2 ^ m:Nat):Int):=by simp
 have hlt:n / 2 ^ m<2 ^ 62:=Nat.lt_of_le_of_lt (Nat.div_le_self _ _) (by omega);rw[e,show(1:Int)=((1:Nat):Int) from rfl,Y9 _ 1 hlt (by decide)];rw[Nat.testBit_eq_decide_div_mod_eq,Nat.and_one_is_mod,Bool.eq_iff_iff];simp only[beq_iff_eq,decide_eq_true_eq];omega
structure BB where
 room:Int
 depth:Int
 least:Int
 minutes:Int
 cD:Int
 iL:Int
 eh:Int
 ie:Int
 ll:Int
 lm:Int
 pl:Int
 pm:Int
abbrev BB.cells(b:BB)(bq aK aA:ak):Array Value:=#[ah ag b.room,ah ag b.depth,ah ag b.least,ah ag b.minutes,ah ag b.cD,ah ag b.iL,ah ag b.eh,ah ag b.ie,ah ag b.ll,ah ag b.lm,ah ag b.pl,ah ag b.pm,bq,aK,aA]
structure BB.Ok(b:BB):Prop where
 room:1<=b.room/\b.room<=99
 depth:0<=b.depth/\b.depth<=99
 least:0<=b.least/\b.least<=99
 minutes:1<=b.minutes/\b.minutes<=8
 cD:0<=b.cD/\b.cD<=99
 iL:0<=b.iL/\b.iL<=99
 eh:0<=b.eh/\b.eh<=3
 ie:0<=b.ie/\b.ie<=99
 leak:0<=b.ll/\b.ll<=b.lm/\b.lm<=99/\b.lm-b.ll<3
 IU:1<=b.pl/\b.pl<=b.pm/\b.pm<=b.minutes
def BB.holds(b:BB):Int:=b.room*(33+b.depth) / 33
def BB.U3(b:BB)(n:Int):Int:=n*33 / (33+b.depth)
structure eN where
 leak:Int
 m0:Int
 m1:Int
 m2:Int
deriving DecidableEq
abbrev eN.cells(a:eN):Array Value:=#[ah ag a.leak,ah ag a.m0,ah ag a.m1,ah ag a.m2]
structure eN.Ok(a:eN):Prop where
 leak:0<=a.leak/\a.leak<=400
 m0:0<=a.m0/\a.m0<=99
 m1:0<=a.m1/\a.m1<=99
 m2:0<=a.m2/\a.m2<=99
def eN.used(a:eN):Int:=a.leak+a.m0+a.m1+a.m2
theorem BB.zF(b:BB)(h:b.Ok):b.room<=b.holds/\b.holds<=396:=by
 have h1:=h.room;have h2:=h.depth;unfold BB.holds;have h3:b.room*33<=b.room*(33+b.depth):=Int.mul_le_mul_of_nonneg_left (by omega) (by omega);have h4:b.room*(33+b.depth)<=99*132:=Int.mul_le_mul (by omega) (by omega) (by omega) (by omega);omega
theorem BB.abk(b:BB)(h:b.Ok){n:Int}(h0:0<=n)(h1:n<=999):0<=n*33/\n*33<=32967/\0<33+b.depth/\33+b.depth<=132:=by
 have h2:=h.depth;omega
def BB.step(b:BB)(used:Int)(p:Nat)(m:Nat)(n:Int):Int:=
 max 0 (min ((n+if p.testBit m then b.iL else 0)+if b.pl<=m/\m<=b.pm then b.ie else 0) b.holds-used)
def BB.rR(b:BB)(used:Int)(p:Nat):Nat->Int
 |0=>b.room
 |m+1=>b.step used p (m+1) (b.rR used p m)
def BB.jL(b:BB)(used:Int)(p k:Nat):List Int:=(aU k).map fun i=>b.rR used p (i+1)
theorem BB.QT(b:BB)(used:Int)(p k:Nat):b.jL used p (k+1)=b.jL used p k++[b.rR used p (k+1)]:=by
 simp[BB.jL,List.range_succ]
theorem BB.qA(b:BB)(used:Int)(p k:Nat):(b.jL used p k).length=k:=by simp[BB.jL]
theorem BB.JX(b:BB)(h:b.Ok){used:Int}(hu:0<=used)(p:Nat):∀k,0<=b.rR used p k/\b.rR used p k<=396:=by
 intro k;have hh:=b.zF h;have h1:=h.room;cases k with
 |zero=>simp only[BB.rR];omega
 |succ k=>simp only[BB.rR,BB.step];omega
def upTo(p k:Nat):List Nat:=(bR 1 k).filter p.testBit
theorem G6(p k:Nat):upTo p (k+1)=upTo p k++if p.testBit (k+1) then[k+1] else[]:=by
 unfold upTo;rw[show bR 1 (k+1)=bR 1 k++[k+1] by rw[List.range'_concat];simp[Nat.add_comm]];rw[List.filter_append]
 congr 1
 by_cases h:p.testBit (k+1)<;>simp[h]
theorem wa(p k:Nat):(upTo p k).length<=k:=by
 unfold upTo;have:=List.length_filter_le p.testBit (bR 1 k);simpa using this
end Go.Proofs.YtffladgmkiimjaaGreatDoor
namespace Go.Proofs.YtffladgmkiimjaaGreatDoor
open Go.RowKit
theorem qw{a b:Bool}(h:a=b):aP (aH a)=aF (aH b):=by rw[h]
theorem ic{k:IntKind}{a b:Int}(h:a=b):aP (ah k a)=aF (ah k b):=by rw[h]
def aV(n l m:Int):Bool:=decide (l<=n)&&decide (n<=m)
theorem qE(n l m:Int)(w:ar):bu aq 138 #[ah ag n,ah ag l,ah ag m] w fun e w'=>e=aF (aH (aV n l m))/\w=w':=by
 by_cases h1:l<=n
 .have h:aV n l m=decide (n<=m):=by simp[aV,h1]
  rw[h];have H:=aj h;clear h
  go_enter Tryz.func138,Tryz.ntmps138
  go_wp2
  all_goals (go_ret;first|exact⟨rfl,rfl⟩|(refine⟨qw ?_,rfl⟩;simp))
 have h:aV n l m=false:=by simp[aV,h1]
 rw[h];have H:=aj h;clear h
 go_enter Tryz.func138,Tryz.ntmps138
 go_wp2
 all_goals (go_ret;first|exact⟨rfl,rfl⟩|(refine⟨qw ?_,rfl⟩;simp))
theorem Jz(n m:Nat)(hn:n<512)(hm:m<9)(w:ar):bu aq 162 #[ah ag n,ah ag m] w fun e w'=>e=aF (aH (n.testBit m))/\w=w':=by
 go_enter Tryz.func162,Tryz.ntmps162
 go_wp2
 go_ret
 exact⟨qw (wL n m hn),rfl⟩
theorem info3:(Tryz.prog.info? 3).map (fun i=>(i.zero,i.size,i.bytes))=some (some (ah ag 0),1,8):=by kernel_rfl
theorem tM{B e n size:Nat}{xs:List ak}{w wr w1:ar}{u:ak}{o:Obj}(hB:B<=wr.heap.size)(hown:wr.ownsRow B e size u n xs)(en:az B w wr)(hgrow:(wr.alloc o).grownBy w1 u.ownBlock):az B w w1:=
 (en.alloc hB o).grown hgrow (by simp;omega) fun j hj=>(hown.lt j hj).1
theorem Le(p:Nat)(hp:p<512)(w:ar) :
  bu aq 99 #[ah ag p] w fun e w'=>∃v,e=aF v/\w'.ownsRow w.heap.size 3 1 v (upTo p 8).length ((upTo p 8).map fun(m:Nat)=>aB ag (m:Int))/\az w.heap.size w w':=by
 obtain⟨i0,hi,hz0,hz1,hz2⟩:=info_parts info3
 go_enter Tryz.func99,Tryz.ntmps99
 go_wp2
 go_loopw [3,4] (fun v i wr=>∃k:Nat,k<=8/\i=ah ag (k+1)/\wr.ownsRow w.heap.size 3 1 v (upTo p k).length ((upTo p k).map fun(m:Nat)=>aB ag (m:Int))/\az w.heap.size w wr)
  (fun _ i _=>9-(intOf i).toNat)
 case atStart=>exact⟨0,by omega,rfl,dR _ _ _ _,au _ _⟩
 case round=>
  obtain⟨k,hk,rfl,hown,en⟩:=hrel;have hle:=wa p k
  by_cases hlt:k<8
  .cases hb:p.testBit (k+1)
   .have e1:upTo p (k+1)=upTo p k:=by rw[G6,hb];simp
    have hc:=Jz p (k+1) hp (by omega);rw[hb] at hc;have HC:=aj hc;have H1:=aj e1;clear e1 hb hc
    go_wp2_with (go_at_call 162;refine(HC.out _).mono ?_;rintro e w' ⟨rfl,rfl⟩)
    go_roundw
    case rel=>exact⟨k+1,by omega,by go_num,by rw[H1.out];exact hown,en⟩
    case measure=>simp[intOf];omega
   have e1:upTo p (k+1)=upTo p k++[k+1]:=by rw[G6,hb];simp
   have hc:=Jz p (k+1) hp (by omega);rw[hb] at hc;have HC:=aj hc;have H1:=aj e1;clear e1 hb hc;have hB:=en.size
   go_wp2_with (first
    |(go_at_call 162;refine(HC.out _).mono ?_;rintro e w' ⟨rfl,rfl⟩)
    |(at_builtin;refine wpList_append_own _ rfl _ _ 25 rfl w.heap.size 3 i0 (ah ag 0) 1 8 eJ hi hz0 hz1 hz2 rfl (by decide) _ _ _ rfl (hown.alloc _) ⟨wr.heap.size,0,none⟩ 1 1 [ah ag (k+1)] rfl rfl ?c1 ?c2 ?c3 ?c4 ?c5 ?_))
   case c1=>
    intro j u hj
    match j,hj with
    |0,hj=>simp at hj;subst hj;simp[k8]
   case c2=>intro u hu;simp at hu;subst hu;rfl
   case c3=>unfold maxLen;omega
   case c4=>omega
   case c5=>simp;omega
   intro v' w1 hown' hgrow _;have hb1:az w.heap.size w w1:=tM hB hown en hgrow;clear hgrow en hown;go_wp2;go_roundw
   case rel=>exact⟨k+1,by omega,by go_num,by rw[H1.out];simpa using hown',hb1⟩
   case measure=>simp[intOf];omega
  obtain rfl:k=8:=by omega
  go_wp2
  go_ret
  exact⟨_,rfl,hown,en⟩
theorem tE(p:Nat)(hp:p<512)(w:ar):bu aq 97 #[ah ag p] w fun e w'=>e=aF (ah ag (upTo p 8).length)/\az w.heap.size w w':=by
 go_enter Tryz.func97,Tryz.ntmps97
 go_wp2_with fail
 refine(Le p hp _).mono ?_;rintro e w1 ⟨v,rfl,hown,hb⟩;rcases hown.2 with⟨rfl,h0⟩|⟨g,cap,cur,rfl,_,_,_,_,_,_⟩
 .have H0:=aj h0;clear h0 hown;go_wp2
  go_ret
  exact⟨ic (by rw[H0.out];rfl),hb⟩
 clear hown;go_wp2
 go_ret
 exact⟨rfl,hb⟩
theorem Hs(b:BB)(hb:b.Ok)(bq aK aA:ak)(w:ar):bu aq 115 #[aR (b.cells bq aK aA)] w fun e w'=>e=aF (ah ag b.holds)/\az w.heap.size w w':=by
 have h1:=hb.room;have h2:=hb.depth;have h3:=b.zF hb;have h4:b.room*(33+b.depth)<=99*132:=Int.mul_le_mul (by omega) (by omega) (by omega) (by omega);have h5:0<=b.room*(33+b.depth):=Int.mul_nonneg (by omega) (by omega)
 go_enter Tryz.func115,Tryz.ntmps115
 go_wp2
 go_ret
 exact⟨ic rfl,(au _ _).alloc (ax _) _⟩
theorem JJ(b:BB)(hb:b.Ok)(bq aK aA:ak)(n:Int)(hn:0<=n/\n<=999)(w:ar):bu aq 139 #[aR (b.cells bq aK aA),ah ag n] w fun e w'=>e=aF (ah ag (b.U3 n))/\az w.heap.size w w':=by
 have h2:=hb.depth;have h1:=b.abk hb hn.1 hn.2
 go_enter Tryz.func139,Tryz.ntmps139
 go_wp2
 go_ret
 exact⟨ic rfl,(au _ _).alloc (ax _) _⟩
theorem Kr(a:eN)(ha:a.Ok)(w:ar):bu aq 165 #[aR a.cells] w fun e w'=>e=aF (ah ag a.used)/\az w.heap.size w w':=by
 have h1:=ha.leak;have h2:=ha.m0;have h3:=ha.m1;have h4:=ha.m2;have ix:∀(x y z:Int) w,(mR 132 (aR #[ah ag x,ah ag y,ah ag z]) (ah ag 0)).run aq w=.ok (ah ag x) w:=fun _ _ _ _=>by kernel_rfl
 have iy:∀(x y z:Int) w,(mR 132 (aR #[ah ag x,ah ag y,ah ag z]) (ah ag 1)).run aq w=.ok (ah ag y) w:=fun _ _ _ _=>by kernel_rfl
 have iz:∀(x y z:Int) w,(mR 132 (aR #[ah ag x,ah ag y,ah ag z]) (ah ag 2)).run aq w=.ok (ah ag z) w:=fun _ _ _ _=>by kernel_rfl
 go_enter Tryz.func165,Tryz.ntmps165
 go_wp2
 go_loop [3,10] (fun n i=>(i=ah ag 0/\n=ah ag a.leak)\/(i=ah ag 1/\n=ah ag (a.leak+a.m0))\/(i=ah ag 2/\n=ah ag (a.leak+a.m0+a.m1))\/(i=ah ag 3/\n=ah ag (a.leak+a.m0+a.m1+a.m2))) (fun _ i=>3-(intOf i).toNat)
 case atStart=>exact cK ⟨rfl,rfl⟩
 case round=>
  rcases hrel with⟨rfl,rfl⟩|⟨rfl,rfl⟩|⟨rfl,rfl⟩|⟨rfl,rfl⟩
  .go_wp2
   go_round
   case rel=>exact .inr (cK ⟨rfl,rfl⟩)
   case measure=>simp[intOf]
  .go_wp2
   go_round
   case rel=>exact .inr (.inr (cK ⟨rfl,rfl⟩))
   case measure=>simp[intOf]
  .go_wp2
   go_round
   case rel=>exact .inr (.inr (.inr ⟨rfl,rfl⟩))
   case measure=>simp[intOf]
  go_wp2
  go_ret
  exact⟨ic rfl,(au _ _).alloc (ax _) _⟩
abbrev Nw(b:BB)(bq aK aA:ak)(a:eN)(w w':ar):Prop:=w'.cell? ⟨w.heap.size,0,none⟩=some (ah ag b.room)/\w'.cell? ⟨w.heap.size,4,none⟩=some (ah ag b.cD)/\w'.cell? ⟨w.heap.size+1,0,none⟩=some (ah ag a.leak)/\w'.cell? ⟨w.heap.size+1,1,none⟩=some (ah ag a.m0)/\w'.cell? ⟨w.heap.size+1,2,none⟩=some (ah ag a.m1)/\w'.cell? ⟨w.heap.size+1,3,none⟩=some (ah ag a.m2)/\az (w.heap.size+2) ((w.alloc (aw (b.cells bq aK aA) 119)).alloc (aw a.cells 134)) w'
theorem IV(b:BB)(bq aK aA:ak)(a:eN)(w:ar):Nw b bq aK aA a w ((w.alloc (aw (b.cells bq aK aA) 119)).alloc (aw a.cells 134)).drew:=by
 refine⟨?_,?_,?_,?_,?_,?_,(au _ _).drew⟩<;>go_simp
theorem KS{b:BB}{bq aK aA:ak}{a:eN}{w w1 w2:ar}(h:Nw b bq aK aA a w w1)(hb:az w1.heap.size w1 w2):Nw b bq aK aA a w w2:=by
 obtain⟨h1,h2,h3,h4,h5,h6,h7⟩:=h;have hs:=h7.size;simp at hs;refine⟨(hb.cell (by simp;omega)).trans h1,(hb.cell (by simp;omega)).trans h2,(hb.cell (by simp;omega)).trans h3,(hb.cell (by simp;omega)).trans h4,(hb.cell (by simp;omega)).trans h5,(hb.cell (by simp;omega)).trans h6,h7.trans (hb.mono (by omega))⟩
theorem ownsRow_base{w:ar}{B B':Nat}{e:aZ}{size:Nat}{v:ak}{n:Nat}{xs:List ak}(h:w.ownsRow B e size v n xs)(hB:B'<=B):w.ownsRow B' e size v n xs:=
 ⟨h.1,h.2.imp id fun⟨g,cap,cur,h1,h2,h3⟩=>⟨g,cap,cur,h1,Nat.le_trans hB h2,h3⟩⟩
theorem bT{w:ar}{B:Nat}{b:BB}{bq aK aA:ak}{T:aZ}(h:w.heap[B]?=some (aw (b.cells bq aK aA) T (0,0))) :
  w.cell? ⟨B,0,none⟩=some (ah ag b.room)/\w.cell? ⟨B,1,none⟩=some (ah ag b.depth)/\w.cell? ⟨B,2,none⟩=some (ah ag b.least)/\w.cell? ⟨B,3,none⟩=some (ah ag b.minutes)/\w.cell? ⟨B,4,none⟩=some (ah ag b.cD)/\w.cell? ⟨B,5,none⟩=some (ah ag b.iL)/\w.cell? ⟨B,6,none⟩=some (ah ag b.eh)/\
  w.cell? ⟨B,7,none⟩=some (ah ag b.ie)/\w.cell? ⟨B,8,none⟩=some (ah ag b.ll)/\w.cell? ⟨B,9,none⟩=some (ah ag b.lm)/\w.cell? ⟨B,10,none⟩=some (ah ag b.pl)/\w.cell? ⟨B,11,none⟩=some (ah ag b.pm)/\w.cell? ⟨B,12,none⟩=some bq/\w.cell? ⟨B,13,none⟩=some aK/\w.cell? ⟨B,14,none⟩=some aA:=by
 unfold dJ;simp only[h];exact⟨rfl,rfl,rfl,rfl,rfl,rfl,rfl,rfl,rfl,rfl,rfl,rfl,rfl,rfl,rfl⟩
theorem ur(w:ar)(o o':Obj):((w.alloc o).alloc o').heap[w.heap.size]?=some o:=by
 rw[aX _ _ _ (by simp)];exact ay w o
theorem BB.X8(b:BB)(used:Int)(p k:Nat)(hk:0<k):b.rR used p k=b.step used p k (b.rR used p (k-1)):=by
 cases k with
 |zero=>omega
 |succ k=>rfl
theorem BB.Tk(b:BB)(used:Int)(p k:Nat)(hk:0<k):b.jL used p k=b.jL used p (k-1)++[b.rR used p k]:=by
 cases k with
 |zero=>omega
 |succ k=>exact b.QT used p k
theorem gI{n l m:Int}:aV n l m=true↔l<=n/\n<=m:=by simp[aV]
theorem Ho{n l m:Int}(h:aV n l m=false):¬(l<=n/\n<=m):=fun h'=>by rw[gI.2 h'] at h;cases h
section
variable{b:BB}{used n:Int}{p k:Nat}
theorem Wm(h1:p.testBit k=false)(h2:aV k b.pl b.pm=false):b.step used p k n=max 0 (min n b.holds-used):=by
 unfold BB.step;rw[h1,if_neg (Ho h2)];simp
theorem Wi(h1:p.testBit k=true)(h2:aV k b.pl b.pm=false):b.step used p k n=max 0 (min (n+b.iL) b.holds-used):=by
 unfold BB.step;rw[h1,if_neg (Ho h2)];simp
theorem Wl(h1:p.testBit k=false)(h2:aV k b.pl b.pm=true):b.step used p k n=max 0 (min (n+b.ie) b.holds-used):=by
 unfold BB.step;rw[h1,if_pos (gI.1 h2)];simp
theorem Wh(h1:p.testBit k=true)(h2:aV k b.pl b.pm=true):b.step used p k n=max 0 (min (n+b.iL+b.ie) b.holds-used):=by
 unfold BB.step;rw[h1,if_pos (gI.1 h2)];simp
end
theorem F9{w w':ar}{B:Nat}{e:aZ}{size:Nat}{v:ak}{n:Nat}{xs:List ak}(h:w.ownsRow B e size v n xs)(hb:az w.heap.size w w'):w'.ownsRow B e size v n xs:=
 ⟨h.1,h.2.imp id fun⟨g,cap,cur,h1,h2,h3,h4⟩=>⟨g,cap,cur,h1,h2,by rw[hb.block g (ai.1 h3).1];exact h3,h4⟩⟩
theorem Yv{W:ar}{ad:Addr}{v:ak}(h:W.cell? ad=some v):∀j u,[v][j]?=some u->W.cell? (ad.add j)=some u:=by
 intro j u hj
 match j,hj with
 |0,hj=>simp at hj;subst hj;simpa [k8] using h
theorem Mp(w:ar)(v:ak)(T:aZ):(w.alloc (aw #[v] T)).cell? ⟨w.heap.size,0,none⟩=some v:=by
 rw[World.cell?_alloc_at _ _ _ _ rfl];rfl
theorem TI{v:ak}(h:v.oneCell'=true):∀u∈[v],u.oneCell'=true:=by
 intro u hu;simp at hu;subst hu;exact h
theorem zg(b:BB)(hb:b.Ok)(bq aK aA:ak)(a:eN)(ha:a.Ok)(p:Nat)(hp:p<512)(w:ar) :
  bu aq 114 #[aR (b.cells bq aK aA),aR a.cells,ah ag p] w fun e w'=>∃v,e=aF v/\w'.ownsRow w.heap.size 3 1 v b.minutes.toNat ((b.jL (b.cD+a.used) p b.minutes.toNat).map (aB ag))/\az w.heap.size w w':=by
 have aai:=hb.cD;have xW:=hb.minutes;have ad7:=hb.iL;have adB:=hb.ie;have hroom:=hb.room;have hu:0<=a.used/\a.used<=697:=by have:=ha.leak;have:=ha.m0;have:=ha.m1;have:=ha.m2;unfold eN.used;omega
 have hw:IntKind.i64.wrap (b.cD+a.used)=b.cD+a.used:=fE _ (by omega) (by omega);obtain⟨i0,hi,hz0,hz1,hz2⟩:=info_parts info3
 go_enter Tryz.func114,Tryz.ntmps114
 go_wp2
 go_region_held3 (fun w'=>w'.cell? ⟨w.heap.size,0,none⟩=some (ah ag b.room)/\w'.cell? ⟨w.heap.size,4,none⟩=some (ah ag b.cD)/\w'.cell? ⟨w.heap.size+1,0,none⟩=some (ah ag a.leak)/\w'.cell? ⟨w.heap.size+1,1,none⟩=some (ah ag a.m0)/\w'.cell? ⟨w.heap.size+1,2,none⟩=some (ah ag a.m1)/\w'.cell? ⟨w.heap.size+1,3,none⟩=some (ah ag a.m2)/\az (w.heap.size+2) ((w.alloc (aw (b.cells bq aK aA) 119)).alloc (aw a.cells 134)) w')
  (first|exact IV b bq aK aA a w|exact KS (by assumption) (by assumption))
  (first|(go_at_call 165;refine(Kr a ha _).mono ?_;rintro e w1 ⟨rfl,hb1⟩))
 rename _/\_=>hS;obtain⟨-,-,-,-,-,-,hB1⟩:=hS
 have l9:w1.heap[w.heap.size]?=some (aw (b.cells bq aK aA) 119 (0,0)):=by
  rw[hB1.block _ (by omega)];exact ur _ _ _
 obtain⟨-,-,-,hc3,-,-,-,-,-,-,-,-,-,-,-⟩:=bT l9;clear hb1 hw;generalize YC:b.cD+a.used=used at *;have hu2:0<=used/\used<=796:=by omega
 have HH:=aj YC;clear YC hu;go_wp2
 go_loopw [7,8,24] (fun v n i wr=>∃k:Nat,(k:Int)<=b.minutes+1/\i=ah ag k/\n=ah ag (b.rR used p (k-1))/\wr.ownsRow (w.heap.size+2) 3 1 v (k-1) ((b.jL used p (k-1)).map (aB ag))/\az (w.heap.size+2) ((w.alloc (aw (b.cells bq aK aA) 119)).alloc (aw a.cells 134)) wr)
  (fun _ _ i _=>b.minutes.toNat+1-(intOf i).toNat)
 case atStart=>exact⟨0,by omega,rfl,rfl,dR _ _ _ _,hB1⟩
 case round=>
  obtain⟨k,hk,rfl,rfl,hown,en⟩:=hrel
  have l9:wr.heap[w.heap.size]?=some (aw (b.cells bq aK aA) 119 (0,0)):=by
   rw[en.block _ (by omega)];exact ur _ _ _
  have hcc:=bT l9;have UA:=b.JX hb hu2.1 p (k-1);have ahy:=b.zF hb;have hB:=en.size;simp at hB
  by_cases hlt:(k:Int)<b.minutes+1
  .rcases Nat.eq_zero_or_pos k with rfl|kC
   .obtain⟨hc0,hc1,hc2,hc3,hc4,hc5,hc6,hc7,hc8,Rw,Oc,ahR,ahQ,Rx,Ut⟩:=hcc;go_wp2;go_roundw
    case rel=>exact⟨1,by omega,rfl,rfl,hown,en⟩
    case measure=>simp[intOf]
   have hst:=b.X8 used p k kC;have hpl:=b.Tk used p k kC;have hlen:(b.jL used p (k-1)).length=k-1:=b.qA used p (k-1);have hne:((k:Int)==0)=false:=by simp;omega
   generalize b.rR used p (k-1)=n at *;obtain⟨hc0,hc1,hc2,hc3,hc4,hc5,hc6,hc7,hc8,Rw,Oc,ahR,ahQ,Rx,Ut⟩:=hcc;have H1:=aj hst;have H2:=aj hpl;have H3:=aj hlen;clear hst hpl hlen;cases aaJ:p.testBit k<;>cases hin:aV k b.pl b.pm
   all_goals
    have HB:=aj aaJ;have HI:=aj hin;have HA:=Jz p k hp (by omega);rw[aaJ] at HA;have HAH:=aj HA;have IA:=qE k b.pl b.pm;rw[hin] at IA;have IAH:=aj IA;clear aaJ hin HA IA
    go_wp2_with (first
     |(go_at_call 162;refine(HAH.out _).mono ?_;rintro e w' ⟨rfl,rfl⟩)
     |(go_at_call 138;refine(IAH.out _).mono ?_;rintro e w' ⟨rfl,rfl⟩)
     |(go_at_call 115;refine(Hs b hb bq aK aA _).mono ?_;rintro e w2 ⟨rfl,hb2⟩;have hown2:=F9 hown hb2;have amW:=hb2.size)
     |(at_builtin;refine wpList_append_own _ rfl (.tmp 59) (.tmp 61) 25 rfl (w.heap.size+2) 3 i0 (ah ag 0) 1 8 eJ hi hz0 hz1 hz2 rfl (by decide) _ _ _ rfl (hown2.alloc _) ⟨w2.heap.size,0,none⟩ 1 1 [_] rfl rfl (Yv (Mp _ _ _)) (TI rfl) ?_ ?_ ?_ ?_))
   all_goals first
    |(simp;omega;done)
    |(unfold maxLen;omega;done)
    |(omega;done)
    |skip
   all_goals
    intro v' w3 hown' hgrow _;have hb3:=((en.trans (hb2.mono (by omega))).alloc (by have:=hb2.size;omega) _).grown hgrow (by simp;omega) (fun j hj=>(hown2.lt j hj).1);clear hgrow;go_wp2;go_roundw
    case rel=>
     have hS:b.step used p k n=max 0 (min (n+(if p.testBit k then b.iL else 0)+(if aV k b.pl b.pm then b.ie else 0)) b.holds-used):=by
      first
       |(rw[Wm HB.out HI.out,HB.out,HI.out];simp;done)
       |(rw[Wi HB.out HI.out,HB.out,HI.out];simp;done)
       |(rw[Wl HB.out HI.out,HB.out,HI.out];simp;done)
       |(rw[Wh HB.out HI.out,HB.out,HI.out];simp;done)
     rw[HB.out,HI.out] at hS;simp only[if_true,bG,if_false,Int.add_zero] at hS;refine⟨k+1,by omega,by go_num,?_,?_,hb3⟩
     .rw[Nat.add_sub_cancel,H1.out,hS]
      congr 1
      skip
      omega
     rw[Nat.add_sub_cancel,H2.out,H1.out,hS];have qG:k-1+1=k:=by omega
     rw[qG] at hown';rw[fh];refine(congrArg (fun y=>w3.ownsRow (w.heap.size+2) 3 1 v' k (List.map (aB ag) (b.jL used p (k-1))++[aB ag y])) ?_).mp hown';clear hown'
     skip
     omega
    case measure=>simp[intOf];omega
  have sA:k=b.minutes.toNat+1:=by omega
  go_wp2
  go_ret
  refine⟨_,rfl,?_,?_⟩
  .rw[HH.out];have e:k-1=b.minutes.toNat:=by omega
   rw[e] at hown;exact ownsRow_base hown (by omega)
  exact(((au _ _).alloc (ax _) _).alloc (by simp) _).trans (en.mono (by omega))
theorem CN{w w':ar}{B:Nat}{b:BB}{bq aK aA:ak}(h:w.heap[B]?=some (aw (b.cells bq aK aA) 119 (0,0)))(hb:az w.heap.size w w'):(w'.cell? ⟨B,0,none⟩=some (ah ag b.room)/\w'.cell? ⟨B,1,none⟩=some (ah ag b.depth)/\w'.cell? ⟨B,2,none⟩=some (ah ag b.least)/\w'.cell? ⟨B,3,none⟩=some (ah ag b.minutes)/\w'.cell? ⟨B,4,none⟩=some (ah ag b.cD)/\w'.cell? ⟨B,5,none⟩=some (ah ag b.iL)/\w'.cell? ⟨B,6,none⟩=some (ah ag b.eh)/\w'.cell? ⟨B,7,none⟩=some (ah ag b.ie)/\w'.cell? ⟨B,8,none⟩=some (ah ag b.ll)/\w'.cell? ⟨B,9,none⟩=some (ah ag b.lm)/\w'.cell? ⟨B,10,none⟩=some (ah ag b.pl)/\w'.cell? ⟨B,11,none⟩=some (ah ag b.pm)/\w'.cell? ⟨B,12,none⟩=some bq/\w'.cell? ⟨B,13,none⟩=some aK/\w'.cell? ⟨B,14,none⟩=some aA)/\az w.heap.size w w':=by
 have hlt:B<w.heap.size:=(ai.1 h).1;have h':w'.heap[B]?=some (aw (b.cells bq aK aA) 119 (0,0)):=by rw[hb.block B hlt];exact h
 exact⟨bT h',hb⟩
theorem OJ{w w1 w':ar}{B:Nat}{b:BB}{bq aK aA:ak}(h:w.heap[B]?=some (aw (b.cells bq aK aA) 119 (0,0)))(h1:az w.heap.size w w1)(h2:az w1.heap.size w1 w'):(w'.cell? ⟨B,0,none⟩=some (ah ag b.room)/\w'.cell? ⟨B,1,none⟩=some (ah ag b.depth)/\w'.cell? ⟨B,2,none⟩=some (ah ag b.least)/\w'.cell? ⟨B,3,none⟩=some (ah ag b.minutes)/\w'.cell? ⟨B,4,none⟩=some (ah ag b.cD)/\w'.cell? ⟨B,5,none⟩=some (ah ag b.iL)/\w'.cell? ⟨B,6,none⟩=some (ah ag b.eh)/\w'.cell? ⟨B,7,none⟩=some (ah ag b.ie)/\w'.cell? ⟨B,8,none⟩=some (ah ag b.ll)/\w'.cell? ⟨B,9,none⟩=some (ah ag b.lm)/\w'.cell? ⟨B,10,none⟩=some (ah ag b.pl)/\w'.cell? ⟨B,11,none⟩=some (ah ag b.pm)/\w'.cell? ⟨B,12,none⟩=some bq/\w'.cell? ⟨B,13,none⟩=some aK/\w'.cell? ⟨B,14,none⟩=some aA)/\az w.heap.size w w':=
 CN h (h1.trans (h2.mono h1.size))
theorem MA(b:BB)(hb:b.Ok)(bq aK aA:ak)(n:Int)(hn:0<=n/\n<=999)(B:Nat)(w:ar)(l9:w.heap[B]?=some (aw (b.cells bq aK aA) 119 (0,0))) :
  bu aq 171 #[ah ag n,aS (some ⟨B,0,none⟩)] w fun e w'=>e=aF (aH (decide (b.U3 n<b.least)))/\az w.heap.size w w':=by
 have HK:=aj l9;clear l9
 go_enter Tryz.func171,Tryz.ntmps171
 go_wp2
 go_region_held3 (fun w'=>(w'.cell? ⟨B,0,none⟩=some (ah ag b.room)/\w'.cell? ⟨B,1,none⟩=some (ah ag b.depth)/\w'.cell? ⟨B,2,none⟩=some (ah ag b.least)/\w'.cell? ⟨B,3,none⟩=some (ah ag b.minutes)/\w'.cell? ⟨B,4,none⟩=some (ah ag b.cD)/\w'.cell? ⟨B,5,none⟩=some (ah ag b.iL)/\w'.cell? ⟨B,6,none⟩=some (ah ag b.eh)/\w'.cell? ⟨B,7,none⟩=some (ah ag b.ie)/\w'.cell? ⟨B,8,none⟩=some (ah ag b.ll)/\w'.cell? ⟨B,9,none⟩=some (ah ag b.lm)/\w'.cell? ⟨B,10,none⟩=some (ah ag b.pl)/\w'.cell? ⟨B,11,none⟩=some (ah ag b.pm)/\w'.cell? ⟨B,12,none⟩=some bq/\w'.cell? ⟨B,13,none⟩=some aK/\w'.cell? ⟨B,14,none⟩=some aA)/\az w.heap.size w w')
  (first|exact CN HK.out (au _ _).drew|exact OJ HK.out (And.right (by assumption)) (by assumption))
  (first|(go_at_call 139;refine(JJ b hb bq aK aA n hn _).mono ?_;rintro e w1 ⟨rfl,hb1⟩))
 rename _/\_=>hS;have hBw:=hS.2;clear hS;go_wp2
 go_ret
 exact⟨rfl,hBw⟩
end Go.Proofs.YtffladgmkiimjaaGreatDoor
namespace Go.Lag
open Go Go.ChangeMaps Go.MapKept
structure yF(P:aL)(T K E:aZ)(key:Int->ak):Prop where
 map:P.underlying T=some (.map K E)
 plain:∃d,P.underlying K=some d/\∀a b,Instr.sameNow d a b=none
 check:∀(e:Bool) (u:Int) (w:ar),(Instr.checkKey e 10000 K (key u)).run P w=.ok () w
 eql:∀(u v:Int) (w:ar),(Op.equal K (key u) (key v)).run P w=.ok (decide (u=v)) w
 zero:∀w,(zeroValue E).run P w=.ok (aH false) w
def mF(w:ar)(b:Nat)(key:Int->ak)(us:List Int):Prop:=
 ∃es clock,w.heap[b]?=some (.map es clock)/\es.toList.map (fun e:uv=>(e.key,e.val))=us.map fun u=>(key u,aH true)
section
variable{P:aL}{T K E:aZ}{key:Int->ak}
theorem vM(L:yF P T K E key)(u:Int)(w:ar):∀(us:List Int) (es:List uv) (i:Nat),es.map (fun e:uv=>(e.key,e.val))=us.map (fun u=>(key u,Value.bool true))->
  ∃r,(jw K (key u) es i).run P w=.ok r w/\(u∈us->∃j,r=some (j,aH true))/\(u ∉ us->r=none)
 |[],es,i,h=>by
  have:es=[]:=by simpa using h
  subst this;exact⟨none,rfl,by simp,by simp⟩
 |v::us,[],i,h=>by simp at h
 |v::us,e::es,i,h=>by
  simp only[cZ,Ax,iO] at h;obtain⟨⟨hk,hv⟩,ht⟩:=h;obtain⟨r,hr,h1,h2⟩:=vM L u w us es (i+1) ht;have hq:=L.eql u v w;rw[<-hk] at hq
  have e1:(jw K (key u) (e::es) i).run P w=if decide (u=v)=true then .ok (some (i,e.val)) w else(jw K (key u) es (i+1)).run P w:=by
   show((Op.equal K (key u) e.key).bind fun c=>if c=true then Sem.pure (some (i,e.val)) else jw K (key u) es (i+1)).run P w=_;rw[Sem.run_bind',hq]
   by_cases h:u=v<;>simp[h,Sem.run,GM]
  by_cases huv:u=v
  .subst huv;refine⟨some (i,aH true),?_,fun _=>⟨i,rfl⟩,fun h=>absurd (List.mem_cons_self ..) h⟩;rw[e1,if_pos (by simp),hv]
  refine⟨r,?_,fun h=>h1 ((List.mem_cons.1 h).resolve_left huv),fun h=>h2 fun h'=>h (List.mem_cons_of_mem _ h')⟩;rw[e1,if_neg (by simpa using huv),hr]
theorem Cv(L:yF P T K E key)(u:Int)(w:ar){us:List Int}{es:List uv}(h:es.map (fun e:uv=>(e.key,e.val))=us.map (fun u=>(key u,Value.bool true))) :
  ∃r,(Dl K (key u) es).run P w=.ok r w/\(u∈us->∃j,r=some (j,aH true))/\(u ∉ us->r=none):=by
 obtain⟨d,hd,hs⟩:=L.plain;obtain⟨r,hr,h1,h2⟩:=vM L u w us es 0 h
 have hu:(jc K).run P w=.ok d w:=by
  exact run_underlying hd w
 have e1:(Dl K (key u) es).run P w=(match Instr.findNow d (key u) es 0 with|some r=>Sem.pure r|none=>jw K (key u) es 0).run P w:=by
  show((jc K).bind _).run P w=_;rw[Sem.run_bind',hu];rfl
 cases es with
 |nil=>
  have:us=[]:=by simpa using h.symm
  subst this;exact⟨none,by rw[e1];rfl,by simp,by simp⟩
 |cons e es=>
  refine⟨r,?_,h1,h2⟩;rw[e1]
  have:Instr.findNow d (key u) (e::es) 0=none:=by
   simp only[Instr.findNow,hs]
  rw[this];exact hr
theorem D9(L:yF P T K E key){w:ar}{b:Nat}{us:List Int}(h:mF w b key us)(u:Int) :
  (Instr.lookup T (.map (some b)) (key u) false).run P w=.ok (aH (decide (u∈us))) w:=by
 obtain⟨es,clock,hb,he⟩:=h;obtain⟨r,hr,h1,h2⟩:=Cv L u w he
 have hu:(jc T).run P w=.ok (.map K E) w:=by
  exact run_underlying L.map w
 have hck:=L.check es.isEmpty u w;have hz:=L.zero w;have hg:(getObj b).run P w=.ok (.map es clock) w:=by simp only[getObj,Sem.run,hb]
 unfold Instr.lookup;show((jc T).bind _).run P w=_;rw[Sem.run_bind',hu]
 by_cases hm:u∈us
 .obtain⟨j,rfl⟩:=h1 hm;simp[GM,hg,hck,hr,hm]
 obtain rfl:=h2 hm;simp[GM,hg,hck,hr,hm,hz]
theorem D8(L:yF P T K E key){w:ar}{b:Nat}{us:List Int}(h:mF w b key us)(u:Int)(hu':u ∉ us) :
  ∃es clock,(Ay T (.map (some b)) (key u) (aH true)).run P w=.ok () (setBlock w b (.map es clock))/\mF (setBlock w b (.map es clock)) b key (us++[u]):=by
 obtain⟨es,clock,hb,he⟩:=h;obtain⟨r,hr,h1,h2⟩:=Cv L u w he;obtain rfl:=h2 hu'
 have hu:(jc T).run P w=.ok (.map K E) w:=by
  exact run_underlying L.map w
 have hck:=L.check false u w;refine⟨es.push { key:=key u,val:=aH true,born:=clock },clock+1,?_,?_⟩
 .unfold Ay;show((jc T).bind _).run P w=_;rw[Sem.run_bind',hu];have hg:(getObj b).run P w=.ok (.map es clock) w:=by simp only[getObj,Sem.run,hb]
  simp[GM,hg,hck,hr,setObj,Sem.run,hb,setBlock]
 refine⟨es.push { key:=key u,val:=aH true,born:=clock },clock+1,?_,by simp[he]⟩;have hlt:b<w.heap.size:=(ai.1 hb).1;simp[setBlock,hlt]
theorem mF.keep{w w':ar}{b:Nat}{us:List Int}(h:mF w b key us)(hk:w'.heap[b]?=w.heap[b]?):mF w' b key us:=by
 obtain⟨es,clock,hb,he⟩:=h;exact⟨es,clock,hk.trans hb,he⟩
theorem mF.lt{w:ar}{b:Nat}{us:List Int}(h:mF w b key us):b<w.heap.size:=by
 obtain⟨es,clock,hb,he⟩:=h;exact(ai.1 hb).1
theorem mF.below{w w':ar}{b:Nat}{us:List Int}(h:mF w b key us)(hb:RowKit.Below w.heap.size w w'):mF w' b key us:=h.keep (hb.block b h.lt)
theorem mF.made(w:ar)(key:Int->ak):mF (w.alloc (.map #[] 0)) w.heap.size key []:=⟨#[],0,(MapKept.heap_alloc w _).1,rfl⟩
theorem m8(w:ar){aN:Array cR}{rest:List cR}{o:cR}{a:kH}{Q:Exit->kH->ar->Prop}(hg:o.guard=none)(m x:bL)(t:aZ)(hop:o.op=Op.lookup t m x false)
  (L:yF P t K E key) (b:Nat) {us:List Int} (hm:a.eval m=.map (some b)) (hown:mF w b key us) (u:Int) (hx:a.eval x=key u)
  (hK:wpList P aN Q rest (a.put o.dst (aH (decide (u∈us)))) w):wpList P aN Q (o::rest) a w:=by
 refine wpList_plain hg fun K' hK'=>?_;have hrun:=D9 L hown u;unfold Oper.wp;simp[cG,hop,hm,hx,hrun,GM];exact hK' _ _ (by simpa using hK)
theorem ru(w:ar){aN:Array cR}{rest:List cR}{o:cR}{a:kH}{Q:Exit->kH->ar->Prop}(hg:o.guard=none)(m x v:bL)(t:aZ)(hop:o.op=Op.mapUpdate t m x v)
  (L:yF P t K E key) (b:Nat) {us:List Int} (hm:a.eval m=.map (some b)) (hown:mF w b key us) (u:Int) (hx:a.eval x=key u) (hv:a.eval v=aH true) (hu:u ∉ us)
  (hK:∀w',mF w' b key (us++[u])->w.grownBy w' (some b)->wpList P aN Q rest (a.put o.dst af) w'):wpList P aN Q (o::rest) a w:=by
 refine wpList_plain hg fun K' hK'=>?_;obtain⟨es,clock,hrun,uP⟩:=D8 L hown u hu;obtain⟨es0,aiS,hb,_⟩:=hown;unfold Oper.wp;simp[cG,hop,hm,hx,hv,hrun,GM];exact hK' _ _ (hK _ uP ⟨rfl,rfl,rfl,by simp[setBlock],fun i _ hi=>heap_setBlock_other hb _ (fun e=>hi (by rw[e]))⟩)
end
end Go.Lag
namespace Go.Proofs.YtffladgmkiimjaaGreatDoor
open Go.RowKit Go.Lag
def Reads(w:ar)(v:ak)(n:Nat)(xs:List ak):Prop:=
 (v=ae none 0 0/\n=0/\xs=[])\/∃g off cap,v=ae (some ⟨g,off,none⟩) n cap/\(n<=4294967296/\n<=cap)/\g<w.heap.size/\∀j u,xs[j]?=some u->w.cell? ⟨g,off+j,none⟩=some u
theorem Reads.below{w w':ar}{v:ak}{n:Nat}{xs:List ak}(h:Reads w v n xs)(hb:az w.heap.size w w'):Reads w' v n xs:=by
 rcases h with h|⟨g,off,cap,h1,h2,h3,h4⟩
 .exact cK h
 exact .inr ⟨g,off,cap,h1,h2,bA h3 hb.size,fun j u hj=>(hb.cell (p:=⟨g,off+j,none⟩) h3).trans (h4 j u hj)⟩
theorem Reads.iT{w:ar}{B:Nat}{e:aZ}{size:Nat}{v:ak}{n:Nat}{xs:List ak}(h:w.ownsRow B e size v n xs)(hn:n<=4294967296)(hs:xs.length=n*size):Reads w v n xs:=by
 have hc:=fun g hg=>h.cells (g:=g) hg;have hl:=h.lt;rcases h.2 with⟨rfl,rfl⟩|⟨g,cap,cur,rfl,h2⟩
 .refine cK ⟨rfl,rfl,by simpa using hs⟩
 refine .inr ⟨g,0,cap,rfl,⟨hn,h2.2.2.1⟩,(hl g rfl).2,fun j u hj=>?_⟩;have:=hc g rfl j u hj;cases j<;>simpa [k8] using this
def lj(b:BB):List Int->Nat->Int
 |[],_=>-1
 |n::r,k=>if b.U3 n<b.least then k else lj b r (k+1)
theorem JU(b:BB)(xs:List Int)(k:Nat)(hk:k<xs.length):lj b (xs.drop k) k=if b.U3 xs[k]<b.least then(k:Int) else lj b (xs.drop (k+1)) (k+1):=by
 rw[dS hk];rfl
theorem MB(b:BB)(xs:List Int):lj b (xs.drop xs.length) xs.length = -1:=by simp[lj]
theorem OP(b:BB):∀(xs:List Int) (k:Nat),-1<=lj b xs k/\lj b xs k<=k+xs.length:=by
 intro xs
 induction xs with
 |nil=>intro k;simp only[lj];constructor<;>simp<;>omega
 |cons n r ih=>
  intro k;simp only[lj];have:=ih (k+1);split
  .simp;omega
  simp at this ⊢;omega
theorem Jj(b:BB)(hb:b.Ok)(bq aK aA:ak)(xs:List Int)(MV:∀x∈xs,0<=x/\x<=999)(hlen:xs.length<=1000)(v:ak)(B:Nat)(w:ar)(hv:Reads w v xs.length (xs.map (aB ag)))
  (l9:w.heap[B]?=some (aw (b.cells bq aK aA) 119 (0,0))) :
  bu aq 170 #[v,.func (.func 171) #[] #[aS (some ⟨B,0,none⟩)]] w fun e w'=>e=aF (ah ag (lj b xs 0))/\az w.heap.size w w':=by
 have HK:=aj l9;clear l9;rcases hv with⟨rfl,hn,hx0⟩|⟨g,off,cap,rfl,hn,hg,hc⟩
 .obtain rfl:xs=[]:=by simpa using hx0
  clear hx0 hn
  go_enter Tryz.func170,Tryz.ntmps170
  go_wp2
  go_loopw [8] (fun i wr=>i=ah ag 0/\az w.heap.size w wr) (fun _ _=>0)
  case atStart=>exact⟨rfl,au _ _⟩
  case round=>
   obtain⟨rfl,en⟩:=hrel;go_wp2
   go_ret
   exact⟨rfl,en⟩
 have HC:=aj hc;clear hc;generalize hL:xs.length=L at *;have HL:=aj hL;clear hL
 go_enter Tryz.func170,Tryz.ntmps170
 go_wp2
 go_loopw [5,8] (fun _ i wr=>∃k:Nat,k<=L/\i=ah ag k/\lj b xs 0=lj b (xs.drop k) k/\az w.heap.size w wr) (fun _ i _=>L-(intOf i).toNat)
 case atStart=>exact⟨0,by omega,rfl,rfl,au _ _⟩
 case round=>
  obtain⟨k,hk,rfl,lu,en⟩:=hrel;have hB1:=en.size
  by_cases hlt:k<L
  .have kD:k<xs.length:=by rw[HL.out];exact hlt
   have hcell:wr.cell? ⟨g,off+k,none⟩=some (ah ag xs[k]):=(en.cell (p:=⟨g,off+k,none⟩) hg).trans (HC.out k _ (by simp[kD]))
   have l9:wr.heap[B]?=some (aw (b.cells bq aK aA) 119 (0,0)):=by
    rw[en.block B (ai.1 HK.out).1];exact HK.out
   have hx:=MV xs[k] (bV kD);have hT:=MA b hb bq aK aA xs[k] hx B wr l9;have hst:=JU b xs k kD;rw[hst] at lu;clear hst;generalize xs[k]=x at *
   by_cases hd:b.U3 x<b.least
   .rw[if_pos hd] at lu;rw[decide_eq_true hd] at hT;have HB:=aj lu;have HT:=aj hT;clear lu hT hd l9
    go_wp2_with (go_at_call 171;refine HT.out.mono ?_;rintro e w2 ⟨rfl,hb2⟩)
    go_ret
    exact⟨ic HB.out.symm,en.trans (hb2.mono hB1)⟩
   rw[if_neg hd] at lu;rw[decide_eq_false hd] at hT;have HB:=aj lu;have HT:=aj hT;clear lu hT hd l9
   go_wp2_with (go_at_call 171;refine HT.out.mono ?_;rintro e w2 ⟨rfl,hb2⟩)
   go_roundw
   case rel=>exact⟨k+1,by omega,by go_num,HB.out,en.trans (hb2.mono hB1)⟩
   case measure=>simp[intOf];omega
  obtain rfl:k=L:=by omega
  have e1:lj b xs 0 = -1:=by rw[lu,<-HL.out];exact MB b xs
  have HE:=aj e1;clear e1 lu;go_wp2
  go_ret
  exact⟨ic HE.out.symm,en⟩
def BB.bad(b:BB)(used:Int)(p:Nat):Int:=1+lj b (b.jL used p b.minutes.toNat) 0
theorem JS(b:BB)(hb:b.Ok)(bq aK aA:ak)(a:eN)(ha:a.Ok)(p:Nat)(hp:p<512)(w:ar) :
  bu aq 118 #[aR (b.cells bq aK aA),aR a.cells,ah ag p] w fun e w'=>e=aF (ah ag (b.bad (b.cD+a.used) p))/\az w.heap.size w w':=by
 have xW:=hb.minutes;have aai:=hb.cD;have hu:0<=b.cD+a.used:=by have:=ha.leak;have:=ha.m0;have:=ha.m1;have:=ha.m2;unfold eN.used;omega
 have zI:=OP b (b.jL (b.cD+a.used) p b.minutes.toNat) 0;rw[b.qA] at zI;have UA:=b.JX hb hu p
 go_enter Tryz.func118,Tryz.ntmps118
 go_wp2_with fail
 refine(zg b hb bq aK aA a ha p hp _).mono ?_;rintro e w1 ⟨v,rfl,hown,hb1⟩
 have l9:w1.heap[w.heap.size]?=some (aw (b.cells bq aK aA) 119 (0,0)):=by
  rw[hb1.block _ (by simp;omega)];exact ur _ _ _
 have Cp:=Reads.iT hown (by omega) (by simp[b.qA])
 have hI:=Jj b hb bq aK aA (b.jL (b.cD+a.used) p b.minutes.toNat) (fun x hx=>by
  obtain⟨i,_,rfl⟩:=List.mem_map.1 hx
  have:=UA (i+1);omega) (by rw[b.qA];omega) v w.heap.size w1 (by rw[b.qA];exact Cp) l9
 have HI:=aj hI;have hs1:=hb1.size;simp at hs1;clear hI l9 Cp hown UA
 go_wp2_with (go_at_call 170;refine HI.out.mono ?_;rintro e w2 ⟨rfl,hb2⟩)
 go_ret
 exact⟨ic rfl,((((au _ _).alloc (ax _) _).alloc (by simp) _).trans (hb1.mono (by simp;omega))).trans (hb2.mono (by omega))⟩
def AZ(u:Int):Value:=aR #[ah ag u,ah ag 0,ah ag 0,ah ag 0]
theorem abh(u v:Int)(w:ar):(Op.equal 134 (AZ u) (AZ v)).run aq w=.ok (decide (u=v)) w:=by
 have ht:Tryz.prog.underlying 134=some (.struct (Tryz.prog.fieldsOf 134)):=by kernel_rfl
 have hp:Tryz.prog.stoodInHeld 134=false:=by kernel_rfl
 have hf:(Tryz.prog.fieldsOf 134).toList=[{ name:= "leak",type:=3,offset:=0,embedded:=false,tag:= "",pkgPath:= "lagan/bell",byteOffset:=0 },{ name:= "men",type:=132,offset:=1,embedded:=false,tag:= "",pkgPath:= "lagan/bell",byteOffset:=8 }]:=by kernel_rfl
 have p1:∀x w,(part 3 #[ah ag x,ah ag 0,ah ag 0,ah ag 0] 0).run aq w=.ok (ah ag x) w:=fun _ _=>by kernel_rfl
 have p2:∀x w,(part 132 #[ah ag x,ah ag 0,ah ag 0,ah ag 0] 1).run aq w=.ok (aR #[ah ag 0,ah ag 0,ah ag 0]) w:=fun _ _=>by kernel_rfl
 have e1:(Op.equalIn 9999 3 (ah ag u) (ah ag v)).run aq w=.ok (u==v) w:=by kernel_rfl
 have e2:(Op.equalIn 9999 132 (aR #[ah ag 0,ah ag 0,ah ag 0]) (aR #[ah ag 0,ah ag 0,ah ag 0])).run aq w=.ok true w:=by kernel_rfl
 unfold Op.equal AZ;rw[show Op.maxDepth=9999+1 from rfl,run_equalIn_struct w 9999 134 _ _ ht hp,hf]
 have n1:("leak" : String)≠ "_":=by decide
 have n2:("men" : String)≠ "_":=by decide
 simp only[Op.eqFields,n1,n2,ne_eq,not_false_eq_true,if_true,Sem.run_bind,p1,p2,e1,sD]
 by_cases h:u=v
 .subst h;simp only[beq_self_eq_true,Bool.not_true,bG,if_false];simp[p2 u w,e2]
 simp[h]
theorem DT:yF aq 177 134 4 AZ:=
 ⟨Tryz.underlying177,⟨_,Tryz.underlying134,fun _ _=>rfl⟩,fun _ _ _=>by kernel_rfl,abh,fun _=>by kernel_rfl⟩
abbrev BB.open(b:BB)(bq aK aA all:ak):Array Value:=b.cells bq aK aA++#[all]
def rowOf(l:List eN):List Value:=l.flatMap fun a=>a.cells.toList
theorem QM(l:List eN):(rowOf l).length=4*l.length:=by
 induction l with
 |nil=>rfl
 |cons a l ih=>simp[rowOf,eN.cells] at ih ⊢;omega
theorem sN:∀(l:List eN) (k j:Nat) (hk:k<l.length),j<4->(rowOf l)[4*k+j]?=l[k].cells[j]?
 |[],k,j,hk,_=>by simp at hk
 |a::l,0,j,_,hj=>by
  have:rowOf (a::l)=a.cells.toList++rowOf l:=rfl;rw[this,Aq (by simp;omega)];simp
 |a::l,k+1,j,hk,hj=>by
  have e:rowOf (a::l)=a.cells.toList++rowOf l:=rfl;rw[e,List.getElem?_append_right (by simp;omega)];have:=sN l k j (by simpa using hk) hj;simp only[List.getElem_cons_succ];rw[<-this]
  congr 1
  simp;omega
def BB.sure(b:BB)(all:List eN)(p:Nat):Bool:=all.all fun a=>decide (b.bad (b.cD+a.used) p<=0)
theorem Qt(b:BB)(all:List eN)(p k:Nat)(hk:k<all.length):b.sure (all.drop k) p=(decide (b.bad (b.cD+all[k].used) p<=0)&&b.sure (all.drop (k+1)) p):=by
 rw[dS hk];rfl
theorem Reads.cell{w:ar}{g off n cap:Nat}{l:List eN}(hc:∀j u,(rowOf l)[j]?=some u->w.cell? ⟨g,off+j,none⟩=some u)(k:Nat)(hk:k<l.length) :
  w.cell? ⟨g,off+k*4,none⟩=some (ah ag l[k].leak)/\w.cell? ⟨g,off+k*4+1,none⟩=some (ah ag l[k].m0)/\w.cell? ⟨g,off+k*4+2,none⟩=some (ah ag l[k].m1)/\w.cell? ⟨g,off+k*4+3,none⟩=some (ah ag l[k].m2):=
 ⟨hc (k*4) _ (by have:=sN l k 0 hk (by omega);rw[vh];simpa using this),hc (k*4+1) _ (by rw[vh,sN l k 1 hk (by omega)];rfl),hc (k*4+2) _ (by rw[vh,sN l k 2 hk (by omega)];rfl),hc (k*4+3) _ (by rw[vh,sN l k 3 hk (by omega)];rfl)⟩
theorem jC{w:ar}{B:Nat}{b:BB}{bq aK aA all:ak}{T:aZ}(h:w.heap[B]?=some (aw (b.open bq aK aA all) T (0,0))) :
  w.cell? ⟨B,0,none⟩=some (ah ag b.room)/\w.cell? ⟨B,1,none⟩=some (ah ag b.depth)/\w.cell? ⟨B,2,none⟩=some (ah ag b.least)/\w.cell? ⟨B,3,none⟩=some (ah ag b.minutes)/\w.cell? ⟨B,4,none⟩=some (ah ag b.cD)/\w.cell? ⟨B,5,none⟩=some (ah ag b.iL)/\w.cell? ⟨B,6,none⟩=some (ah ag b.eh)/\
  w.cell? ⟨B,7,none⟩=some (ah ag b.ie)/\w.cell? ⟨B,8,none⟩=some (ah ag b.ll)/\w.cell? ⟨B,9,none⟩=some (ah ag b.lm)/\w.cell? ⟨B,10,none⟩=some (ah ag b.pl)/\w.cell? ⟨B,11,none⟩=some (ah ag b.pm)/\w.cell? ⟨B,12,none⟩=some bq/\w.cell? ⟨B,13,none⟩=some aK/\w.cell? ⟨B,14,none⟩=some aA/\w.cell? ⟨B,15,none⟩=some all:=by
 unfold dJ;simp only[h];exact⟨rfl,rfl,rfl,rfl,rfl,rfl,rfl,rfl,rfl,rfl,rfl,rfl,rfl,rfl,rfl,rfl⟩
theorem qo{w:ar}{B:Nat}{a:eN}{T:aZ}(h:w.heap[B]?=some (aw a.cells T (0,0))) :
  w.cell? ⟨B,0,none⟩=some (ah ag a.leak)/\w.cell? ⟨B,1,none⟩=some (ah ag a.m0)/\w.cell? ⟨B,2,none⟩=some (ah ag a.m1)/\w.cell? ⟨B,3,none⟩=some (ah ag a.m2):=by
 unfold dJ;simp only[h];exact⟨rfl,rfl,rfl,rfl⟩
theorem DM{w wr w2 w3:ar}{X O O2:Obj}(h0:wr.heap[w.heap.size]?=some X)(hsz:w.heap.size+1<wr.heap.size)(hb2:az (wr.alloc O).heap.size (wr.alloc O) w2)(hg:(w2.alloc O2).grownBy w3 (some (w.heap.size+1))) :
  w3.heap[w.heap.size]?=some X/\w3.heap[wr.heap.size]?=some O:=by
 have hs2:=hb2.size;simp at hs2;constructor
 .rw[hg.block _ (by simp;omega) (by simp),aX _ _ _ (by omega),hb2.block _ (by simp;omega),aX _ _ _ (by omega)];exact h0
 rw[hg.block _ (by simp;omega) (by simp;omega),aX _ _ _ (by omega),hb2.block _ (by simp)];exact ay wr O
end Go.Proofs.YtffladgmkiimjaaGreatDoor
namespace Go.Lag
open Go Go.RowKit
theorem mF.alloc{w:ar}{b:Nat}{key:Int->ak}{us:List Int}(h:mF w b key us)(o:Obj):mF (w.alloc o) b key us:=h.keep (by
 have:=(MapKept.heap_alloc w o).2 b;exact aX _ _ _ h.lt)
end Go.Lag
namespace Go.Proofs.YtffladgmkiimjaaGreatDoor
open Go.RowKit Go.Lag
theorem xI(b:BB)(hb:b.Ok)(bq aK aA v:ak)(l:List eN)(hl:∀a∈l,a.Ok)(p:Nat)(hp:p<512)(w:ar)(hv:Reads w v l.length (rowOf l)) :
  bu aq 105 #[aR (b.open bq aK aA v),ah ag p] w fun e w'=>e=aF (aH (b.sure l p))/\az w.heap.size w w':=by
 rcases hv with⟨rfl,hn,hx0⟩|⟨g,off,cap,rfl,hn,hg,hc⟩
 .obtain rfl:l=[]:=bf hn;clear hn hx0;have hmm:=@run_makeMap aq
  go_enter Tryz.func105,Tryz.ntmps105
  go_wp2
  go_loopw [13] (fun i wr=>i=ah ag 0/\az w.heap.size w wr) (fun _ _=>0)
  case atStart=>exact⟨rfl,((au _ _).alloc (ax _) _).alloc (by simp) _⟩
  case round=>
   obtain⟨rfl,en⟩:=hrel;go_wp2
   go_ret
   exact⟨rfl,en⟩
 have HC:=aj hc;clear hc;generalize hL:l.length=L at *;have HL:=aj hL;clear hL;have hmm:=@run_makeMap aq
 go_enter Tryz.func105,Tryz.ntmps105
 go_wp2;clear hmm
 go_loopw [7,8,13] (fun _ _ i wr=>∃(k:Nat) (us:List Int),k<=L/\i=ah ag k/\mF wr (w.heap.size+1) AZ us/\(∀u∈us,b.bad (b.cD+u) p<=0)/\b.sure l p=b.sure (l.drop k) p/\az (w.heap.size+1) (w.alloc (aw (b.open bq aK aA (ae (some ⟨g,off,none⟩) L cap)) 122)) wr) (fun _ _ i _=>L-(intOf i).toNat)
 case atStart=>exact⟨0,[],by omega,rfl,by have:=mF.made (w.alloc (aw (b.open bq aK aA (ae (some ⟨g,off,none⟩) L cap)) 122)) AZ;simpa using this,by simp,rfl,(au _ _).alloc (by simp) _⟩
 case round=>
  obtain⟨k,us,hk,rfl,uP,hus,Ln,en⟩:=hrel
  by_cases hlt:k<L
  .have kD:k<l.length:=by rw[HL.out];exact hlt
   have Du:∀o,wr.cell? ⟨g,o,none⟩=w.cell? ⟨g,o,none⟩:=fun o=>(en.cell (p:=⟨g,o,none⟩) (by show g<_;omega)).trans (ey _ _ _ hg);obtain⟨hc0,hc1,hc2,hc3⟩:=Reads.cell (w:=wr) (cap:=cap) (n:=L) (fun j u hj=>(Du _).trans (HC.out j u hj)) k kD;clear Du;have ha:=hl l[k] (bV kD);have YS:=Qt b l p k kD;rw[YS] at Ln;clear YS;generalize l[k]=a at *
   have l9:wr.heap[w.heap.size]?=some (aw (b.open bq aK aA (ae (some ⟨g,off,none⟩) L cap)) 122 (0,0)):=by
    rw[en.block _ (by omega)];exact ay w _
   have hsz:=en.size;simp at hsz;have HS:=aj Ln;have HU:=aj hus;clear Ln hus;have hU:=Kr a ha
   by_cases hm:a.used∈us
   .have lu:=HU.out a.used hm
    go_wp2_with (first
     |(go_at_call 165;refine(hU _).mono ?_;rintro e w2 ⟨rfl,hb2⟩;have Co:=(uP.alloc _).below hb2)
     |(at_lookup;refine m8 _ rfl _ _ 177 rfl DT (w.heap.size+1) rfl (Co.alloc _) a.used rfl ?_))
    have hs2:=hb2.size;simp at hs2;go_roundw
    case rel=>
     exact⟨k+1,us,by omega,by go_num,Co.alloc _,HU.out,by rw[HS.out,decide_eq_true lu];rfl,((en.alloc (by omega) _).trans (hb2.mono (by simp;omega))).alloc (by omega) _⟩
    case measure=>simp[intOf];omega
   have hB:=JS b hb bq aK aA a ha p hp;obtain⟨bd,zI⟩:∃bd,b.bad (b.cD+a.used) p=bd:=⟨_,rfl⟩
   simp only[zI] at hB;have HBD:=aj zI;clear zI
   by_cases lu:bd<=0
   .have vp:decide (0<bd)=false:=by simp;omega
    have HB:=aj lu;clear lu
    go_wp2_with (first
     |(go_at_call 165;refine(hU _).mono ?_;rintro e w2 ⟨rfl,hb2⟩;have Co:=(uP.alloc _).below hb2)
     |(at_lookup;refine m8 _ rfl _ _ 177 rfl DT (w.heap.size+1) rfl (Co.alloc _) a.used rfl ?_)
     |(at_mapUpdate;refine ru _ rfl _ _ _ 177 rfl DT (w.heap.size+1) rfl (Co.alloc _) a.used rfl rfl hm ?_;intro w3 PR Jt;obtain⟨hxx,hyy⟩:=DM l9 uP.lt hb2 Jt;have hx3:=jC hxx;have ha3:=qo (a:=a) hyy;obtain⟨x0,x1,x2,x3,x4,x5,x6,x7,x8,x9,oh,og,o6,oA,oW,x15⟩:=hx3;obtain⟨y0,y1,y2,y3⟩:=ha3)
     |(go_at_call 118;refine(hB _).mono ?_;rintro e w4 ⟨rfl,hb4⟩))
    have hlt3:=uP.lt;have hs2:=hb2.size;have hs4:=hb4.size;have hs3:=PR.lt;have hg3:=Jt.size;simp at hs2 hg3;have P0:=(((en.alloc (by omega) _).trans (hb2.mono (by simp;omega))).alloc (by omega) _).grown Jt (by simp;omega) (fun j e=>by cases e;exact ax _);have hB4:=P0.trans (hb4.mono (by omega));clear P0 Jt;go_roundw
    case rel=>
     refine⟨k+1,us++[a.used],by omega,by go_num,PR.below hb4,fun u hu=>?_,?_,hB4⟩
     .rcases List.mem_append.1 hu with h|h
      .exact HU.out u h
      rw[List.mem_singleton.1 h,HBD.out];exact HB.out
     rw[HS.out,HBD.out,decide_eq_true HB.out];rfl
    case measure=>simp[intOf];omega
   have vp:decide (0<bd)=true:=by simp;omega
   have HB:=aj lu;clear lu
   go_wp2_with (first
    |(go_at_call 165;refine(hU _).mono ?_;rintro e w2 ⟨rfl,hb2⟩;have Co:=(uP.alloc _).below hb2)
    |(at_lookup;refine m8 _ rfl _ _ 177 rfl DT (w.heap.size+1) rfl (Co.alloc _) a.used rfl ?_)
    |(at_mapUpdate;refine ru _ rfl _ _ _ 177 rfl DT (w.heap.size+1) rfl (Co.alloc _) a.used rfl rfl hm ?_;intro w3 PR Jt;obtain⟨hxx,hyy⟩:=DM l9 uP.lt hb2 Jt;have hx3:=jC hxx;have ha3:=qo (a:=a) hyy;obtain⟨x0,x1,x2,x3,x4,x5,x6,x7,x8,x9,oh,og,o6,oA,oW,x15⟩:=hx3;obtain⟨y0,y1,y2,y3⟩:=ha3)
    |(go_at_call 118;refine(hB _).mono ?_;rintro e w4 ⟨rfl,hb4⟩))
   have hlt3:=uP.lt;have hs2:=hb2.size;have hs4:=hb4.size;have hs3:=PR.lt;have hg3:=Jt.size;simp at hs2 hg3;have P0:=(((en.alloc (by omega) _).trans (hb2.mono (by simp;omega))).alloc (by omega) _).grown Jt (by simp;omega) (fun j e=>by cases e;exact ax _);have hB4:=P0.trans (hb4.mono (by omega));clear P0 Jt
   go_ret
   exact⟨qw (by rw[HS.out,HBD.out,decide_eq_false (by have:=HB.out;omega)];rfl),((au _ _).alloc (ax _) _).trans (hB4.mono (by omega))⟩
  obtain rfl:k=L:=by omega
  have e1:b.sure l p=true:=by rw[Ln,<-HL.out,List.drop_length];rfl
  have HE:=aj e1;clear e1 Ln;go_wp2
  go_ret
  exact⟨qw HE.out.symm,((au _ _).alloc (ax _) _).trans (en.mono (by omega))⟩
structure Mk where
 minute:Int
 lo:Int
 hi:Int
deriving DecidableEq
abbrev Mk.cells(m:Mk):Array Value:=#[ah ag m.minute,ah ag m.lo,ah ag m.hi]
def dY(l:List Mk):List Value:=l.flatMap fun m=>m.cells.toList
theorem qf(l:List Mk):(dY l).length=3*l.length:=by
 induction l with
 |nil=>rfl
 |cons a l ih=>simp[dY] at ih ⊢;omega
theorem sO:∀(l:List Mk) (k j:Nat) (hk:k<l.length),j<3->(dY l)[3*k+j]?=l[k].cells[j]?
 |[],k,j,hk,_=>by simp at hk
 |a::l,0,j,_,hj=>by
  have:dY (a::l)=a.cells.toList++dY l:=rfl;rw[this,Aq (by simp;omega)];simp
 |a::l,k+1,j,hk,hj=>by
  have e:dY (a::l)=a.cells.toList++dY l:=rfl;rw[e,List.getElem?_append_right (by simp;omega)];have:=sO l k j (by simpa using hk) hj;simp only[List.getElem_cons_succ];rw[<-this]
  congr 1
  simp;omega
theorem wE{w:ar}{g off:Nat}{l:List Mk}(hc:∀j u,(dY l)[j]?=some u->w.cell? ⟨g,off+j,none⟩=some u)(k:Nat)(hk:k<l.length) :
  w.cell? ⟨g,off+k*3,none⟩=some (ah ag l[k].minute)/\w.cell? ⟨g,off+k*3+1,none⟩=some (ah ag l[k].lo)/\w.cell? ⟨g,off+k*3+2,none⟩=some (ah ag l[k].hi):=
 ⟨hc (k*3) _ (by have:=sO l k 0 hk (by omega);rw[vh];simpa using this),hc (k*3+1) _ (by rw[vh,sO l k 1 hk (by omega)];rfl),hc (k*3+2) _ (by rw[vh,sO l k 2 hk (by omega)];rfl)⟩
theorem Ja(n m:Int):(if n<m then m else n)=max n m:=by omega
def yE(ss:List Int):Int:=ss.foldl (fun n k=>max n (k+1)) 1
def Dh(n:Int)(ms:List Mk):Int:=ms.foldl (fun n m=>max n (m.minute+1)) n
def dx(ss:List Int)(ms:List Mk):Int:=Dh (yE ss) ms
theorem Ia(ss:List Int)(k:Nat)(hk:k<ss.length):yE (ss.take (k+1))=max (yE (ss.take k)) (ss[k]+1):=by
 unfold yE;rw[bN hk,BG];rfl
theorem Ib(n:Int)(ms:List Mk)(k:Nat)(hk:k<ms.length):Dh n (ms.take (k+1))=max (Dh n (ms.take k)) (ms[k].minute+1):=by
 unfold Dh;rw[bN hk,BG];rfl
theorem EW{α:Type}(f:α->Int)(hi:Int):∀(l:List α) (n:Int),(∀a∈l,f a+1<=hi)->n<=hi->n<=l.foldl (fun n k=>max n (f k+1)) n/\l.foldl (fun n k=>max n (f k+1)) n<=hi
 |[],n,_,h=>⟨Int.le_refl _,h⟩
 |a::l,n,h,hn=>by
  have h1:=EW f hi l (max n (f a+1)) (fun b hb=>h b (by simp[hb])) (by have:=h a (by simp);omega);simp only[List.foldl_cons];omega
theorem Ak(ss:List Int)(h:∀s∈ss,s<=8):1<=yE ss/\yE ss<=9:=EW (fun k:Int=>k) 9 ss 1 (fun a ha=>by have:=h a ha;omega) (by omega)
theorem JR(n:Int)(hn:n<=9)(ms:List Mk)(h:∀s∈ms,s.minute<=8):n<=Dh n ms/\Dh n ms<=9:=EW Mk.minute 9 ms n (fun a ha=>by have:=h a ha;omega) hn
theorem Sp(ss:List Int)(ms:List Mk)(hs:∀s∈ss,s<=8)(hm:∀s∈ms,s.minute<=8):1<=dx ss ms/\dx ss ms<=9:=by
 have h1:=Ak ss hs;have h2:=JR (yE ss) h1.2 ms hm;unfold dx;omega
theorem Sn(b:BB)(bq:ak)(w:ar) :
  bu aq 155 #[aR (b.cells bq (ae none 0 0) (ae none 0 0))] w fun e w'=>e=aF (ah ag (dx [] []))/\az w.heap.size w w':=by
 have HK:Hid ((w.alloc (aw (b.cells bq (ae none 0 0) (ae none 0 0)) 119)).heap[w.heap.size]?=some (aw (b.cells bq (ae none 0 0) (ae none 0 0)) 119 (0,0))):=aj (ay w _)
 go_enter Tryz.func155,Tryz.ntmps155
 go_wp2
 go_loopw [3,5,12] (fun n _ i wr=>i=ah ag 0/\n=ah ag 1/\az (w.heap.size+1) (w.alloc (aw (b.cells bq (ae none 0 0) (ae none 0 0)) 119)) wr) (fun _ _ _ _=>0)
 case atStart=>exact⟨rfl,rfl,au _ _⟩
 case round=>
  obtain⟨rfl,rfl,uE⟩:=hrel;obtain⟨nb,Jq⟩:∃nb:Int,yE []=nb:=⟨_,rfl⟩
  have aag:nb=1:=Jq.symm;subst aag;have HNB:=aj Jq;clear Jq;have Uf:(1:Int)<=9:=by omega
  obtain⟨x0,x1,x2,x3,x4,x5,x6,x7,x8,x9,oh,og,o6,oA,oW⟩:=bT ((uE.block w.heap.size (by omega)).trans HK.out);have hw1:=uE.size;simp at hw1;go_wp2;obtain⟨wo,PQ⟩:∃wo:ar,wo=wr:=⟨_,rfl⟩
  rw[<-PQ] at uE ⊢;clear PQ
  go_loopw [3,7,25] (fun n _ i wq=>i=ah ag 0/\n=ah ag 1/\az (w.heap.size+1) (w.alloc (aw (b.cells bq (ae none 0 0) (ae none 0 0)) 119)) wq) (fun _ _ _ _=>0)
  case atStart=>exact⟨rfl,rfl,uE⟩
  case round=>
   obtain⟨rfl,rfl,yK⟩:=hrel;go_wp2
   go_ret
   exact⟨ic (by rw[dx,HNB.out];rfl),((au _ _).alloc (ax _) _).trans (yK.mono (by omega))⟩
theorem Sj(b:BB)(bq:ak)(w:ar)(ss:List Int)(nW:∀s∈ss,1<=s/\s<=8)(gs os S cs:Nat)(hS:ss.length=S)(RD:S<=4294967296)(qH:gs<w.heap.size)(hcs:∀j u,(ss.map (aB ag))[j]?=some u->w.cell? ⟨gs,os+j,none⟩=some u) :
  bu aq 155 #[aR (b.cells bq (ae (some ⟨gs,os,none⟩) S cs) (ae none 0 0))] w fun e w'=>e=aF (ah ag (dx ss []))/\az w.heap.size w w':=by
 have HS:=aj hS;have HCS:=aj hcs;have SK:=aj nW;clear hS hcs nW;have HK:Hid ((w.alloc (aw (b.cells bq (ae (some ⟨gs,os,none⟩) S cs) (ae none 0 0)) 119)).heap[w.heap.size]?=some (aw (b.cells bq (ae (some ⟨gs,os,none⟩) S cs) (ae none 0 0)) 119 (0,0))):=aj (ay w _)
 go_enter Tryz.func155,Tryz.ntmps155
 go_wp2
 go_loopw [3,5,12] (fun n _ i wr=>∃k:Nat,k<=S/\i=ah ag k/\n=ah ag (yE (ss.take k))/\az (w.heap.size+1) (w.alloc (aw (b.cells bq (ae (some ⟨gs,os,none⟩) S cs) (ae none 0 0)) 119)) wr) (fun _ _ i _=>S-(intOf i).toNat)
 case atStart=>exact⟨0,by omega,rfl,rfl,au _ _⟩
 case round=>
  obtain⟨k,hk,rfl,rfl,uE⟩:=hrel
  by_cases hlt:k<S
  .have kD:k<ss.length:=by rw[HS.out];exact hlt
   have hcell:wr.cell? ⟨gs,os+k,none⟩=some (ah ag ss[k]):=(uE.cell (p:=⟨gs,os+k,none⟩) (by show gs<_;omega)).trans ((ey _ _ _ qH).trans (HCS.out k _ (by simp[kD])));have hx:=SK.out ss[k] (bV kD);have hst:=Ia ss k kD;have zI:=Ak (ss.take k) (fun s hs=>(SK.out s (eQ hs)).2);generalize ss[k]=x at *;generalize yE (ss.take k)=n at *;have HST:=aj hst;clear hst;go_wp2;go_roundw
   case rel=>exact⟨k+1,by omega,by go_num,by rw[HST.out,Ja],uE⟩
   case measure=>simp[intOf];omega
  obtain rfl:S=k:=by omega
  have zI:=Ak (ss.take S) (fun s hs=>(SK.out s (eQ hs)).2);have tZ:ss.take S=ss:=dp (by rw[HS.out];exact ax _);rw[tZ] at zI ⊢;clear tZ;obtain⟨nb,Jq⟩:∃nb:Int,yE ss=nb:=⟨_,rfl⟩
  rw[Jq] at zI ⊢;have HNB:=aj Jq;clear Jq;have Uf:nb<=9:=zI.2;have ahd:1<=nb:=zI.1;clear zI;obtain⟨x0,x1,x2,x3,x4,x5,x6,x7,x8,x9,oh,og,o6,oA,oW⟩:=bT ((uE.block w.heap.size (by omega)).trans HK.out);have hw1:=uE.size;simp at hw1;go_wp2;obtain⟨wo,PQ⟩:∃wo:ar,wo=wr:=⟨_,rfl⟩
  rw[<-PQ] at uE ⊢;clear PQ
  go_loopw [3,7,25] (fun n _ i wq=>i=ah ag 0/\n=ah ag nb/\az (w.heap.size+1) (w.alloc (aw (b.cells bq (ae (some ⟨gs,os,none⟩) S cs) (ae none 0 0)) 119)) wq) (fun _ _ _ _=>0)
  case atStart=>exact⟨rfl,rfl,uE⟩
  case round=>
   obtain⟨rfl,rfl,yK⟩:=hrel;go_wp2
   go_ret
   exact⟨ic (by rw[dx,HNB.out];rfl),((au _ _).alloc (ax _) _).trans (yK.mono (by omega))⟩
theorem Sl(b:BB)(bq:ak)(w:ar)(ms:List Mk)(Lu:∀m∈ms,1<=m.minute/\m.minute<=8)(gm om M cm:Nat)(hM:ms.length=M)(hM2:M<=4294967296)(Xz:gm<w.heap.size)(hcm:∀j u,(dY ms)[j]?=some u->w.cell? ⟨gm,om+j,none⟩=some u) :
  bu aq 155 #[aR (b.cells bq (ae none 0 0) (ae (some ⟨gm,om,none⟩) M cm))] w fun e w'=>e=aF (ah ag (dx [] ms))/\az w.heap.size w w':=by
 have HM:=aj hM;have Qk:=aj hcm;have HMM:=aj Lu;clear hM hcm Lu;have HK:Hid ((w.alloc (aw (b.cells bq (ae none 0 0) (ae (some ⟨gm,om,none⟩) M cm)) 119)).heap[w.heap.size]?=some (aw (b.cells bq (ae none 0 0) (ae (some ⟨gm,om,none⟩) M cm)) 119 (0,0))):=aj (ay w _)
 go_enter Tryz.func155,Tryz.ntmps155
 go_wp2
 go_loopw [3,5,12] (fun n _ i wr=>i=ah ag 0/\n=ah ag 1/\az (w.heap.size+1) (w.alloc (aw (b.cells bq (ae none 0 0) (ae (some ⟨gm,om,none⟩) M cm)) 119)) wr) (fun _ _ _ _=>0)
 case atStart=>exact⟨rfl,rfl,au _ _⟩
 case round=>
  obtain⟨rfl,rfl,uE⟩:=hrel;obtain⟨nb,Jq⟩:∃nb:Int,yE []=nb:=⟨_,rfl⟩
  have aag:nb=1:=Jq.symm;subst aag;have HNB:=aj Jq;clear Jq;have Uf:(1:Int)<=9:=by omega
  obtain⟨x0,x1,x2,x3,x4,x5,x6,x7,x8,x9,oh,og,o6,oA,oW⟩:=bT ((uE.block w.heap.size (by omega)).trans HK.out);have hw1:=uE.size;simp at hw1;go_wp2;obtain⟨wo,PQ⟩:∃wo:ar,wo=wr:=⟨_,rfl⟩
  rw[<-PQ] at uE ⊢;clear PQ
  go_loopw [3,7,25] (fun n _ i wq=>∃k:Nat,k<=M/\i=ah ag k/\n=ah ag (Dh 1 (ms.take k))/\az (w.heap.size+1) (w.alloc (aw (b.cells bq (ae none 0 0) (ae (some ⟨gm,om,none⟩) M cm)) 119)) wq) (fun _ _ i _=>M-(intOf i).toNat)
  case atStart=>exact⟨0,by omega,rfl,rfl,uE⟩
  case round=>
   obtain⟨k,hk,rfl,rfl,yK⟩:=hrel
   by_cases hlt:k<M
   .have kD:k<ms.length:=by rw[HM.out];exact hlt
    have Du:∀o,wr.cell? ⟨gm,o,none⟩=w.cell? ⟨gm,o,none⟩:=fun o=>(yK.cell (p:=⟨gm,o,none⟩) (by show gm<_;omega)).trans (ey _ _ _ Xz);obtain⟨hc0,hc1,hc2⟩:=wE (w:=wr) (fun j u hj=>(Du _).trans (Qk.out j u hj)) k kD;clear Du;have hx:=HMM.out ms[k] (bV kD);have hst:=Ib 1 ms k kD;have zI:=JR 1 Uf (ms.take k) (fun s hs=>(HMM.out s (eQ hs)).2);generalize ms[k]=x at *;generalize Dh 1 (ms.take k)=n at *;have HST:=aj hst;clear hst;have hw2:=yK.size;simp at hw2;go_wp2;go_roundw
    case rel=>exact⟨k+1,by omega,by go_num,by rw[HST.out,Ja],yK.alloc (by omega) _⟩
    case measure=>simp[intOf];omega
   obtain rfl:M=k:=by omega
   have tZ:ms.take M=ms:=dp (by rw[HM.out];exact ax _);rw[tZ];clear tZ;obtain⟨nc,vo⟩:∃nc:Int,Dh 1 ms=nc:=⟨_,rfl⟩
   rw[vo];have HNC:=aj vo;clear vo;go_wp2
   go_ret
   exact⟨ic (by rw[dx,HNB.out,HNC.out]),((au _ _).alloc (ax _) _).trans (yK.mono (by omega))⟩
theorem Si(b:BB)(bq:ak)(w:ar)(ss:List Int)(nW:∀s∈ss,1<=s/\s<=8)(gs os S cs:Nat)(hS:ss.length=S)(RD:S<=4294967296)(qH:gs<w.heap.size)(hcs:∀j u,(ss.map (aB ag))[j]?=some u->w.cell? ⟨gs,os+j,none⟩=some u)(ms:List Mk)(Lu:∀m∈ms,1<=m.minute/\m.minute<=8)(gm om M cm:Nat)(hM:ms.length=M)(hM2:M<=4294967296)(Xz:gm<w.heap.size)(hcm:∀j u,(dY ms)[j]?=some u->w.cell? ⟨gm,om+j,none⟩=some u) :
  bu aq 155 #[aR (b.cells bq (ae (some ⟨gs,os,none⟩) S cs) (ae (some ⟨gm,om,none⟩) M cm))] w fun e w'=>e=aF (ah ag (dx ss ms))/\az w.heap.size w w':=by
 have HS:=aj hS;have HCS:=aj hcs;have SK:=aj nW;clear hS hcs nW;have HM:=aj hM;have Qk:=aj hcm;have HMM:=aj Lu;clear hM hcm Lu;have HK:Hid ((w.alloc (aw (b.cells bq (ae (some ⟨gs,os,none⟩) S cs) (ae (some ⟨gm,om,none⟩) M cm)) 119)).heap[w.heap.size]?=some (aw (b.cells bq (ae (some ⟨gs,os,none⟩) S cs) (ae (some ⟨gm,om,none⟩) M cm)) 119 (0,0))):=aj (ay w _)
 go_enter Tryz.func155,Tryz.ntmps155
 go_wp2
 go_loopw [3,5,12] (fun n _ i wr=>∃k:Nat,k<=S/\i=ah ag k/\n=ah ag (yE (ss.take k))/\az (w.heap.size+1) (w.alloc (aw (b.cells bq (ae (some ⟨gs,os,none⟩) S cs) (ae (some ⟨gm,om,none⟩) M cm)) 119)) wr) (fun _ _ i _=>S-(intOf i).toNat)
 case atStart=>exact⟨0,by omega,rfl,rfl,au _ _⟩
 case round=>
  obtain⟨k,hk,rfl,rfl,uE⟩:=hrel
  by_cases hlt:k<S
  .have kD:k<ss.length:=by rw[HS.out];exact hlt
   have hcell:wr.cell? ⟨gs,os+k,none⟩=some (ah ag ss[k]):=(uE.cell (p:=⟨gs,os+k,none⟩) (by show gs<_;omega)).trans ((ey _ _ _ qH).trans (HCS.out k _ (by simp[kD])));have hx:=SK.out ss[k] (bV kD);have hst:=Ia ss k kD;have zI:=Ak (ss.take k) (fun s hs=>(SK.out s (eQ hs)).2);generalize ss[k]=x at *;generalize yE (ss.take k)=n at *;have HST:=aj hst;clear hst;go_wp2;go_roundw
   case rel=>exact⟨k+1,by omega,by go_num,by rw[HST.out,Ja],uE⟩
   case measure=>simp[intOf];omega
  obtain rfl:S=k:=by omega
  have zI:=Ak (ss.take S) (fun s hs=>(SK.out s (eQ hs)).2);have tZ:ss.take S=ss:=dp (by rw[HS.out];exact ax _);rw[tZ] at zI ⊢;clear tZ;obtain⟨nb,Jq⟩:∃nb:Int,yE ss=nb:=⟨_,rfl⟩
  rw[Jq] at zI ⊢;have HNB:=aj Jq;clear Jq;have Uf:nb<=9:=zI.2;have ahd:1<=nb:=zI.1;clear zI;obtain⟨x0,x1,x2,x3,x4,x5,x6,x7,x8,x9,oh,og,o6,oA,oW⟩:=bT ((uE.block w.heap.size (by omega)).trans HK.out);have hw1:=uE.size;simp at hw1;go_wp2;obtain⟨wo,PQ⟩:∃wo:ar,wo=wr:=⟨_,rfl⟩
  rw[<-PQ] at uE ⊢;clear PQ
  go_loopw [3,7,25] (fun n _ i wq=>∃k:Nat,k<=M/\i=ah ag k/\n=ah ag (Dh nb (ms.take k))/\az (w.heap.size+1) (w.alloc (aw (b.cells bq (ae (some ⟨gs,os,none⟩) S cs) (ae (some ⟨gm,om,none⟩) M cm)) 119)) wq) (fun _ _ i _=>M-(intOf i).toNat)
  case atStart=>exact⟨0,by omega,rfl,rfl,uE⟩
  case round=>
   obtain⟨k,hk,rfl,rfl,yK⟩:=hrel
   by_cases hlt:k<M
   .have kD:k<ms.length:=by rw[HM.out];exact hlt
    have Du:∀o,wr.cell? ⟨gm,o,none⟩=w.cell? ⟨gm,o,none⟩:=fun o=>(yK.cell (p:=⟨gm,o,none⟩) (by show gm<_;omega)).trans (ey _ _ _ Xz);obtain⟨hc0,hc1,hc2⟩:=wE (w:=wr) (fun j u hj=>(Du _).trans (Qk.out j u hj)) k kD;clear Du;have hx:=HMM.out ms[k] (bV kD);have hst:=Ib nb ms k kD;have zI:=JR nb Uf (ms.take k) (fun s hs=>(HMM.out s (eQ hs)).2);generalize ms[k]=x at *;generalize Dh nb (ms.take k)=n at *;have HST:=aj hst;clear hst;have hw2:=yK.size;simp at hw2;go_wp2;go_roundw
    case rel=>exact⟨k+1,by omega,by go_num,by rw[HST.out,Ja],yK.alloc (by omega) _⟩
    case measure=>simp[intOf];omega
   obtain rfl:M=k:=by omega
   have tZ:ms.take M=ms:=dp (by rw[HM.out];exact ax _);rw[tZ];clear tZ;obtain⟨nc,vo⟩:∃nc:Int,Dh nb ms=nc:=⟨_,rfl⟩
   rw[vo];have HNC:=aj vo;clear vo;go_wp2
   go_ret
   exact⟨ic (by rw[dx,HNB.out,HNC.out]),((au _ _).alloc (ax _) _).trans (yK.mono (by omega))⟩
theorem Fz(b:BB)(bq aK aA:ak)(ss:List Int)(ms:List Mk)(nW:∀s∈ss,1<=s/\s<=8)(Lu:∀m∈ms,1<=m.minute/\m.minute<=8)(w:ar)(hs:Reads w aK ss.length (ss.map (aB ag)))(hm:Reads w aA ms.length (dY ms)) :
  bu aq 155 #[aR (b.cells bq aK aA)] w fun e w'=>e=aF (ah ag (dx ss ms))/\az w.heap.size w w':=by
 rcases hs with⟨rfl,hn,_⟩|⟨gs,os,cs,rfl,RD,qH,hcs⟩
 .obtain rfl:=bf hn;rcases hm with⟨rfl,hn,_⟩|⟨gm,om,cm,rfl,hM2,Xz,hcm⟩
  .obtain rfl:=bf hn;exact Sn b bq w
  exact Sl b bq w ms Lu gm om _ cm rfl hM2.1 Xz hcm
 rcases hm with⟨rfl,hn,_⟩|⟨gm,om,cm,rfl,hM2,Xz,hcm⟩
 .obtain rfl:=bf hn;exact Sj b bq w ss nW gs os _ cs rfl RD.1 qH hcs
 exact Si b bq w ss nW gs os _ cs rfl RD.1 qH hcs ms Lu gm om _ cm rfl hM2.1 Xz hcm
def bD(ss:List Int):Nat:=ss.foldl (fun p s=>p ||| 2 ^ s.toNat) 0
theorem Ny(ss:List Int)(k:Nat)(hk:k<ss.length):bD (ss.take (k+1))=bD (ss.take k) ||| 2 ^ ss[k].toNat:=by
 unfold bD;rw[bN hk,BG];rfl
theorem Em:∀(l:List Int) (n:Nat),(∀s∈l,1<=s/\s<=8)->n<512->l.foldl (fun p s=>p ||| 2 ^ s.toNat) n<512
 |[],n,_,h=>h
 |a::l,n,h,hn=>by
  refine Em l _ (fun s hs=>h s (by simp[hs])) ?_;have ha:=h a (by simp);have:2 ^ a.toNat<2 ^ 9:=Nat.pow_lt_pow_right (by omega) (by omega);exact Nat.or_lt_two_pow (n:=9) hn this
theorem mA(ss:List Int)(h:∀s∈ss,1<=s/\s<=8):bD ss<512:=Em ss 0 h (by omega)
theorem kx(ss:List Int)(nW:∀s∈ss,1<=s/\s<=8)(v:ak)(w:ar)(hv:Reads w v ss.length (ss.map (aB ag))) :
  bu aq 106 #[v] w fun e w'=>e=aF (ah ag (bD ss))/\w=w':=by
 rcases hv with⟨rfl,hn,_⟩|⟨g,off,cap,rfl,hn,hg,hc⟩
 .obtain rfl:=bf hn;clear hn
  go_enter Tryz.func106,Tryz.ntmps106
  go_wp2
  go_loop [3,8] (fun p i=>i=ah ag 0/\p=ah ag 0) (fun _ _=>0)
  case atStart=>exact⟨rfl,rfl⟩
  case round=>
   obtain⟨rfl,rfl⟩:=hrel;go_wp2
   go_ret
   exact⟨rfl,rfl⟩
 have HC:=aj hc;have SK:=aj nW;clear hc nW;generalize hL:ss.length=L at *;have HL:=aj hL;clear hL
 go_enter Tryz.func106,Tryz.ntmps106
 go_wp2
 go_loop [3,5,8] (fun p _ i=>∃k:Nat,k<=L/\i=ah ag k/\p=ah ag (bD (ss.take k))) (fun _ _ i=>L-(intOf i).toNat)
 case atStart=>exact⟨0,by omega,rfl,rfl⟩
 case round=>
  obtain⟨k,hk,rfl,rfl⟩:=hrel
  by_cases hlt:k<L
  .have kD:k<ss.length:=by rw[HL.out];exact hlt
   have hcell:w.cell? ⟨g,off+k,none⟩=some (ah ag ss[k]):=HC.out k _ (by simp[kD]);have hx:=SK.out ss[k] (bV kD);have hst:=Ny ss k kD;have zI:=mA (ss.take k) (fun s hs=>SK.out s (eQ hs));obtain⟨x,hxn⟩:∃x:Nat,ss[k]=(x:Int):=⟨ss[k].toNat,by omega⟩
   rw[hxn] at hx hst hcell;clear hxn;generalize bD (ss.take k)=n at *;have HST:=aj hst;clear hst;go_wp2
   go_round
   case rel=>
    refine⟨k+1,by omega,by go_num,?_⟩;rw[HST.out];have h1:(2:Nat) ^ x<512:=Nat.pow_lt_pow_right (m:=x) (n:=9) (by omega) (by omega)
    have h2:wrap64 (2 ^ x)=((2 ^ x:Nat):Int):=by
     have e:(2:Int) ^ x=((2 ^ x:Nat):Int):=by simp
     rw[e,<-IntWalk.i64_left];exact fE _ (Int.natCast_nonneg _) (Int.lt_trans (Int.ofNat_lt.2 h1) (by decide))
    rw[h2,acM n (2 ^ x) (by omega) (by omega),Int.toNat_natCast]
   case measure=>simp[intOf];omega
  obtain rfl:k=L:=by omega
  have tZ:ss.take k=ss:=dp (by rw[HL.out];exact ax _);rw[tZ];clear tZ;go_wp2
  go_ret
  exact⟨rfl,rfl⟩
theorem sQ(lo hi l m:Int)(w:ar)(h1:l<=lo)(h2:lo<=hi)(h3:hi<=m):bu aq 152 #[aR #[ah ag lo,ah ag hi],ah ag l,ah ag m] w fun e w'=>e=aF (aH true)/\az w.heap.size w w':=by
 go_enter Tryz.func152,Tryz.ntmps152
 go_wp2
 go_ret
 exact⟨rfl,(au _ _).alloc (ax _) _⟩
theorem iK(n l m:Int)(h1:l<=n)(h2:n<=m)(w:ar):bu aq 138 #[ah ag n,ah ag l,ah ag m] w fun e w'=>e=aF (aH true)/\w=w':=by
 have:=qE n l m w;rw[gI.2 ⟨h1,h2⟩] at this;exact this
theorem np(b:BB)(bq aK aA:ak)(n:Int)(h1:1<=n)(h2:n<=b.minutes)(w:ar):bu aq 132 #[aR (b.cells bq aK aA),ah ag n] w fun e w'=>e=aF (aH true)/\az w.heap.size w w':=by
 go_enter Tryz.func132,Tryz.ntmps132
 go_wp2_with (go_at_call 138;refine(iK _ _ _ (by omega) (by omega) _).mono ?_;rintro e w' ⟨rfl,rfl⟩)
 go_ret
 exact⟨rfl,(au _ _).alloc (ax _) _⟩
theorem OG(b:BB)(hb:b.Ok)(bq aK aA:ak)(w:ar):bu aq 218 #[aR (b.cells bq aK aA)] w fun e w'=>e=aF (ah ag 0)/\az w.heap.size w w':=by
 have h1:=hb.room;have h2:=hb.depth;have h3:=hb.least;have h4:=hb.minutes
 go_enter Tryz.func218,Tryz.ntmps218
 go_wp2_with (go_at_call 138;refine(iK _ _ _ (by omega) (by omega) _).mono ?_;rintro e w' ⟨rfl,rfl⟩)
 go_ret
 exact⟨rfl,(au _ _).alloc (ax _) _⟩
theorem OD(b:BB)(hb:b.Ok)(bq aK aA:ak)(w:ar):bu aq 219 #[aR (b.cells bq aK aA)] w fun e w'=>e=aF (ah ag 0)/\az w.heap.size w w':=by
 have h1:=hb.cD;have h2:=hb.iL;have h3:=hb.ie;have h4:=hb.eh;have h5:=hb.leak;have h6:=hb.IU;have h7:=hb.minutes;have HK:Hid ((w.alloc (aw (b.cells bq aK aA) 119)).heap[w.heap.size]?=some (aw (b.cells bq aK aA) 119 (0,0))):=aj (ay w _)
 go_enter Tryz.func219,Tryz.ntmps219
 go_wp2
 go_loopw [4,16] (fun _ i wr=>((i=ah ag 0\/i=ah ag 1)\/(i=ah ag 2\/i=ah ag 3))/\wr=(w.alloc (aw (b.cells bq aK aA) 119)).alloc (aw #[ah ag b.cD,ah ag b.iL,ah ag b.ie] 3)) (fun _ i _=>3-(intOf i).toNat)
 case atStart=>exact⟨cK (cK rfl),rfl⟩
 case round=>
  obtain⟨hi,rfl⟩:=hrel;rcases hi with(rfl|rfl)|(rfl|rfl)
  .go_wp2_with (go_at_call 138;refine(iK _ _ _ (by omega) (by omega) _).mono ?_;rintro e w' ⟨rfl,rfl⟩)
   go_roundw
   case rel=>exact⟨cK (.inr rfl),trivial⟩
   case measure=>simp[intOf]
  .go_wp2_with (go_at_call 138;refine(iK _ _ _ (by omega) (by omega) _).mono ?_;rintro e w' ⟨rfl,rfl⟩)
   go_roundw
   case rel=>exact⟨.inr (cK rfl),trivial⟩
   case measure=>simp[intOf]
  .go_wp2_with (go_at_call 138;refine(iK _ _ _ (by omega) (by omega) _).mono ?_;rintro e w' ⟨rfl,rfl⟩)
   go_roundw
   case rel=>exact⟨.inr (.inr rfl),trivial⟩
   case measure=>simp[intOf]
  go_wp2_with (go_at_call 138;refine(iK _ _ _ (by omega) (by omega) _).mono ?_;rintro e w' ⟨rfl,rfl⟩)
  go_at_call 152
  refine(sQ _ _ _ _ _ (by omega) (by omega) (by omega)).mono ?_;rintro e w2 ⟨rfl,hb2⟩;have hk2:w2.heap[w.heap.size]?=some (aw (b.cells bq aK aA) 119 (0,0)):=(hb2.block _ (by simp;omega)).trans ((aX _ _ _ (by simp)).trans HK.out);have hs2:=hb2.size;simp at hs2;obtain⟨x0,x1,x2,x3,x4,x5,x6,x7,x8,x9,oh,og,o6,oA,oW⟩:=bT hk2
  go_wp2_with fail
  refine(sQ _ _ _ _ _ (by omega) (by omega) (by omega)).mono ?_;rintro e w3 ⟨rfl,hb3⟩;clear x0 x1 x2 x3 x4 x5 x6 x7 x8 x9 oh og o6 oA oW;obtain⟨x0,x1,x2,x3,x4,x5,x6,x7,x8,x9,oh,og,o6,oA,oW⟩:=bT ((hb3.block _ (by omega)).trans hk2);go_wp2
  go_ret
  exact⟨rfl,((((au _ _).alloc (ax _) _).alloc (by simp) _).trans (hb2.mono (by simp;omega))).trans (hb3.mono (by omega))⟩
structure eU(b:BB)(pl:List Int):Prop where
 mem:∀p∈pl,1<=p/\p<=b.minutes
 asc:∀(k:Nat) (h:k+1<pl.length),pl[k]<pl[k+1]
 len:(pl.length:Int)<=b.eh
theorem qB(b:BB)(hb:b.Ok)(bq aK aA v:ak)(pl:List Int)(hp:eU b pl)(w:ar)(hv:Reads w v pl.length (pl.map (aB ag))) :
  bu aq 113 #[aR (b.cells bq aK aA),v] w fun e w'=>e=aF (ah ag 0)/\az w.heap.size w w':=by
 have hc3:=hb.eh;have xW:=hb.minutes;have HP:=aj hp;rcases hv with⟨rfl,hn,_⟩|⟨g,off,cap,rfl,hn,hg,hc⟩
 .obtain rfl:=bf hn;clear hn hp;have HK:Hid ((w.alloc (aw (b.cells bq aK aA) 119)).heap[w.heap.size]?=some (aw (b.cells bq aK aA) 119 (0,0))):=aj (ay w _)
  go_enter Tryz.func113,Tryz.ntmps113
  go_wp2
  go_loopw [9] (fun i wr=>i=ah ag 0/\az (w.heap.size+1) (w.alloc (aw (b.cells bq aK aA) 119)) wr) (fun _ _=>0)
  case atStart=>exact⟨rfl,au _ _⟩
  case round=>
   obtain⟨rfl,en⟩:=hrel;obtain⟨x0,x1,x2,x3,x4,x5,x6,x7,x8,x9,oh,og,o6,oA,oW⟩:=bT ((en.block w.heap.size (by omega)).trans HK.out);go_wp2
   go_ret
   exact⟨rfl,((au _ _).alloc (ax _) _).trans (en.mono (by omega))⟩
 have HC:=aj hc;have hlen:=hp.len;clear hc hp;generalize hL:pl.length=L at *;have HL:=aj hL;clear hL;have HK:Hid ((w.alloc (aw (b.cells bq aK aA) 119)).heap[w.heap.size]?=some (aw (b.cells bq aK aA) 119 (0,0))):=aj (ay w _)
 go_enter Tryz.func113,Tryz.ntmps113
 go_wp2
 go_loopw [5,6,9,14,19] (fun _ _ i _ _ wr=>∃k:Nat,k<=L/\i=ah ag k/\az (w.heap.size+1) (w.alloc (aw (b.cells bq aK aA) 119)) wr) (fun _ _ i _ _ _=>L-(intOf i).toNat)
 case atStart=>exact⟨0,by omega,rfl,au _ _⟩
 case round=>
  obtain⟨k,hk,rfl,en⟩:=hrel;have hsz:=en.size;simp at hsz;have Xl:w.heap.size<wr.heap.size:=by omega
  have hk2:wr.heap[w.heap.size]?=some (aw (b.cells bq aK aA) 119 (0,0)):=(en.block w.heap.size (by omega)).trans HK.out;obtain⟨x0,x1,x2,x3,x4,x5,x6,x7,x8,x9,oh,og,o6,oA,oW⟩:=bT hk2
  by_cases hlt:k<L
  .have kD:k<pl.length:=by rw[HL.out];exact hlt
   have Du:∀o,wr.cell? ⟨g,o,none⟩=w.cell? ⟨g,o,none⟩:=fun o=>(en.cell (p:=⟨g,o,none⟩) (by show g<_;omega)).trans (ey _ _ _ hg);have hcell:wr.cell? ⟨g,off+k,none⟩=some (ah ag pl[k]):=(Du _).trans (HC.out k _ (by simp[kD]));have hx:=HP.out.mem pl[k] (bV kD)
   by_cases h0:k=0
   .have vp:decide ((0:Int)<(k:Int))=false:=decide_eq_false (by omega);have ano:decide (0<k)=false:=decide_eq_false (by omega);have H0:=aj h0;clear h0;clear Du;generalize pl[k]=x at *;have GG:=aj hk2;clear hk2
    go_wp2_with fail
    refine(np b bq aK aA x hx.1 hx.2 _).mono ?_;rintro e w2 ⟨rfl,hb2⟩;go_wp2;go_roundw
    case rel=>exact⟨k+1,by omega,by go_num,en.trans (hb2.mono (by omega))⟩
    case measure=>simp[intOf];omega
   obtain⟨j,rfl⟩:∃j,k=j+1:=⟨k-1,by omega⟩
   have hcj:wr.cell? ⟨g,off+j,none⟩=some (ah ag pl[j]):=(Du _).trans (HC.out j _ (by simp[show j<pl.length by omega]));have has:=HP.out.asc j kD;have HGW:=aj Du;clear Du;generalize pl[j+1]=x at *;generalize pl[j]=y at *;have GG:=aj hk2;clear hk2;have vp:decide ((0:Int)<((j+1:Nat):Int))=true:=decide_eq_true (by omega);have hjj:IntKind.i64.wrap (((j+1:Nat):Int)-1)=(j:Int):=by rw[show((j+1:Nat):Int)-1=(j:Int) by omega];exact fE _ (by omega) (by omega)
   go_wp2_with fail
   refine(np b bq aK aA x hx.1 hx.2 _).mono ?_;rintro e w2 ⟨rfl,hb2⟩;have hc2:w2.cell? ⟨g,off+j,none⟩=some (ah ag y):=(hb2.cell (p:=⟨g,off+j,none⟩) (by show g<_;omega)).trans hcj;go_wp2;go_roundw
   case rel=>exact⟨j+1+1,by omega,by go_num,en.trans (hb2.mono (by omega))⟩
   case measure=>simp[intOf];omega
  obtain rfl:L=k:=by omega
  go_wp2
  go_ret
  exact⟨rfl,((au _ _).alloc (ax _) _).trans (en.mono (by omega))⟩
theorem OE(b:BB)(hb:b.Ok)(bq aK aA:ak)(pl:List Int)(hp:eU b pl)(w:ar)(hv:Reads w aK pl.length (pl.map (aB ag))) :
  bu aq 221 #[aR (b.cells bq aK aA)] w fun e w'=>e=aF (ah ag 0)/\az w.heap.size w w':=by
 have hv1:Reads (w.alloc (aw (b.cells bq aK aA) 119)) aK pl.length (pl.map (aB ag)):=hv.below ((au _ _).alloc (ax _) _);have hP:=qB b hb bq aK aA aK pl hp _ hv1;clear hv hv1
 go_enter Tryz.func221,Tryz.ntmps221
 go_wp2_with (go_at_call 113;refine hP.mono ?_;rintro e w2 ⟨rfl,hb2⟩)
 go_ret
 exact⟨rfl,((au _ _).alloc (ax _) _).trans (hb2.mono (by simp))⟩
structure lr(b:BB)(ms:List Mk):Prop where
 mem:∀m∈ms,1<=m.minute/\m.minute<=b.minutes/\0<=m.lo/\m.lo<=m.hi/\m.hi<=99
 len:ms.length<=3
theorem Ml(b:BB)(hb:b.Ok)(bq aK aA:ak)(ms:List Mk)(hm:lr b ms)(w:ar)(hv:Reads w aA ms.length (dY ms)) :
  bu aq 222 #[aR (b.cells bq aK aA)] w fun e w'=>e=aF (ah ag 0)/\az w.heap.size w w':=by
 have xW:=hb.minutes;have HM:=aj hm;have h3:=hm.len;rcases hv with⟨rfl,hn,_⟩|⟨g,off,cap,rfl,hn,hg,hc⟩
 .obtain rfl:=bf hn;clear hn hm h3;have HK:Hid ((w.alloc (aw (b.cells bq aK (ae none 0 0)) 119)).heap[w.heap.size]?=some (aw (b.cells bq aK (ae none 0 0)) 119 (0,0))):=aj (ay w _)
  go_enter Tryz.func222,Tryz.ntmps222
  go_wp2
  go_loopw [14] (fun i wr=>i=ah ag 0/\az (w.heap.size+1) (w.alloc (aw (b.cells bq aK (ae none 0 0)) 119)) wr) (fun _ _=>0)
  case atStart=>exact⟨rfl,au _ _⟩
  case round=>
   obtain⟨rfl,en⟩:=hrel;go_wp2
   go_ret
   exact⟨rfl,((au _ _).alloc (ax _) _).trans (en.mono (by omega))⟩
 have HC:=aj hc;clear hc hm;generalize hL:ms.length=L at *;have HL:=aj hL;clear hL;have HK:Hid ((w.alloc (aw (b.cells bq aK (ae (some ⟨g,off,none⟩) L cap)) 119)).heap[w.heap.size]?=some (aw (b.cells bq aK (ae (some ⟨g,off,none⟩) L cap)) 119 (0,0))):=aj (ay w _)
 go_enter Tryz.func222,Tryz.ntmps222
 go_wp2
 go_loopw [4,14,18,24] (fun _ i _ _ wr=>∃k:Nat,k<=L/\i=ah ag k/\az (w.heap.size+1) (w.alloc (aw (b.cells bq aK (ae (some ⟨g,off,none⟩) L cap)) 119)) wr) (fun _ i _ _ _=>L-(intOf i).toNat)
 case atStart=>exact⟨0,by omega,rfl,au _ _⟩
 case round=>
  obtain⟨k,hk,rfl,en⟩:=hrel;have hsz:=en.size;simp at hsz;have Xl:w.heap.size<wr.heap.size:=by omega
  have hk2:wr.heap[w.heap.size]?=some (aw (b.cells bq aK (ae (some ⟨g,off,none⟩) L cap)) 119 (0,0)):=(en.block w.heap.size (by omega)).trans HK.out;obtain⟨x0,x1,x2,x3,x4,x5,x6,x7,x8,x9,oh,og,o6,oA,oW⟩:=bT hk2
  by_cases hlt:k<L
  .have kD:k<ms.length:=by rw[HL.out];exact hlt
   have Du:∀o,wr.cell? ⟨g,o,none⟩=w.cell? ⟨g,o,none⟩:=fun o=>(en.cell (p:=⟨g,o,none⟩) (by show g<_;omega)).trans (ey _ _ _ hg);obtain⟨y0,y1,y2⟩:=wE (w:=wr) (fun j u hj=>(Du _).trans (HC.out j u hj)) k kD;have hx:=HM.out.mem ms[k] (bV kD);clear Du;generalize ms[k]=x at *;have GG:=aj hk2;clear hk2
   go_wp2_with fail
   refine(np b bq aK _ x.minute (by omega) (by omega) _).mono ?_;rintro e w2 ⟨rfl,hb2⟩;have NV:w2.heap[wr.heap.size]?=some (aw x.cells 81 (0,0)):=(hb2.block _ (by simp)).trans (ay wr _);have z0:w2.cell? ⟨wr.heap.size,0,none⟩=some (ah ag x.minute):=by unfold dJ;rw[NV];rfl
   have z1:w2.cell? ⟨wr.heap.size,1,none⟩=some (ah ag x.lo):=by unfold dJ;rw[NV];rfl
   have z2:w2.cell? ⟨wr.heap.size,2,none⟩=some (ah ag x.hi):=by unfold dJ;rw[NV];rfl
   clear NV;have hs2:=hb2.size;simp at hs2
   go_wp2_with (go_at_call 152;refine(sQ _ _ _ _ _ (by omega) (by omega) (by omega)).mono ?_;rintro e w3 ⟨rfl,hb3⟩)
   go_roundw
   case rel=>exact⟨k+1,by omega,by go_num,((en.alloc (by omega) _).trans (hb2.mono (by simp;omega))).trans (hb3.mono (by omega))⟩
   case measure=>simp[intOf];omega
  obtain rfl:L=k:=by omega
  go_wp2
  go_ret
  exact⟨rfl,((au _ _).alloc (ax _) _).trans (en.mono (by omega))⟩
structure J2(s:ByteArray):Prop where
 size:1<=s.size/\s.size<=12
 chr:∀(k:Nat) (h:k<s.size),(97<=s[k].toNat/\s[k].toNat<=122)\/(k≠0/\48<=s[k].toNat/\s[k].toNat<=57)
theorem JP(s:ByteArray)(cap k:Nat)(h:k<s.size):(bytesRow s cap)[k]?=some (ah .u8 (s[k].toNat:Int)):=by
 unfold bytesRow;have hd:k<s.data.size:=h;rw[Array.getElem?_append_left (by simpa using hd),Array.getElem?_map,aQ hd];rfl
theorem TX(s:ByteArray)(hs:J2 s)(w:ar):bu aq 223 #[.string s] w fun e w'=>e=aF (aH true)/\az w.heap.size w w':=by
 have YT:=run_bytes_of_string (P:=aq) w 9 234 5 s Tryz.underlying9 Tryz.underlying234 Tryz.underlying5;have h1:=hs.size;have HS:=aj hs;generalize grownCap w s.size 0 5=cap at *;have hC:=JP s cap;generalize bytesRow s cap=C at *;obtain⟨n,hn⟩:∃n,s.size=n:=⟨_,rfl⟩
 rw[hn] at YT h1;have HN:=aj hn;have HC:=aj hC;clear hn hC hs;have hB1:az w.heap.size w (w.drew.alloc (aw C 5 (C.size,C.size+1))):=(au _ _).drew.alloc (by simp) _
 go_enter Tryz.func223,Tryz.ntmps223
 go_wp2;clear YT
 go_loopw [3,4,8] (fun _ _ i wr=>∃k:Nat,k<=n/\i=ah ag k/\wr=(w.alloc (aw C 5 (C.size,C.size+1))).drew) (fun _ _ i _=>n-(intOf i).toNat)
 case atStart=>exact⟨0,by omega,rfl,rfl⟩
 case round=>
  obtain⟨k,hk,rfl,rfl⟩:=hrel
  by_cases hlt:k<n
  .have kD:k<s.size:=by rw[HN.out];exact hlt
   have hck:=HC.out k kD
   have hcell:(w.alloc (aw C 5 (C.size,C.size+1))).cell? ⟨w.heap.size,k,none⟩=some (ah .u8 (s[k].toNat:Int)):=by
    unfold dJ;rw[ay];exact hck
   have hch:=HS.out.chr k kD;have anj:s[k].toNat<256:=s[k].toNat_lt;generalize s[k].toNat=c at *;clear hck;have hI:=qE (c:Int) 97 122;have hD:=qE (c:Int) 48 57;have hcv:IntKind.i64.wrap (c:Int)=c:=fE _ (by omega) (by omega);rcases hch with hch|⟨hk0,hch⟩
   .have e1:aV (c:Int) 97 122=true:=gI.2 ⟨by omega,by omega⟩;rw[e1] at hI;clear hD e1;have HCH:=aj hch;clear hch
    go_wp2_with (go_at_call 138;refine(hI _).mono ?_;rintro e w' ⟨rfl,rfl⟩)
    go_roundw
    case rel=>exact⟨k+1,by omega,by go_num,trivial⟩
    case measure=>simp[intOf];omega
   have e1:aV (c:Int) 97 122=false:=by unfold aV;rw[decide_eq_false (by omega)];rfl
   have e2:aV (c:Int) 48 57=true:=gI.2 ⟨by omega,by omega⟩;rw[e1] at hI;rw[e2] at hD;have e3:((k:Int)==0)=false:=by simp;omega
   have e4:(k==0)=false:=by simp;omega
   clear e1 e2;have HCH:=aj hch;have HK0:=aj hk0;clear hch hk0
   go_wp2_with fail
   refine(hI _).mono ?_;rintro e w' ⟨rfl,rfl⟩
   go_wp2_with fail
   refine(hD _).mono ?_;rintro e w' ⟨rfl,rfl⟩;go_wp2;go_roundw
   case rel=>exact⟨k+1,by omega,by go_num,trivial⟩
   case measure=>simp[intOf];omega
  obtain rfl:n=k:=by omega
  have hs1:=HS.out.size
  go_wp2_with (go_at_call 138;refine(iK _ _ _ (by omega) (by omega) _).mono ?_;rintro e w' ⟨rfl,rfl⟩)
  go_ret
  exact⟨rfl,((au _ _).alloc (ax _) _).drew⟩
structure Mn where
 name:ByteArray
 lo:Int
 hi:Int
abbrev Mn.cells(m:Mn):Array Value:=#[.string m.name,ah ag m.lo,ah ag m.hi]
def fF(l:List Mn):List Value:=l.flatMap fun m=>m.cells.toList
theorem wA(l:List Mn):(fF l).length=3*l.length:=by
 induction l with
 |nil=>rfl
 |cons a l ih=>simp[fF] at ih ⊢;omega
theorem nQ:∀(l:List Mn) (k j:Nat) (hk:k<l.length),j<3->(fF l)[3*k+j]?=l[k].cells[j]?
 |[],k,j,hk,_=>by simp at hk
 |a::l,0,j,_,hj=>by
  have:fF (a::l)=a.cells.toList++fF l:=rfl;rw[this,Aq (by simp;omega)];simp
 |a::l,k+1,j,hk,hj=>by
  have e:fF (a::l)=a.cells.toList++fF l:=rfl;rw[e,List.getElem?_append_right (by simp;omega)];have:=nQ l k j (by simpa using hk) hj;simp only[List.getElem_cons_succ];rw[<-this]
  congr 1
  simp;omega
theorem Dt{w:ar}{g off:Nat}{l:List Mn}(hc:∀j u,(fF l)[j]?=some u->w.cell? ⟨g,off+j,none⟩=some u)(k:Nat)(hk:k<l.length) :
  w.cell? ⟨g,off+k*3,none⟩=some (.string l[k].name)/\w.cell? ⟨g,off+k*3+1,none⟩=some (ah ag l[k].lo)/\w.cell? ⟨g,off+k*3+2,none⟩=some (ah ag l[k].hi):=
 ⟨hc (k*3) _ (by have:=nQ l k 0 hk (by omega);rw[vh];simpa using this),hc (k*3+1) _ (by rw[vh,nQ l k 1 hk (by omega)];rfl),hc (k*3+2) _ (by rw[vh,nQ l k 2 hk (by omega)];rfl)⟩
structure CQ(l:List Mn):Prop where
 mem:∀m∈l,J2 m.name/\1<=m.lo/\m.lo<=m.hi/\m.hi<=99/\m.hi-m.lo<3
 apart:∀(i k:Nat) (hi:i<l.length) (hk:k<l.length),i<k->l[i].name≠l[k].name
 len:l.length<=3
theorem Mz{a b:ByteArray}(h:a≠b):¬a.toList=b.toList:=by
 intro e;rw[ByteArray.toList_eq,ByteArray.toList_eq] at e;obtain⟨⟨x⟩⟩:=a;obtain⟨⟨y⟩⟩:=b;have:x=y:=e;subst this;exact h rfl
theorem IK(m:Mn)(o:ByteArray)(hne:m.name≠o)(B:Nat)(w:ar)(hB:w.cell? ⟨B,0,none⟩=some (.string o))(hBl:B<w.heap.size):bu aq 225 #[aR m.cells,aS (some ⟨B,0,none⟩)] w fun e w'=>e=aF (aH false)/\az w.heap.size w w':=by
 have H:=aj (Mz hne);clear hne
 go_enter Tryz.func225,Tryz.ntmps225
 go_wp2
 go_ret
 exact⟨qw (by simpa using H.out),(au _ _).alloc (ax _) _⟩
theorem Lm(l:List Mn)(o:ByteArray)(hne:∀m∈l,m.name≠o)(g off L cap B:Nat)(w:ar)(hL:l.length=L)(hL2:L<=4294967296)(hg:g<w.heap.size)(hc:∀j u,(fF l)[j]?=some u->w.cell? ⟨g,off+j,none⟩=some u)
  (hB:w.cell? ⟨B,0,none⟩=some (.string o)) (hBl:B<w.heap.size) :
  bu aq 226 #[ae (some ⟨g,off,none⟩) L cap,.func (.func 225) #[] #[aS (some ⟨B,0,none⟩)]] w fun e w'=>e=aF (ah ag (-1))/\az w.heap.size w w':=by
 have HC:=aj hc;have HN:=aj hne;have HL:=aj hL;have HB:=aj hB;clear hc hne hL hB
 go_enter Tryz.func226,Tryz.ntmps226
 go_wp2
 go_loopw [5,8] (fun _ i wr=>∃k:Nat,k<=L/\i=ah ag k/\az w.heap.size w wr) (fun _ i _=>L-(intOf i).toNat)
 case atStart=>exact⟨0,by omega,rfl,au _ _⟩
 case round=>
  obtain⟨k,hk,rfl,en⟩:=hrel
  by_cases hlt:k<L
  .have kD:k<l.length:=by rw[HL.out];exact hlt
   have Du:∀o,wr.cell? ⟨g,o,none⟩=w.cell? ⟨g,o,none⟩:=fun o=>en.cell (p:=⟨g,o,none⟩) hg;obtain⟨y0,y1,y2⟩:=Dt (w:=wr) (fun j u hj=>(Du _).trans (HC.out j u hj)) k kD;have hS:=IK l[k] o (HN.out _ (bV kD)) B wr ((en.cell (p:=⟨B,0,none⟩) hBl).trans HB.out) (bA hBl en.size);clear Du;have hsz:=en.size;generalize l[k]=x at *
   go_wp2_with (go_at_call 225;refine hS.mono ?_;rintro e w2 ⟨rfl,hb2⟩)
   go_roundw
   case rel=>exact⟨k+1,by omega,by go_num,en.trans (hb2.mono hsz)⟩
   case measure=>simp[intOf];omega
  obtain rfl:L=k:=by omega
  go_wp2
  go_ret
  exact⟨rfl,en⟩
theorem Fb(l:List Mn)(o:ByteArray)(hne:∀m∈l,m.name≠o)(g off L cap B:Nat)(w:ar)(hL:l.length=L)(hL2:L<=4294967296)(hg:g<w.heap.size)(hc:∀j u,(fF l)[j]?=some u->w.cell? ⟨g,off+j,none⟩=some u)
  (hB:w.cell? ⟨B,0,none⟩=some (.string o)) (hBl:B<w.heap.size) :
  bu aq 224 #[ae (some ⟨g,off,none⟩) L cap,.func (.func 225) #[] #[aS (some ⟨B,0,none⟩)]] w fun e w'=>e=aF (aH false)/\az w.heap.size w w':=by
 have hI:=Lm l o hne g off L cap B w hL hL2 hg hc hB hBl;clear hne hL hc hB
 go_enter Tryz.func224,Tryz.ntmps224
 go_wp2_with (go_at_call 226;refine hI.mono ?_;rintro e w2 ⟨rfl,hb2⟩)
 go_ret
 exact⟨rfl,hb2⟩
theorem R3(b:BB)(bq aK aA:ak)(l:List Mn)(hl:CQ l)(w:ar)(hv:Reads w bq l.length (fF l)) :
  bu aq 220 #[aR (b.cells bq aK aA)] w fun e w'=>e=aF (ah ag 0)/\az w.heap.size w w':=by
 have HM:=aj hl;have h3:=hl.len;rcases hv with⟨rfl,hn,_⟩|⟨g,off,cap,rfl,hn,hg,hc⟩
 .obtain rfl:=bf hn;clear hn hl h3
  go_enter Tryz.func220,Tryz.ntmps220
  go_wp2
  go_loopw [14] (fun i wr=>i=ah ag 0/\az (w.heap.size+1) (w.alloc (aw (b.cells (ae none 0 0) aK aA) 119)) wr) (fun _ _=>0)
  case atStart=>exact⟨rfl,au _ _⟩
  case round=>
   obtain⟨rfl,en⟩:=hrel;go_wp2
   go_ret
   exact⟨rfl,((au _ _).alloc (ax _) _).trans (en.mono (by omega))⟩
 have HC:=aj hc;clear hc hl;generalize hL:l.length=L at *;have HL:=aj hL;clear hL;have HK:Hid ((w.alloc (aw (b.cells (ae (some ⟨g,off,none⟩) L cap) aK aA) 119)).heap[w.heap.size]?=some (aw (b.cells (ae (some ⟨g,off,none⟩) L cap) aK aA) 119 (0,0))):=aj (ay w _)
 go_enter Tryz.func220,Tryz.ntmps220
 go_wp2
 go_loopw [3,4,14,19,24,32] (fun _ _ i _ _ _ wr=>∃k:Nat,k<=L/\i=ah ag k/\az (w.heap.size+1) (w.alloc (aw (b.cells (ae (some ⟨g,off,none⟩) L cap) aK aA) 119)) wr) (fun _ _ i _ _ _ _=>L-(intOf i).toNat)
 case atStart=>exact⟨0,by omega,rfl,au _ _⟩
 case round=>
  obtain⟨k,hk,rfl,en⟩:=hrel;have hsz:=en.size;simp at hsz;have Xl:w.heap.size<wr.heap.size:=by omega
  by_cases hlt:k<L
  .have kD:k<l.length:=by rw[HL.out];exact hlt
   have Du:∀o,wr.cell? ⟨g,o,none⟩=w.cell? ⟨g,o,none⟩:=fun o=>(en.cell (p:=⟨g,o,none⟩) (by show g<_;omega)).trans (ey _ _ _ hg);obtain⟨y0,y1,y2⟩:=Dt (w:=wr) (fun j u hj=>(Du _).trans (HC.out j u hj)) k kD;obtain⟨Rv,hx⟩:=HM.out.mem l[k] (bV kD)
   have hne:∀m∈l.take k,m.name≠l[k].name:=by
    intro m hm;obtain⟨i,hi,rfl⟩:=List.mem_iff_getElem.1 hm;have hik:i<k:=by simp at hi;omega
    rw[List.getElem_take];exact HM.out.apart i k (by omega) kD hik
   have hrow:∀(j:Nat) (u:ak),(fF (l.take k))[j]?=some u->(fF l)[j]?=some u:=by
    intro j u hj
    have e:fF l=fF (l.take k)++fF (l.drop k):=by
     unfold fF;rw[<-List.flatMap_append,List.take_append_drop]
    rw[e,Aq (List.getElem?_eq_some_iff.1 hj).1];exact hj
   have HGW:=aj Du;have HNE:=aj hne;have aji:=aj hrow;have hlk:(l.take k).length=k:=by simp;omega
   have HLK:=aj hlk;have ah1:=TX l[k].name Rv;clear Du hne hrow hlk Rv;generalize l.take k=lk at *;generalize l[k]=x at *;have sA:wr.heap[w.heap.size]?=some (aw (b.cells (ae (some ⟨g,off,none⟩) L cap) aK aA) 119 (0,0)):=(en.block w.heap.size (by omega)).trans HK.out;have HKK:=aj sA;clear sA
   go_wp2_with fail
   refine(ah1 _).mono ?_;rintro e w2 ⟨rfl,hb2⟩;have NV:w2.heap[wr.heap.size]?=some (aw x.cells 79 (0,0)):=(hb2.block _ (by simp)).trans (ay wr _);have z0:w2.cell? ⟨wr.heap.size,0,none⟩=some (.string x.name):=by unfold dJ;rw[NV];rfl
   have hs2:=hb2.size;simp at hs2;have aee:w2.heap[w.heap.size]?=some (aw (b.cells (ae (some ⟨g,off,none⟩) L cap) aK aA) 119 (0,0)):=(hb2.block _ (by simp;omega)).trans ((aX _ _ _ Xl).trans HKK.out);have ad0:∀o,w2.cell? ⟨g,o,none⟩=w.cell? ⟨g,o,none⟩:=fun o=>((hb2.cell (p:=⟨g,o,none⟩) (by show g<_;simp;omega)).trans (ey _ _ _ (by show g<_;omega))).trans (HGW.out o);have hCt:=Fb lk x.name HNE.out g off k cap wr.heap.size w2 HLK.out (by omega) (by omega) (fun j u hj=>(ad0 _).trans (HC.out j u (aji.out j u hj))) z0 (by omega);obtain⟨x0,x1,x2,x3,x4,x5,x6,x7,x8,x9,oh,og,o6,oA,oW⟩:=bT aee;have HXK:=aj NV;clear NV ad0 aee
   go_wp2_with fail
   refine hCt.mono ?_;rintro e w3 ⟨rfl,hb3⟩;have Xj:w3.heap[wr.heap.size]?=some (aw x.cells 79 (0,0)):=(hb3.block _ (by omega)).trans HXK.out;have u1:w3.cell? ⟨wr.heap.size,1,none⟩=some (ah ag x.lo):=by unfold dJ;rw[Xj];rfl
   have u2:w3.cell? ⟨wr.heap.size,2,none⟩=some (ah ag x.hi):=by unfold dJ;rw[Xj];rfl
   have aos:=aj Xj;have hs3:=hb3.size;clear Xj x0 x1 x2 x3 x4 x5 x6 x7 x8 x9 oh og o6 oA oW z0
   go_wp2_with fail
   refine(sQ _ _ _ _ _ (by omega) (by omega) (by omega)).mono ?_;rintro e w4 ⟨rfl,hb4⟩;have v1:w4.cell? ⟨wr.heap.size,1,none⟩=some (ah ag x.lo):=(hb4.cell (p:=⟨wr.heap.size,1,none⟩) (by show wr.heap.size<_;omega)).trans u1;have v2:w4.cell? ⟨wr.heap.size,2,none⟩=some (ah ag x.hi):=(hb4.cell (p:=⟨wr.heap.size,2,none⟩) (by show wr.heap.size<_;omega)).trans u2;go_wp2;go_roundw
   case rel=>exact⟨k+1,by omega,by go_num,(((en.alloc (by omega) _).trans (hb2.mono (by simp;omega))).trans (hb3.mono (by omega))).trans (hb4.mono (by omega))⟩
   case measure=>simp[intOf];omega
  obtain rfl:L=k:=by omega
  go_wp2
  go_ret
  exact⟨rfl,((au _ _).alloc (ax _) _).trans (en.mono (by omega))⟩
section
variable(P:aL)(w:ar)(a:Addr)(m:Mode)
@[go_sem] theorem Tc (f:Fn) (c d:Array ak):(store a (.func f c d) m).run P w=stored P w a (.func f c d) m:=run_store P w a _ m rfl
end
structure Laid(w:ar):Prop where
 c0:w.cell? ⟨0,0,none⟩=some (.func (.func 218) #[] #[])
 c1:w.cell? ⟨0,1,none⟩=some (.func (.func 219) #[] #[])
 c2:w.cell? ⟨0,2,none⟩=some (.func (.func 220) #[] #[])
 c3:w.cell? ⟨0,3,none⟩=some (.func (.func 221) #[] #[])
 c4:w.cell? ⟨0,4,none⟩=some (.func (.func 222) #[] #[])
 lt:0<w.heap.size
theorem Laid.below{w w':ar}(h:Laid w)(hb:az w.heap.size w w'):Laid w':=
 ⟨(hb.cell (p:=⟨0,0,none⟩) h.lt).trans h.c0,(hb.cell (p:=⟨0,1,none⟩) h.lt).trans h.c1,(hb.cell (p:=⟨0,2,none⟩) h.lt).trans h.c2,(hb.cell (p:=⟨0,3,none⟩) h.lt).trans h.c3,(hb.cell (p:=⟨0,4,none⟩) h.lt).trans h.c4,bA h.lt hb.size⟩
structure cU(b:BB)(bq aK aA:ak)(ml:List Mn)(ss:List Int)(ms:List Mk)(w:ar):Prop where
 ok:b.Ok
 gZ:CQ ml
 mK:eU b ss
 lg:lr b ms
 rm:Reads w bq ml.length (fF ml)
 rs:Reads w aK ss.length (ss.map (aB ag))
 rk:Reads w aA ms.length (dY ms)
theorem cU.below{b:BB}{bq aK aA:ak}{ml:List Mn}{ss:List Int}{ms:List Mk}{w w':ar}(h:cU b bq aK aA ml ss ms w)(hb:az w.heap.size w w'):cU b bq aK aA ml ss ms w':=
 ⟨h.ok,h.gZ,h.mK,h.lg,h.rm.below hb,h.rs.below hb,h.rk.below hb⟩
theorem eV(b:BB)(bq aK aA:ak)(ml:List Mn)(ss:List Int)(ms:List Mk)(w:ar)(hL:Laid w)(hB:cU b bq aK aA ml ss ms w) :
  bu aq 71 #[aR (b.cells bq aK aA)] w fun e w'=>e=aF (ah ag 0)/\az w.heap.size w w':=by
 obtain⟨l0,l1,l2,l3,l4,llt⟩:=hL;have i0:∀w,(mR 163 (aR #[.func (.func 218) #[] #[],.func (.func 219) #[] #[],.func (.func 220) #[] #[],.func (.func 221) #[] #[],.func (.func 222) #[] #[]]) (ah ag 0)).run aq w=.ok (aR #[.func (.func 218) #[] #[]]) w:=fun _=>by kernel_rfl
 have i1:∀w,(mR 163 (aR #[.func (.func 218) #[] #[],.func (.func 219) #[] #[],.func (.func 220) #[] #[],.func (.func 221) #[] #[],.func (.func 222) #[] #[]]) (ah ag 1)).run aq w=.ok (aR #[.func (.func 219) #[] #[]]) w:=fun _=>by kernel_rfl
 have i2:∀w,(mR 163 (aR #[.func (.func 218) #[] #[],.func (.func 219) #[] #[],.func (.func 220) #[] #[],.func (.func 221) #[] #[],.func (.func 222) #[] #[]]) (ah ag 2)).run aq w=.ok (aR #[.func (.func 220) #[] #[]]) w:=fun _=>by kernel_rfl
 have i3:∀w,(mR 163 (aR #[.func (.func 218) #[] #[],.func (.func 219) #[] #[],.func (.func 220) #[] #[],.func (.func 221) #[] #[],.func (.func 222) #[] #[]]) (ah ag 3)).run aq w=.ok (aR #[.func (.func 221) #[] #[]]) w:=fun _=>by kernel_rfl
 have i4:∀w,(mR 163 (aR #[.func (.func 218) #[] #[],.func (.func 219) #[] #[],.func (.func 220) #[] #[],.func (.func 221) #[] #[],.func (.func 222) #[] #[]]) (ah ag 4)).run aq w=.ok (aR #[.func (.func 222) #[] #[]]) w:=fun _=>by kernel_rfl
 have HK:Hid ((w.alloc (aw (b.cells bq aK aA) 28)).heap[w.heap.size]?=some (aw (b.cells bq aK aA) 28 (0,0))):=aj (ay w _)
 go_enter Tryz.func71,Tryz.ntmps71
 go_wp2
 go_loopw [4,5,7] (fun _ _ i wr=>((i=ah ag 0\/i=ah ag 1)\/(i=ah ag 2\/i=ah ag 3)\/(i=ah ag 4\/i=ah ag 5))/\az (w.heap.size+1) (w.alloc (aw (b.cells bq aK aA) 28)) wr) (fun _ _ i _=>5-(intOf i).toNat)
 case atStart=>exact⟨cK (cK rfl),au _ _⟩
 case round=>
  obtain⟨hi,en⟩:=hrel;have hsz:=en.size;simp at hsz;have Xl:w.heap.size<wr.heap.size:=by omega
  have uS:az w.heap.size w wr:=((au _ _).alloc (ax _) _).trans (en.mono (by omega));have hB2:=hB.below uS;obtain⟨x0,x1,x2,x3,x4,x5,x6,x7,x8,x9,oh,og,o6,oA,oW⟩:=bT ((en.block w.heap.size (by omega)).trans HK.out);clear uS l0 l1 l2 l3 l4;rcases hi with(rfl|rfl)|(rfl|rfl)|(rfl|rfl)
  .go_wp2_with (go_at_call 218;refine(OG b hB2.ok bq aK aA _).mono ?_;rintro e w2 ⟨rfl,hb2⟩)
   have hs2:=hb2.size;simp at hs2;go_roundw
   case rel=>exact⟨cK (.inr rfl),(en.alloc (by omega) _).trans (hb2.mono (by simp;omega))⟩
   case measure=>simp[intOf]
  .go_wp2_with (go_at_call 219;refine(OD b hB2.ok bq aK aA _).mono ?_;rintro e w2 ⟨rfl,hb2⟩)
   have hs2:=hb2.size;simp at hs2;go_roundw
   case rel=>exact⟨.inr (cK (cK rfl)),(en.alloc (by omega) _).trans (hb2.mono (by simp;omega))⟩
   case measure=>simp[intOf]
  .go_wp2_with (go_at_call 220;refine(R3 b bq aK aA ml hB2.gZ _ (hB2.rm.below ((au _ _).alloc (ax _) _))).mono ?_;rintro e w2 ⟨rfl,hb2⟩)
   have hs2:=hb2.size;simp at hs2;go_roundw
   case rel=>exact⟨.inr (cK (.inr rfl)),(en.alloc (by omega) _).trans (hb2.mono (by simp;omega))⟩
   case measure=>simp[intOf]
  .go_wp2_with (go_at_call 221;refine(OE b hB2.ok bq aK aA ss hB2.mK _ (hB2.rs.below ((au _ _).alloc (ax _) _))).mono ?_;rintro e w2 ⟨rfl,hb2⟩)
   have hs2:=hb2.size;simp at hs2;go_roundw
   case rel=>exact⟨.inr (.inr (cK rfl)),(en.alloc (by omega) _).trans (hb2.mono (by simp;omega))⟩
   case measure=>simp[intOf]
  .go_wp2_with (go_at_call 222;refine(Ml b hB2.ok bq aK aA ms hB2.lg _ (hB2.rk.below ((au _ _).alloc (ax _) _))).mono ?_;rintro e w2 ⟨rfl,hb2⟩)
   have hs2:=hb2.size;simp at hs2;go_roundw
   case rel=>exact⟨.inr (.inr (.inr rfl)),(en.alloc (by omega) _).trans (hb2.mono (by simp;omega))⟩
   case measure=>simp[intOf]
  go_wp2
  go_ret
  exact⟨rfl,((au _ _).alloc (ax _) _).trans (en.mono (by omega))⟩
end Go.Proofs.YtffladgmkiimjaaGreatDoor
namespace Go.Proofs.YtffladgmkiimjaaGreatDoor
open Go Go.RowKit Go.Lag Go.ChangeShapes
abbrev Lj:List (String × DataW Unit):=[("lagan/bell.checks",Rows.laid_lagan_bell_checks)]
theorem Rj:Tryz.prog.globalNamed "lagan/bell.checks" = some 0:=by kernel_rfl
theorem TV:(Tryz.prog.globals[0]?).map (·.type)=some 163:=by kernel_rfl
theorem zA{W:ar}{n:Nat}{cs:List ak}{i:Nat}{f0:FuncId}{b:UInt8}{r:List UInt8}{xs:List (DataW (List UInt8) × List MemPlace)}(hlen:cs.length=5)(hi:i<5)
  (hel:∀(i:Nat),i<5->DataW.trod (funcToken aq) aq W 0 (fun _=>true) true n 162 ((cs.drop (i*1)).take 1)=xs[i]?) {q:List MemPlace} (hx:xs[i]?=some (.agg [.held (b::r)],q))
  (adG:((aU Tryz.prog.funcs.size).filter fun f=>(Tryz.prog.funcs[f]?).any (·.name.toUTF8.data.toList==b::r))=[f0]):cs[i]?=some (.func (.func f0) #[] #[]):=by
 have h:=hel i hi;rw[hx] at h;obtain⟨ys,m,-,hy,-,hl,hf⟩:=DataW.trod_struct Tryz.underlying162 h;have h0:=hf 0 _ rfl;have hl:ys.length=1:=hl
 match ys,hl with
 |[y],_=>
  have aiX:Tryz.prog.cellsOf 125=1:=by kernel_rfl
  simp only[cZ,List.map_nil,iO,DataW.agg.injEq,Ax,and_true] at hy
  have e:List.take 1 (List.drop 0 (List.take 1 (List.drop (i*1) cs)))=[cs[i]'(by omega)]:=by
   rw[Nat.mul_one,dS (l:=cs) (i:=i) (by omega)];rfl
  have h0':DataW.trod (funcToken aq) aq W 0 (fun _=>true) true m 125 (List.take (Tryz.prog.cellsOf 125) (List.drop 0 (List.take 1 (List.drop (i*1) cs))))=some y:=h0;rw[aiX,e] at h0';have h1:DataW.trod (funcToken aq) aq W 0 (fun _=>true) true m 125 [cs[i]'(by omega)]=some (.held (b::r),y.2):=by rw[h0',hy.1]
  have:=func_of_trod Tryz.underlying125 adG h1;rw[List.getElem?_eq_getElem (by omega),this]
theorem WU{W:ar}(h:laidMetH aq Lj W):Laid W:=by
 obtain⟨g,t,cs,fuel,p,hg,ht,hv,htr⟩:=laidMetH.funcs h (.head _);obtain rfl:=bj (Rj.symm.trans hg);obtain rfl:=bj (TV.symm.trans ht);obtain⟨xs,m,-,hx,hlen,hxl,hel⟩:=DataW.trod_array Tryz.underlying163 htr;have aiV:Tryz.prog.cellsOf 163=5:=by kernel_rfl
 have aiW:Tryz.prog.cellsOf 162=1:=by kernel_rfl
 rw[aiV] at hlen;simp only[aiW] at hel;simp only[iO] at hx;have hx:=hx.1;simp only[DataW.funcsOut,DataW.funcsOutAll,DataW.agg.injEq] at hx
 match xs,hxl with
 |[x0,x1,x2,x3,x4],_=>
  simp only[cZ,List.map_nil,Ax,and_true] at hx;obtain⟨y0,y1,y2,y3,y4⟩:=hx;have hc:=World.var?_cell hg hv;have hs:∀(i:Nat) (u:ak),cs.toList[i]?=some u->W.cell? ⟨0,i,none⟩=some u:=fun i u h=>(hc i).trans (by rw[<-Array.getElem?_toList];exact h);have z0:=hs 0 _ (zA (f0:=218) (q:=x0.2) hlen (by decide) hel (congrArg some (Prod.ext y0.symm rfl)) (by kernel_rfl));have z1:=hs 1 _ (zA (f0:=219) (q:=x1.2) hlen (by decide) hel (congrArg some (Prod.ext y1.symm rfl)) (by kernel_rfl));have z2:=hs 2 _ (zA (f0:=220) (q:=x2.2) hlen (by decide) hel (congrArg some (Prod.ext y2.symm rfl)) (by kernel_rfl));have z3:=hs 3 _ (zA (f0:=221) (q:=x3.2) hlen (by decide) hel (congrArg some (Prod.ext y3.symm rfl)) (by kernel_rfl));have z4:=hs 4 _ (zA (f0:=222) (q:=x4.2) hlen (by decide) hel (congrArg some (Prod.ext y4.symm rfl)) (by kernel_rfl));exact⟨z0,z1,z2,z3,z4,Nat.lt_of_not_le fun h=>by rw[dJ,fH h] at z0;cases z0⟩
end Go.Proofs.YtffladgmkiimjaaGreatDoor
namespace Go.Lag
open Go Go.RowKit
abbrev pv(b i:Nat):Value:=.pointer (some ⟨b,i,none⟩)
def Yields(P:aL)(o:cR)(ev:bL->ak)(w:ar)(R:ak->ar->Prop):Prop:=
 match (cG ev o).run P w with
 |.ok (.value v) w'=>R v w'
 |.ok .skip w'=>R af w'
 |.ok (.enter f args) w'=>bu P f args w' fun e w''=>∃v,e=.returned v/\R v w''
 |_=>False
theorem Yields.value{P:aL}{o:cR}{ev:bL->ak}{w w':ar}{R:ak->ar->Prop}{v:ak}(he:(cG ev o).run P w=.ok (.value v) w')(h:R v w'):Yields P o ev w R:=by
 unfold Yields;rw[he];exact h
theorem Yields.skip{P:aL}{o:cR}{ev:bL->ak}{w w':ar}{R:ak->ar->Prop}(he:(cG ev o).run P w=.ok .skip w')(h:R af w'):Yields P o ev w R:=by
 unfold Yields;rw[he];exact h
theorem Yields.call{P:aL}{o:cR}{ev:bL->ak}{w:ar}{R:ak->ar->Prop}{f:FuncId}{args:Array ak}{R':Ending->ar->Prop}(he:(cG ev o).run P w=.ok (.enter f args) w)
  (h:bu P f args w R') (hr:∀e w',R' e w'->∃v,e=.returned v/\R v w'):Yields P o ev w R:=by
 unfold Yields;rw[he];exact h.mono hr
theorem Yields.wp{P:aL}{o:cR}{a:kH}{w:ar}{R:ak->ar->Prop}{K:kH->ar->Prop}{Q:Exit->kH->ar->Prop}(h:Yields P o a.eval w R)
  (hk:∀v w',R v w'->K (a.put o.dst v) w'):o.wp P a w K Q:=by
 unfold Oper.wp;unfold Yields at h;generalize (cG a.eval o).run P w=r at *;cases r with
 |halt x w'=>exact h.elim
 |ok n w'=>
  cases n<;>simp only[] at h
  .exact hk _ _ h
  .exact hk _ _ h
  all_goals first|exact h.elim|skip
  exact h.mono (by rintro e w'' ⟨v,rfl,hv⟩;exact hk _ _ hv)
abbrev Pred:=ak->List ak->ar->Prop
def eb(aN:Array cR)(j:Nat):Option Tmp:=(aN[j]?).bind (·.dst)
def jg(d:Option kG)(ev:bL->ak):Value:=
 match d with
 |some d=>ev (.tmp d)
 |none=>af
def gq(Vs:List Pred)(i:Nat):Pred:=Vs.getD i fun _ _ _=>True
def gu(aN:Array cR)(ev:bL->ak)(l:List Edge):List Value:=(l.filter (fG .any)).map fun e=>jg (eb aN e.on) ev
def fV(aN:Array cR)(i:Nat):List Edge:=match aN[i]? with|some o=>o.after.toList|none=>[]
def fZ(ev:bL->ak):List (kG × ak)->Prop
 |[]=>True
 |(t,v)::l=>ev (.tmp t)=v/\fZ ev l
def FI(aN:Array cR)(Vs:List Pred)(ev:bL->ak)(w:ar):List Edge->Prop
 |[]=>True
 |e::l=>(fG .any e=true->gq Vs e.on (jg (eb aN e.on) ev) (gu aN ev (fV aN e.on)) w)/\FI aN Vs ev w l
def Post(aN:Array cR)(ev:bL->ak)(Vs:List Pred)(S:ar->Prop)(i:Nat)(o:cR)(w:ar)(v:ak)(w':ar):Prop:=
 gq Vs i (match o.dst with|some _=>v|none=>af) (gu aN ev o.after.toList) w'/\(az w.heap.size w w'\/(S w'/\∀k u ds,k≠i->gq Vs k u ds w->gq Vs k u ds w'))
abbrev mE:=cR->(bL->ak)->ar->(ak->ar->Prop)->Prop
def Qg(Y:mE)(aN:Array cR)(Vs:List Pred)(S:ar->Prop)(base:List (kG × ak))(i:Nat)(o:cR):Prop:=
 ∀(ev:bL->ak) (w:ar),S w->(∀v,ev (.const v)=v)->(∀g,ev (.global g)=.pointer (some ⟨g,0,none⟩))->(∀f,ev (.func f)=.func (.func f) #[] #[])->fZ ev base->FI aN Vs ev w o.after.toList->
  match o.guard with
  |none=>Y o ev w (Post aN ev Vs S i o w)
  |some (j,b)=>(∃r,jg (eb aN j) ev=.bool r)/\∀r,jg (eb aN j) ev=.bool r->if r=b then Y o ev w (Post aN ev Vs S i o w) else Post aN ev Vs S i o w af w
def Each(Y:mE)(aN:Array cR)(Vs:List Pred)(S:ar->Prop)(base:List (kG × ak)):Nat->List cR->Prop
 |_,[]=>True
 |i,o::l=>Qg Y aN Vs S base i o/\Each Y aN Vs S base (i+1) l
def jv(S:ar->Prop):List Pred->Prop
 |[]=>True
 |V::l=>(∀u ds w w',S w->V u ds w->az w.heap.size w w'->V u ds w')/\jv S l
def ji(aN:Array cR)(n:Nat)(base:List (kG × ak)):Bool:=
 ((aU aN.size).all fun i=>
  match aN[i]? with
  |none=>false
  |some o=>(o.after.toList.all fun e=>!Region.binds .any e||decide (e.on<i)) &&
   (match o.dst with|some d=>decide (d<n)&&(base.all fun p=>decide (p.1≠d))&&((aU i).all fun j=>decide (eb aN j≠some d))|none=>true) &&
   (match o.guard with|some (j,_)=>(o.after.toList.any fun e=>fG .any e&&decide (e.on=j))|none=>true)) &&
 (base.all fun p=>decide (p.1<n))
section
variable{P:aL}{aN:Array cR}{Q:Exit->kH->ar->Prop}{Vs:List Pred}{S:ar->Prop}{base:List (kG × ak)}{n:Nat}
theorem Each.get{Y:mE}{i:Nat}{l:List cR}(h:Each Y aN Vs S base i l){j:Nat}{o:cR}(hj:l[j]?=some o):Qg Y aN Vs S base (i+j) o:=by
 induction l generalizing i j with
 |nil=>simp at hj
 |cons x l ih=>
  cases j with
  |zero=>simp at hj;subst hj;exact h.1
  |succ j=>have:=ih h.2 (j:=j) (by simpa using hj);rwa [Nat.add_assoc,Nat.add_comm 1 j] at this
theorem jv.get(h:jv S Vs)(i:Nat){u:ak}{ds:List ak}{w w':ar}(hS:S w)(hb:az w.heap.size w w')(hv:gq Vs i u ds w):gq Vs i u ds w':=by
 induction Vs generalizing i with
 |nil=>trivial
 |cons V l ih=>
  cases i with
  |zero=>exact h.1 u ds w w' hS hv hb
  |succ i=>exact ih h.2 i hv
theorem fZ.congr{ev E3:bL->ak}{l:List (kG × ak)}(h:fZ ev l)(he:∀p∈l,E3 (.tmp p.1)=ev (.tmp p.1)):fZ E3 l:=by
 induction l with
 |nil=>trivial
 |cons p l ih=>exact⟨(he p (by simp)).trans h.1,ih h.2 fun q hq=>he q (by simp[hq])⟩
theorem FI.of{ev:bL->ak}{w:ar}{l:List Edge}(h:∀e∈l,fG .any e=true->gq Vs e.on (jg (eb aN e.on) ev) (gu aN ev (fV aN e.on)) w):FI aN Vs ev w l:=by
 induction l with
 |nil=>trivial
 |cons e l ih=>exact⟨h e (by simp),ih fun e' he=>h e' (by simp[he])⟩
theorem zf(a:kH)(d:Option kG)(v:ak):(a.put d v).tmps.size=a.tmps.size:=by cases d<;>simp[Act.put]
theorem put_defers(a:kH)(d:Option kG)(v:ak):(a.put d v).defers=a.defers:=by cases d<;>rfl
theorem tW(a:kH)(d:Option kG)(v:ak)(t:kG)(h:d≠some t):(a.put d v).eval (.tmp t)=a.eval (.tmp t):=by
 cases d with
 |none=>rfl
 |some d=>
  have:d≠t:=fun e=>h (by rw[e]);simp[Act.put,Act.eval,aY,bF,this]
theorem put_eq(a:kH)(d:kG)(v:ak)(h:d<a.tmps.size):(a.put (some d) v).eval (.tmp d)=v:=by
 simp[Act.put,Act.eval,aY,bF,h]
structure jm(aN:Array cR)(Vs:List Pred)(S:ar->Prop)(a0:kH)(L:Array Bool)(a:kH)(w:ar):Prop where
 uD:L.size=aN.size
 size:a.tmps.size=a0.tmps.size
 defers:a.defers=a0.defers
 s:S w
 keep:∀t,(∀o∈aN.toList,o.dst≠some t)->a.eval (.tmp t)=a0.eval (.tmp t)
 closed:∀i e,L.getD i false=true->e∈fV aN i->fG .any e=true->L.getD e.on false=true
 vals:∀i,L.getD i false=true->gq Vs i (jg (eb aN i) a.eval) (gu aN a.eval (fV aN i)) w
theorem MH{i:Nat}{e:Edge}(cY:ji aN n base=true)(he:e∈fV aN i)(hb:fG .any e=true):e.on<aN.size:=by
 unfold fV at he
 by_cases hi:i<aN.size
 .have wP:aN[i]?=some aN[i]:=aQ hi;rw[wP] at he;unfold ji at cY;rw[aI,a7] at cY;have h2:=cY.1 i (bP.2 hi);rw[wP] at h2;simp only[aI] at h2;have h3:=a7.1 h2.1.1 e he;simp only[hb,Bool.not_true,Bool.false_or,decide_eq_true_eq] at h3;omega
 simp[fH (Nat.le_of_not_lt hi)] at he
theorem pY{ev E3:bL->ak}{l:List Edge}(h:∀e∈l,fG .any e=true->jg (eb aN e.on) E3=jg (eb aN e.on) ev):gu aN E3 l=gu aN ev l:=by
 unfold gu;apply FX;intro e he;rw[fQ] at he;exact h e he.1 he.2
theorem ready_nil{L:Array Bool}(cY:ji aN n base=true)(hL:L.size=aN.size)(h:je .any aN L=[]):∀i,i<aN.size->L.getD i false=true:=by
 intro i
 induction i using Nat.strongRecOn with
 |ind i ih=>
  intro hi;refine Classical.byContradiction fun hc=>?_
  have hm:i∈je .any aN L:=by
   unfold je;rw[fQ];have wP:aN[i]?=some aN[i]:=aQ hi;refine⟨bP.2 hi,?_⟩;have vK:i<L.size:=by omega
   have h1:L.getD i true=false:=by
    simp[eD,vK] at hc ⊢;exact hc
   rw[h1,wP];simp only[Bool.not_false,Bool.true_and,dH,Option.getD_some];rw[Array.all_eq_true];intro k hk;unfold ji at cY;rw[aI,a7] at cY;have h2:=cY.1 i (bP.2 hi);rw[wP] at h2;simp only[aI] at h2;have h3:=a7.1 h2.1.1 (aN[i].after[k]) (by simp);simp only[Bool.or_eq_true,Bool.not_eq_true',decide_eq_true_eq] at h3 ⊢;rcases h3 with h3|h3
   .exact .inl h3
   exact .inr (ih _ h3 (by omega))
  rw[h] at hm;cases hm
def anyOf(step:Nat->(kH->ar->Prop)->kH->ar->Prop)(aN:Array cR)(Q:Exit->kH->ar->Prop):Nat->Array Bool->kH->ar->Prop
 |0,L,a,w=>je .any aN L=[]/\Q .normal a w
 |fuel+1,L,a,w=>(je .any aN L=[]->Q .normal a w)/\∀i∈je .any aN L,step i (anyOf step aN Q fuel (L.setIfInBounds i true)) a w
theorem DJ:∀fuel L,wpAny P .any aN Q fuel L=anyOf (wpOp P aN Q) aN Q fuel L
 |0,L=>rfl
 |fuel+1,L=>by
  funext a w
  simp only[wpAny,anyOf];simp only[DJ fuel]
theorem xM{a0:kH}{w:ar}(hS:S w):jm aN Vs S a0 (bE aN.size false) a0 w:=⟨by simp,rfl,rfl,hS,fun _ _=>rfl,fun i e hi _ _=>by
  simp[aY,qY] at hi;split at hi<;>simp at hi,fun i hi=>by
  simp[aY,qY] at hi
  split at hi<;>simp at hi⟩
theorem vN:(bE aN.size false).toList.countP (!·)<=aN.size:=by simpa using xF (p:=(!·)) (l:=List.replicate aN.size false)
end
namespace Gd
open Go Go.RowKit
def Qg(Y:mE)(aN:Array cR)(Vs:List Pred)(S:ar->Prop)(base:List (kG × ak))(i:Nat)(o:cR):Prop:=
 ∀(ev:bL->ak) (w:ar),S w->(∀v,ev (.const v)=v)->(∀g,ev (.global g)=.pointer (some ⟨g,0,none⟩))->(∀f,ev (.func f)=.func (.func f) #[] #[])->fZ ev base->FI aN Vs ev w o.after.toList->
  match o.guard with
  |none=>Y o ev w (Post aN ev Vs S i o w)
  |some (j,b)=>(jg (eb aN j) ev=.bool b->Y o ev w (Post aN ev Vs S i o w))/\(jg (eb aN j) ev≠.bool b->Post aN ev Vs S i o w af w)
def Each(Y:mE)(aN:Array cR)(Vs:List Pred)(S:ar->Prop)(base:List (kG × ak)):Nat->List cR->Prop
 |_,[]=>True
 |i,o::l=>Qg Y aN Vs S base i o/\Each Y aN Vs S base (i+1) l
section
variable{P:aL}{aN:Array cR}{Q:Exit->kH->ar->Prop}{Vs:List Pred}{S:ar->Prop}{base:List (kG × ak)}{n:Nat}
theorem Each.get{Y:mE}{i:Nat}{l:List cR}(h:Each Y aN Vs S base i l){j:Nat}{o:cR}(hj:l[j]?=some o):Qg Y aN Vs S base (i+j) o:=by
 induction l generalizing i j with
 |nil=>simp at hj
 |cons x l ih=>
  cases j with
  |zero=>simp at hj;subst hj;exact h.1
  |succ j=>have:=ih h.2 (j:=j) (by simpa using hj);rwa [Nat.add_assoc,Nat.add_comm 1 j] at this
theorem Am{Y:mE}{step:Nat->(kH->ar->Prop)->kH->ar->Prop}
  (hs1:∀i o K a w R,aN[i]?=some o->cS o (jY aN a.tmps)=true->Y o a.eval w R->(∀v w',R v w'->K (a.put o.dst v) w')->step i K a w)
  (hs2:∀i o K a w,aN[i]?=some o->¬cS o (jY aN a.tmps)=true->K (a.put o.dst af) w->step i K a w)
  (cY:ji aN n base=true) (C9:jv S Vs) (Ka:∀w w',S w->az w.heap.size w w'->S w') (a0:kH) (hn:a0.tmps.size=n) (hbase:fZ a0.eval base) (lo:Nat) (hE:∀j o,lo<=j->aN[j]?=some o->Qg Y aN Vs S base j o)
  (hQ:∀a w,jm aN Vs S a0 (bE aN.size true) a w->Q .normal a w) :
  ∀fuel (L:Array Bool) (a:kH) (w:ar),L.toList.countP (!·)<=fuel->(∀k,k<lo->L.getD k false=true)->jm aN Vs S a0 L a w->anyOf step aN Q fuel L a w:=by
 have fin:∀(L:Array Bool) (a:kH) (w:ar),je .any aN L=[]->jm aN Vs S a0 L a w->Q .normal a w:=fun L a w hr h=>
  hQ a w ⟨by simp,h.size,h.defers,h.s,h.keep,fun i e hi he hb=>by
   have hlt:e.on<aN.size:=MH cY he hb;simp[eD,hlt],fun i hi=>by
   by_cases hlt:i<aN.size
   .exact h.vals i (ready_nil cY h.uD hr i hlt)
   simp[eD,hlt] at hi⟩
 intro fuel
 induction fuel with
 |zero=>
  intro L a w hc hlo h
  have hr:je .any aN L=[]:=by
   apply List.eq_nil_iff_forall_not_mem.2;intro i hi;unfold je at hi;rw[fQ,bP] at hi;obtain⟨hi,h2⟩:=hi;have vK:i<L.size:=by have:=h.uD;omega
   simp[eD,vK] at h2;have h0:=List.countP_eq_zero.1 (Nat.le_zero.1 hc) L[i] (by simp);simp[h2.1] at h0
  exact⟨hr,fin L a w hr h⟩
 |succ fuel ih=>
  intro L a w hc hlo h;refine⟨fun hr=>fin L a w hr h,fun i hi=>?_⟩;have hi':=hi;unfold je at hi';rw[fQ,bP] at hi';obtain⟨hlt,h2⟩:=hi';have vK:i<L.size:=by have:=h.uD;omega
  have wP:aN[i]?=some aN[i]:=aQ hlt;generalize aN[i]=o at wP;rw[wP] at h2;simp only[aI,Bool.not_eq_true',dH,Option.getD_some,Array.all_eq_true] at h2;obtain⟨UB,Un⟩:=h2
  have Lv:o∈aN.toList:=by
   have:=Array.mem_of_getElem? wP;simpa using this
  have rZ:=cY;unfold ji at rZ;rw[aI,a7,a7] at rZ;have C6:=rZ.1 i (bP.2 hlt);rw[wP] at C6;simp only[aI] at C6;obtain⟨⟨aaK,uR⟩,aao⟩:=C6
  have UE:FI aN Vs a.eval w o.after.toList:=FI.of fun e he hb=>by
   obtain⟨k,hk,rfl⟩:=jy he;have:=Un k (by simpa using hk);simp only[rp] at hb ⊢;rw[hb] at this;simp only[Bool.not_true,Bool.false_or] at this;exact h.vals _ this
  have hBs:fZ a.eval base:=hbase.congr fun p hp=>h.keep _ fun o' ho' hd=>by
   obtain⟨k,hk,rfl⟩:=jy ho';have qZ:k<aN.size:=by simpa using hk
   have h3:=rZ.1 k (bP.2 qZ);rw[aQ qZ] at h3;simp only[rp] at hd;simp only[aI,hd] at h3;have:=a7.1 h3.1.2.1.2 p hp;simp at this
  have hil:lo<=i:=by
   refine Nat.le_of_not_lt fun hc2=>?_;have:=hlo i hc2;simp[eD,vK] at UB this;rw[UB] at this;cases this
  have hO:=hE i o hil wP a.eval w h.s (fun _=>rfl) (fun _=>rfl) (fun _=>rfl) hBs UE;have hao:fV aN i=o.after.toList:=by unfold fV;rw[wP]
  have LA:∀e∈o.after.toList,fG .any e=true->L.getD e.on false=true:=fun e he hb=>by
   obtain⟨k,hk,rfl⟩:=jy he;have:=Un k (by simpa using hk);simp only[rp] at hb ⊢;rw[hb] at this;simpa using this
  have hne:∀k,L.getD k false=true->k≠i/\k<aN.size:=fun k hk=>by
   refine⟨fun e=>?_,?_⟩
   .subst e;simp[eD,vK] at UB hk;rw[UB] at hk;cases hk
   rcases Nat.lt_or_ge k aN.size with h5|h5
   .exact h5
   have:¬k<L.size:=by have:=h.uD;omega
   simp[eD,this] at hk
  have next:∀v w',Post aN a.eval Vs S i o w v w'->anyOf step aN Q fuel (L.setIfInBounds i true) (a.put o.dst v) w':=fun v w' hp=>by
   have hval:∀k,L.getD k false=true->jg (eb aN k) (a.put o.dst v).eval=jg (eb aN k) a.eval:=fun k qZ=>by
    obtain⟨Ar,zG⟩:=hne k qZ;cases MX:eb aN k with
    |none=>rfl
    |some d=>
     refine tW _ _ _ _ fun YK=>?_;rcases Nat.lt_trichotomy k i with h5|h5|h5
     .rw[YK] at uR;simp only[aI,decide_eq_true_eq] at uR;have:=a7.1 uR.2 k (bP.2 h5);simp[MX] at this
     .exact Ar h5
     have h6:=rZ.1 k (bP.2 zG);rw[aQ zG] at h6
     have h7:(aN[k]).dst=some d:=by
      unfold eb at MX;rw[aQ zG] at MX;simpa using MX
     simp only[aI,h7] at h6;have:=a7.1 h6.1.2.2 i (bP.2 h5);unfold eb at this;rw[wP] at this;simp[YK] at this
   have uP:∀k,L.getD k false=true->(L.setIfInBounds i true).getD k false=true:=fun k hk=>by
    have:=(hne k hk).1;simpa [aY,bF,Ne.symm this] using hk
   have hback:∀k,k≠i->(L.setIfInBounds i true).getD k false=true->L.getD k false=true:=fun k Ar hk=>by
    simpa [aY,bF,Ne.symm Ar] using hk
   refine ih _ _ _ ?_ (fun k hk=>uP k (hlo k hk)) ⟨by simp[h.uD],by rw[zf,h.size],by rw[put_defers,h.defers],?_,fun t ht=>?_,fun k e hk he hb=>?_,fun k hk=>?_⟩
   .have hLv:L[i]=false:=by simpa [eD,vK] using UB
    have h4:(L.setIfInBounds i true).toList.countP (!·)=L.toList.countP (!·)-1:=by
     rw[Array.toList_setIfInBounds,List.countP_set (by simpa using vK)];simp[hLv]
    omega
   .exact hp.2.elim (fun hb=>Ka _ _ h.s hb) fun hs=>hs.1
   .rw[tW _ _ _ _ (ht o Lv)];exact h.keep t ht
   .by_cases Ar:k=i
    .subst Ar;rw[hao] at he;exact uP _ (LA e he hb)
    exact uP _ (h.closed k e (hback k Ar hk) he hb)
   by_cases Ar:k=i
   .subst Ar
    have hdd:gu aN (a.put o.dst v).eval (fV aN k)=gu aN a.eval o.after.toList:=by
     rw[hao];exact pY fun e he hb=>hval _ (LA e he hb)
    rw[hdd];have:=hp.1;unfold eb jg;rw[wP];simp only[gK];cases hd:o.dst with
    |none=>rw[hd] at this;exact this
    |some d=>
     rw[hd] at this uR;simp only[aI,decide_eq_true_eq] at uR;have h9:=put_eq a d v (by rw[h.size,hn];exact uR.1.1);simp only[] at this ⊢;rw[h9];exact this
   have qZ:=hback k Ar hk;have ZX:=h.vals k qZ;have hdd:gu aN (a.put o.dst v).eval (fV aN k)=gu aN a.eval (fV aN k):=pY fun e he hb=>hval _ (h.closed k e qZ he hb);rw[hval k qZ,hdd];exact hp.2.elim (fun hb=>C9.get k h.s hb ZX) fun hs=>hs.2 k _ _ Ar ZX
  cases hg:o.guard with
  |none=>
   rw[hg] at hO;exact hs1 i o _ a w _ wP (by simp[cS,hg]) hO next
  |some jb=>
   obtain⟨j,b⟩:=jb;rw[hg] at hO;obtain⟨hO1,VU⟩:=hO
   by_cases hr:jg (eb aN j) a.eval=.bool b
   .have hy:jY aN a.tmps j=some b:=by
     unfold jY;unfold jg at hr;unfold eb at hr;cases hd:(aN[j]?).bind (·.dst) with
     |none=>rw[hd] at hr;simp[af] at hr
     |some d=>
      rw[hd] at hr;simp only[gK]
      have h8:a.tmps[d]?=some (.bool b):=by
       unfold Act.eval at hr;simp only[] at hr
       by_cases C7:d<a.tmps.size
       .simp[eD,C7] at hr;rw[aQ C7,hr]
       simp[eD,C7,af] at hr
      rw[h8]
    exact hs1 i o _ a w _ wP (by simp[cS,hg,hy]) (hO1 hr) next
   have hy:jY aN a.tmps j≠some b:=by
    intro hy;refine hr ?_;unfold jY at hy;unfold jg eb;cases hd:(aN[j]?).bind (·.dst) with
    |none=>rw[hd] at hy;simp at hy
    |some d=>
     rw[hd] at hy;simp only[gK] at hy;simp only[];unfold Act.eval;simp only[];cases h8:a.tmps[d]? with
     |none=>rw[h8] at hy;simp at hy
     |some v=>
      rw[h8] at hy
      have hv:v=.bool b:=by
       revert hy;cases v<;>simp
      simp[aY,h8,hv]
   exact hs2 i o _ a w wP (by simpa [cS,hg] using hy) (next _ _ (VU hr))
theorem bY{id:Nat}{a0:kH}{w:ar}(hm:P.follows .mixedOrders=true)(Vs:List Pred)(S:ar->Prop)(base:List (kG × ak))(cY:ji aN a0.tmps.size base=true)(C9:jv S Vs)(Ka:∀w w',S w->az w.heap.size w w'->S w')
  (hS:S w.drew) (hbase:fZ a0.eval base) (hE:Each (Yields P) aN Vs S base 0 aN.toList) (hQ:∀a w,jm aN Vs S a0 (bE aN.size true) a w->Q .normal a w):(Code.region id aN true).wp P Q a0 w:=
 wp_region_any hm (by
  rw[DJ]
  exact Am (Y:=Yields P) (fun i o K a w R ho hw hy hk=>wpOp_step ho fun K' hK=>by rw[if_pos hw];exact hy.wp fun v w' hv=>hK _ _ (hk v w' hv))
   (fun i o K a w ho hw hk=>wpOp_step ho fun K' hK=>by rw[if_neg hw];exact hK _ _ hk) cY C9 Ka a0 rfl hbase 0 (fun j o _ h=>by have:=hE.get (j:=j) (o:=o) (by simpa using h);rwa [Nat.zero_add] at this) hQ aN.size _ a0 _ vN (fun k hk=>by omega) (xM hS))
end
end Gd
section
variable{P:aL}{aN:Array cR}{Q:Exit->kH->ar->Prop}{Vs:List Pred}{S:ar->Prop}{base:List (kG × ak)}{n:Nat}
theorem Qg.gd{Y:mE}{i:Nat}{o:cR}(h:Qg Y aN Vs S base i o):Gd.Qg Y aN Vs S base i o:=by
 intro ev w hS hc hg hf hb hd;have h1:=h ev w hS hc hg hf hb hd;cases hgd:o.guard with
 |none=>rw[hgd] at h1;exact h1
 |some jb=>
  obtain⟨j,b⟩:=jb;rw[hgd] at h1;obtain⟨⟨r,hr⟩,h2⟩:=h1;exact⟨fun e=>by have:=h2 b e;rwa [if_pos rfl] at this,fun e=>by have:=h2 r hr;rwa [if_neg (fun h=>e (hr.trans (congrArg _ h)))] at this⟩
theorem Each.gd{Y:mE}:∀ {i:Nat} {l:List cR},Each Y aN Vs S base i l->Gd.Each Y aN Vs S base i l
 |_,[],_=>trivial
 |_,_::_,h=>⟨h.1.gd,Each.gd h.2⟩
theorem bY{id:Nat}{a0:kH}{w:ar}(hm:P.follows .mixedOrders=true)(Vs:List Pred)(S:ar->Prop)(base:List (kG × ak))(cY:ji aN a0.tmps.size base=true)(C9:jv S Vs)(Ka:∀w w',S w->az w.heap.size w w'->S w')
  (hS:S w.drew) (hbase:fZ a0.eval base) (hE:Each (Yields P) aN Vs S base 0 aN.toList) (hQ:∀a w,jm aN Vs S a0 (bE aN.size true) a w->Q .normal a w):(Code.region id aN true).wp P Q a0 w:=
 Gd.bY hm Vs S base cY C9 Ka hS hbase hE.gd hQ
def keeps(aN:Array cR)(t:kG):Bool:=aN.toList.all fun o=>decide (o.dst≠some t)
theorem jm.kept{a0 a:kH}{L:Array Bool}{w:ar}(h:jm aN Vs S a0 L a w){t:kG}(hk:keeps aN t=true):a.tmps.getD t af=a0.tmps.getD t undef:=
 h.keep t fun o ho=>by
  have:=a7.1 hk o ho;simpa using this
theorem jm.kp{a0 a:kH}{L:Array Bool}{w:ar}(h:jm aN Vs S a0 L a w)(t:kG)(hk:keeps aN t=true):a.tmps.getD t af=a0.tmps.getD t undef:=h.kept hk
theorem jm.val{a0 a:kH}{w:ar}(h:jm aN Vs S a0 (bE aN.size true) a w)(i:Nat)(hi:i<aN.size):gq Vs i (jg (eb aN i) a.eval) (gu aN a.eval (fV aN i)) w:=h.vals i (by simp[eD,hi])
theorem jm.act{a0 a:kH}{L:Array Bool}{w:ar}(h:jm aN Vs S a0 L a w):a=⟨((aU a0.tmps.size).map fun t=>a.tmps.getD t af).toArray,a0.defers⟩:=by
 have h1:=h.size;have h2:=h.defers;obtain⟨tm,df⟩:=a;simp only[] at h1 h2;subst h2;rw[<-h1]
 congr 1
 apply Array.ext
 .simp
 intro i h1 h2;simp[eD,h1]
theorem jm.lits{a0 a:kH}{L:Array Bool}{w:ar}(h:jm aN Vs S a0 L a w)(n:Nat)(hn:a0.tmps.size=n):a=⟨((aU n).map fun t=>a.tmps.getD t af).toArray,a0.defers⟩:=hn▸h.act
end
theorem kO(l:List ak)(i:Nat)(d:ak):l.toArray.getD i d=l.getD i d:=by simp[aY,List.getD]
theorem ry{P:aL}{o:cR}{ev:bL->ak}{w:ar}{c a b:bL}{t:Bool}(ho:o.op=.pick c a b)(hc:ev c=.bool t):(cG ev o).run P w=.ok (.value (if t then ev a else ev b)) w:=by
 unfold cG;simp only[ho,hc,asBool,Sem.run_bind,Sem.run_pure,sD]
theorem Yields.acI{P:aL}{o:cR}{ev:bL->ak}{w:ar}{R:ak->ar->Prop}{c b:bL}{A B:Bool}(ho:o.op=.pick c (.const (.bool true)) b)(hc:∀v,ev (.const v)=v)(hA:ev c=.bool A)(hB:A=false->ev b=.bool B)(h:R (.bool (A||B)) w):Yields P o ev w R:=by
 refine .value (ry ho hA) ?_;cases A
 .rw[hB rfl];exact h
 rw[hc];exact h
theorem Yields.acJ{P:aL}{o:cR}{ev:bL->ak}{w:ar}{R:ak->ar->Prop}{c b:bL}{A B:Bool}(ho:o.op=.pick c b (.const (.bool false)))(hc:∀v,ev (.const v)=v)(hA:ev c=.bool A)(hB:A=true->ev b=.bool B)(h:R (.bool (A&&B)) w):Yields P o ev w R:=by
 refine .value (ry ho hA) ?_;cases A
 .rw[hc];exact h
 rw[hB rfl];exact h
abbrev pV(x:ak):Pred:=fun v _ _=>v=x
abbrev pC(c:Bool)(x:ak):Pred:=fun v _ _=>c=true->v=x
theorem sV{S:ar->Prop}{x:ak}:∀(u:ak) (ds:List ak) (w w':ar),S w->pV x u ds w->az w.heap.size w w'->pV x u ds w':=fun _ _ _ _ _ h _=>h
theorem sC{S:ar->Prop}{c:Bool}{x:ak}:∀(u:ak) (ds:List ak) (w w':ar),S w->pC c x u ds w->az w.heap.size w w'->pC c x u ds w':=fun _ _ _ _ _ h _=>h
section
variable{P:aL}{aN:Array cR}{Vs:List Pred}{S:ar->Prop}{o:cR}{ev:bL->ak}{w:ar}{i:Nat}
theorem yv{v:ak}(he:(cG ev o).run P w=.ok (.value v) w)(hp:gq Vs i (match o.dst with|some _=>v|none=>af) (gu aN ev o.after.toList) w):Yields P o ev w (Post aN ev Vs S i o w):=.value he ⟨hp,.inl (au _ _)⟩
theorem tV{p:Prop}(h:p:=by refine yv ?_ rfl;go_simp):p:=h
theorem yO{c b:bL}{A B:Bool}(ho:o.op=.pick c (.const (.bool true)) b)(hc:∀v,ev (.const v)=v)(hA:ev c=.bool A)(hB:A=false->ev b=.bool B)(hp:gq Vs i (match o.dst with | some _=>.bool (A||B) | none=>af) (gu aN ev o.after.toList) w):Yields P o ev w (Post aN ev Vs S i o w):=.acI ho hc hA hB ⟨hp,.inl (au _ _)⟩
theorem yA{c b:bL}{A B:Bool}(ho:o.op=.pick c b (.const (.bool false)))(hc:∀v,ev (.const v)=v)(hA:ev c=.bool A)(hB:A=true->ev b=.bool B)(hp:gq Vs i (match o.dst with|some _=>.bool (A&&B)|none=>af) (gu aN ev o.after.toList) w):Yields P o ev w (Post aN ev Vs S i o w):=.acJ ho hc hA hB ⟨hp,.inl (au _ _)⟩
theorem yc{f:FuncId}{args:Array ak}{X:ak}(h:bu P f args w fun e w'=>e=.returned X/\az w.heap.size w w')(he:(cG ev o).run P w=.ok (.enter f args) w)(hp:∀w',gq Vs i (match o.dst with|some _=>X|none=>af) (gu aN ev o.after.toList) w'):Yields P o ev w (Post aN ev Vs S i o w):=
 .call he h (by rintro e w2 ⟨rfl,hb⟩;exact⟨_,rfl,hp _,.inl hb⟩)
theorem yq{f:FuncId}{args:Array ak}{X:ak}(h:bu P f args w fun e w'=>e=.returned X/\w=w')(he:(cG ev o).run P w=.ok (.enter f args) w)(hp:∀w',gq Vs i (match o.dst with|some _=>X|none=>af) (gu aN ev o.after.toList) w'):Yields P o ev w (Post aN ev Vs S i o w):=
 .call he h (by rintro e w2 ⟨rfl,rfl⟩;exact⟨_,rfl,hp _,.inl (au _ _)⟩)
end
section
variable{A b x:Bool}{val V0 u X:ak}{Y R Z:Prop}{w:ar}
theorem gC(d:val=V0)(l:V0=.bool b↔A=true)(h:A=true->Y):(val=.bool b->Y)/\(val≠.bool b->(A=true->u=X)/\(az w.heap.size w w\/Z)):=
 ⟨fun e=>h (l.1 (d.symm.trans e)),fun e=>⟨fun hc=>absurd (d.trans (l.2 hc)) e,.inl (au _ _)⟩⟩
theorem gN(d:val=.bool x)(hne:(x==b)=false):(val=.bool b->Y)/\(val≠.bool b->True/\(az w.heap.size w w\/Z)):=
 ⟨fun e=>absurd (d.symm.trans e) (by intro h;cases h;simp at hne),fun _=>⟨trivial,.inl (au _ _)⟩⟩
theorem gL(d:val=.bool b)(h:Y):(val=.bool b->Y)/\(val≠.bool b->R):=⟨fun _=>h,fun e=>absurd d e⟩
end
theorem Yields.lN{P:aL}{o:cR}{ev:bL->ak}{w:ar}{R:ak->ar->Prop}(ty:aZ)(x y:bL)(ho:o.op=.store ty x y)(g:Nat)(cells:Array ak)(hx:ev x=.pointer (some ⟨g,0,none⟩))(hy:ev y=.agg cells)
  (t:aZ) (old:Array ak) (hg:w.heap[g]?=some (.cells old t (0,0))) (hi:(P.info? ty).map (·.size)=some cells.size) (hold:old.size=cells.size) (h1:cells.all (·.oneCell')=true) (h:R af (w.setRow g cells)):Yields P o ev w R:=by
 refine Yields.skip (w':=w.setRow g cells) ?_ h;unfold cG;simp only[ho,hx,hy,Instr.storeAt,Instr.sureAddr,Sem.run_bind,Sem.run_pure,sD,run_storeVar_row w g t ty old cells hg hi hold h1]
theorem Yields.zy{P:aL}{o:cR}{ev:bL->ak}{w:ar}{R:ak->ar->Prop}(ty:aZ)(x:bL)(ho:o.op=.load ty x)(g:Nat)(hx:ev x=.pointer (some ⟨g,0,none⟩))(t:aZ)(cs:Array ak)(fr:Nat × Nat)(d:TypeDesc)(hg:w.heap[g]?=some (.cells cs t fr))
  (hu:P.underlying ty=some d) (hd:(match d with|.struct _|.array _ _=>true|_=>false)=true) (hi:(P.info? ty).map (·.size)=some cs.size) (h:R (.agg cs) w):Yields P o ev w R:=by
 refine Yields.value (v:=.agg cs) (w':=w) ?_ h;unfold cG;simp only[ho,hx,Instr.loadAt,Instr.sureAddr,Sem.run_bind,Sem.run_pure,sD,run_loadVar_row w g t ty cs fr d hg hu hd hi]
theorem CZ{P:aL}{aN:Array cR}{Vs:List Pred}{S:ar->Prop}{o:cR}{ev:bL->ak}{w:ar}{i:Nat}(ty:aZ){x:bL}(ho:o.op=.load ty x){g:Nat}(hx:ev x=.pointer (some ⟨g,0,none⟩)){t:aZ}{cs:Array ak}{fr:Nat × Nat}{d:TypeDesc}(hg:w.heap[g]?=some (.cells cs t fr))
  (hu:P.underlying ty=some d) (hd:(match d with|.struct _|.array _ _=>true|_=>false)=true) (hi:(P.info? ty).map (·.size)=some cs.size) (hp:gq Vs i (match o.dst with|some _=>.agg cs|none=>af) (gu aN ev o.after.toList) w):Yields P o ev w (Post aN ev Vs S i o w):=
 Yields.zy ty x ho g hx t cs fr d hg hu hd hi ⟨hp,.inl (au _ _)⟩
namespace Gd
section
variable{P:aL}{aN:Array cR}{Q:Exit->kH->ar->Prop}{Vs:List Pred}{S:ar->Prop}{base:List (kG × ak)}{n:Nat}
theorem qp{i:Nat}{o:cR}{e:Edge}(cY:ji aN n base=true)(ho:aN[i]?=some o)(he:e∈o.after.toList)(hb:fG .any e=true):e.on<i:=by
 have hi:i<aN.size:=(ai.1 ho).1;unfold ji at cY;rw[aI,a7] at cY;have h2:=cY.1 i (bP.2 hi);rw[ho] at h2;simp only[aI] at h2;have h3:=a7.1 h2.1.1 e he;simpa [hb] using h3
theorem QP{L:Array Bool}{i:Nat}(cY:ji aN n base=true)(hlt:i<aN.size)(hL:L.size=aN.size)(hk:∀k,L.getD k false=decide (k<i)):i∈je .any aN L:=by
 unfold je;rw[fQ];have wP:aN[i]?=some aN[i]:=aQ hlt;refine⟨bP.2 hlt,?_⟩;have vK:i<L.size:=by omega
 have h1:L.getD i true=false:=by
  have:=hk i;simp[eD,vK] at this ⊢;exact this
 rw[h1,wP];simp only[Bool.not_false,Bool.true_and,dH,Option.getD_some];rw[Array.all_eq_true];intro k hk2;cases hb:fG .any aN[i].after[k] with
 |false=>rfl
 |true=>
  have:=qp cY wP (e:=aN[i].after[k]) (by simp) hb;rw[hk];simp[this]
theorem Xb{L:Array Bool}{i:Nat}(vK:i<L.size)(hk:∀k,L.getD k false=decide (k<i))(k:Nat):(L.setIfInBounds i true).getD k false=decide (k<i+1):=by
 by_cases Ar:k=i
 .subst Ar;simp[aY,bF,vK]
 have:=hk k;rw[aY,bF,if_neg (Ne.symm Ar),<-aY,this];simp;omega
theorem yM(cY:ji aN n base=true):∀(m i:Nat) (L:Array Bool) (a:kH) (w:ar),i+m=aN.size->L.size=aN.size->(∀k,L.getD k false=decide (k<i))->anyOf (wpOp P aN Q) aN Q m L a w->wpOps P aN Q (bR i m) a w
 |0,i,L,a,w,hi,hL,hk,h=>h.2
 |m+1,i,L,a,w,hi,hL,hk,h=>by
  show wpOps P aN Q (i::bR (i+1) m) a w;rw[wpOps_cons];exact wpOp_mono (fun a w h=>yM cY m (i+1) _ a w (by omega) (by simpa using hL) (Xb (by omega) hk) h) (h.2 i (QP cY (by omega) hL hk))
def NM(n i:Nat):Array Bool:=((aU n).map fun k=>decide (k<i)).toArray
theorem zx(n i k:Nat)(hi:i<=n):(NM n i).getD k false=decide (k<i):=by
 unfold NM;rw[aY]
 by_cases hk:k<n
 .simp[hk]
 have:¬k<i:=by omega
 simp[hk,this]
theorem Io{a0:kH}{w:ar}(i m:Nat)(him:i+m=aN.size)(Vs:List Pred)(S:ar->Prop)(base:List (kG × ak))(cY:ji aN n base=true)(hn:a0.tmps.size=n)(C9:jv S Vs)(Ka:∀w w',S w->az w.heap.size w w'->S w')
  (hS:S w) (hbase:fZ a0.eval base) (Rt:∀k,k<i->gq Vs k (jg (eb aN k) a0.eval) (gu aN a0.eval (fV aN k)) w) (hE:Each (Yields P) aN Vs S base i (aN.toList.drop i)) (hQ:∀a w,jm aN Vs S a0 (bE aN.size true) a w->Q .normal a w):wpOps P aN Q (bR i m) a0 w:=by
 refine yM cY m i (NM aN.size i) a0 w him (by simp[NM]) (fun k=>zx _ _ _ (by omega)) ?_
 refine Am (Y:=Yields P) (fun i o K a w R ho hw hy hk=>wpOp_step ho fun K' hK=>by rw[if_pos hw];exact hy.wp fun v w' hv=>hK _ _ (hk v w' hv))
  (fun i o K a w ho hw hk=>wpOp_step ho fun K' hK=>by rw[if_neg hw];exact hK _ _ hk) cY C9 Ka a0 hn hbase i (fun j o hj h=>by
   have:=hE.get (j:=j-i) (o:=o) (by rw[List.getElem?_drop,show i+(j-i)=j by omega];simpa using h)
   rwa [show i+(j-i)=j by omega] at this) hQ m _ a0 _ ?_ (fun k hk=>by rw[zx _ _ _ (by omega)];simpa using hk) ⟨by simp[NM],rfl,rfl,hS,fun _ _=>rfl,fun k e hk he hb=>?_,fun k hk=>?_⟩
 .have e:(NM aN.size i).toList=(aU i).map (fun _=>true)++(bR i m).map fun _=>false:=by
   unfold NM;simp only
   have:aU aN.size=aU i++bR i m:=by
    rw[mQ,mQ,<-him,<-List.range'_append_1,Nat.zero_add]
   rw[this,fh]
   congr 1
   .apply FX;intro k hk;simpa using hk
   apply FX;intro k hk;have:=(List.mem_range'_1.1 hk).1;simp;omega
  rw[e,List.countP_append]
  have h1:((aU i).map fun _=>true).countP (!·)=0:=by
   rw[List.countP_eq_zero];intro x hx;simp at hx;simp[hx.2]
  have h2:=xF (p:=(!·)) (l:=(bR i m).map fun _=>false);simp only[List.length_map,List.length_range'] at h2;omega
 .rw[zx _ _ _ (by omega)] at hk ⊢;have Ar:k<i:=by simpa using hk
  unfold fV at he;have hko:aN[k]?=some aN[k]:=aQ (by omega);rw[hko] at he;have:=qp cY hko he hb;simp;omega
 rw[zx _ _ _ (by omega)] at hk;exact Rt k (by simpa using hk)
theorem Ip{id:Nat}{a0:kH}{w:ar}(Vs:List Pred)(S:ar->Prop)(base:List (kG × ak))(cY:ji aN n base=true)(hn:a0.tmps.size=n)(C9:jv S Vs)(Ka:∀w w',S w->az w.heap.size w w'->S w')
  (hS:S w) (hbase:fZ a0.eval base) (hE:Each (Yields P) aN Vs S base 0 aN.toList) (hQ:∀a w,jm aN Vs S a0 (bE aN.size true) a w->Q .normal a w):(Code.region id aN false).wp P Q a0 w:=by
 refine wp_region ?_;rw[mQ];exact Io 0 aN.size (by omega) Vs S base cY hn C9 Ka hS hbase (fun k hk=>by omega) hE hQ
end
end Gd
structure ij(n:Nat)(a:kH)(l:List (kG × ak)):Prop where
 size:a.tmps.size=n
 defers:a.defers=[]
 base:fZ a.eval l
theorem jm.fr{aN:Array cR}{Vs:List Pred}{S:ar->Prop}{a0 a:kH}{L:Array Bool}{w:ar}{n:Nat}{l:List (kG × ak)}(h:jm aN Vs S a0 L a w)(h0:ij n a0 l)(hk:(l.all fun p=>keeps aN p.1)=true):ij n a l:=
 ⟨h.size.trans h0.size,h.defers.trans h0.defers,h0.base.congr fun p hp=>h.keep p.1 fun o ho=>by
  have h1:=a7.1 hk p hp;have:=a7.1 h1 o ho
  simpa using this⟩
theorem ij.g{n:Nat}{a:kH}{l:List (kG × ak)}(h:ij n a l)(k:Nat){t:kG}{v:ak}(hk:l[k]?=some (t,v)):a.eval (.tmp t)=v:=by
 have h1:=h.base;clear h
 induction l generalizing k with
 |nil=>simp at hk
 |cons p l ih=>cases k with
  |zero=>cases hk;exact h1.1
  |succ k=>exact ih k (by simpa using hk) h1.2
def Ww:Op->Bool
 |.call c=>match c.callee with|.builtin _=>true|_=>false
 |.load ..=>false
 |_=>true
theorem yw{P:aL}{aN:Array cR}{Vs:List Pred}{S:ar->Prop}{o:cR}{ev:bL->ak}{w:ar}{i:Nat}{v:ak}(hq:Ww o.op=true)(he:(cG ev o).run P w=.ok (.value v) w)(hp:gq Vs i (match o.dst with|some _=>v|none=>af) (gu aN ev o.after.toList) w):Yields P o ev w (Post aN ev Vs S i o w):=yv he hp
def lS(t:kG):List (kG × ak)->List (kG × ak)
 |[]=>[]
 |p::l=>if p.1=t then l else p::lS t l
theorem ij.del{n:Nat}{a:kH}{l:List (kG × ak)}(h:ij n a l)(t:kG):ij n a (lS t l):=⟨h.size,h.defers,by
 have h1:=h.base;clear h
 induction l with
 |nil=>trivial
 |cons p l ih=>
  unfold lS;split
  .exact h1.2
  exact⟨h1.1,ih h1.2⟩⟩
theorem ij.tl{n:Nat}{a:kH}{p:kG × ak}{l:List (kG × ak)}(h:ij n a (p::l)):ij n a l:=⟨h.size,h.defers,h.base.2⟩
theorem ij.put{n:Nat}{a:kH}{l:List (kG × ak)}(h:ij n a l)(d:kG)(v:ak)(hk:(l.all fun p=>!Nat.beq p.1 d)=true):ij n (a.put (some d) v) l:=
 ⟨(zf _ _ _).trans h.size,(put_defers _ _ _).trans h.defers,h.base.congr fun p hp=>tW _ _ _ _ fun e=>by
  have h1:=a7.1 hk p hp;cases e
  simp at h1⟩
theorem ij.cons{n:Nat}{a:kH}{l:List (kG × ak)}(h:ij n a l){t:kG}{v:ak}(hv:a.eval (.tmp t)=v):ij n a ((t,v)::l):=⟨h.size,h.defers,hv,h.base⟩
section
variable{P:aL}{aN:Array cR}{Q:Exit->kH->ar->Prop}{n:Nat}
end
end Go.Lag
