/- THE BELL IN PLAIN LEAN: a book's numbers, plans by bits, the air minut .. -/
import Derived.WalkKit
import Derived.Test.YtffladgmkiimjaaGreatDoorProg
import Derived.Lib.Hide
import Derived.Outline
import Derived.Deep.RegionHeld3
import Derived.RangeFuncRecord
import Derived.Maps.Own
import Derived.Maps.OwnOps
import Derived.RowKit
import Derived.Laws.StructEq
import Derived.Laws.IdiomStrings
import Derived.Test.YtffladgmkiimjaaGreatDoorRows
import Derived.LaidHandle
import Derived.LaidMore
import Derived.OpenShut
import Derived.ProofKit
set_option linter.all false
set_option maxHeartbeats 100000000
set_option maxRecDepth 1000000
open Array renaming getElem?_eq_some_iff → ak
open Bool renaming false_eq_true → bw
open Go renaming TypeId → aZ,Value → aj,World → ar,Calls → bm,underlying → iL,MapEntry → tU
open Go.Addr renaming add → kC
open Go.Ending renaming returned → aC,returned → aK
open Go.Instr renaming mapUpdate → Ab,findKey → CJ,findAsking → jm,index → mH
open Go.IntKind renaming i64 → ag
open Go.Lib renaming hid → ai
open Go.Obj renaming cells → au
open Go.Proofs.Tryz renaming prog → aq,underlying25 → gu
open Go.Result renaming andThen → Ge
open Go.RowKit renaming Below → az
open Go.RowKit.Below renaming heap_alloc → aS,refl → aw
open Go.Value renaming bool → aF,int → aG,agg → aO,slice → ae,int → ah,pointer → bp
open Go.World renaming alloc_heap_new → ay,cell? → dH,ownsRow_nil → dL,cell?_alloc_lt → eb
open List renaming foldl_append → Bd,eq_nil_of_length_eq_zero → aY,getElem_mem → bO,range' → bV,take_succ_eq_append_getElem → bZ,take_of_length_le → cS,map_cons → cg,drop_eq_getElem_cons → dM,mem_of_mem_take → fp,getElem?_append_left → zV
open List.cons renaming injEq → Aa
open Nat renaming le_refl → ax,lt_of_lt_of_le → bB,mul_comm → qF
open Option.some renaming inj → bg
open Or renaming inl → cF
open Prod.mk renaming injEq → iB
namespace Go.Proofs.YtffladgmkiimjaaGreatDoor
open Go
theorem eY(n:Int)(h₀:0≤n)(h₁:n<2 ^ 62):IntKind.i64.wrap n=n:=by rw[IntKind.wrap_i64];omega
theorem Yh(a b:Nat)(ha:a<2 ^ 62)(hb:b<2 ^ 62):bits .and ag (a:Int) (b:Int)=((a &&& b:Nat):Int):=(bits_nat ag 62 (by decide) eY a b ha hb).1
theorem abN(a b:Nat)(ha:a<2 ^ 62)(hb:b<2 ^ 62):bits .or ag (a:Int) (b:Int)=((a ||| b:Nat):Int):=(bits_nat ag 62 (by decide) eY a b ha hb).2
theorem vW(n m:Nat)(hn:n<512):(bits BinOp.and IntKind.i64 (↑n / 2 ^ m) 1==1)=n.testBit m:=by
 have e:((n:Int) / 2 ^ m)=((n / 2 ^ m:Nat):Int):=by simp
 have hlt:n / 2 ^ m<2 ^ 62:=Nat.lt_of_le_of_lt (Nat.div_le_self _ _) (by omega);rw[e,show(1:Int)=((1:Nat):Int) from rfl,Yh _ 1 hlt (by decide)];rw[Nat.testBit_eq_decide_div_mod_eq,Nat.and_one_is_mod,Bool.eq_iff_iff];simp only[beq_iff_eq,decide_eq_true_eq];omega
structure BB where
 room:Int
 depth:Int
 least:Int
 minutes:Int
 bM:Int
 fD:Int
 dc:Int
 fC:Int
 ll:Int
 lm:Int
 pl:Int
 pm:Int
abbrev BB.cells(b:BB)(men sent marks:aj):Array Value:=#[ah ag b.room,ah ag b.depth,ah ag b.least,ah ag b.minutes,ah ag b.bM,ah ag b.fD,ah ag b.dc,ah ag b.fC,ah ag b.ll,ah ag b.lm,ah ag b.pl,ah ag b.pm,men,sent,marks]
structure BB.Ok(b:BB):Prop where
 room:1≤b.room∧b.room≤99
 depth:0≤b.depth∧b.depth≤99
 least:0≤b.least∧b.least≤99
 minutes:1≤b.minutes∧b.minutes≤8
 bM:0≤b.bM∧b.bM≤99
 fD:0≤b.fD∧b.fD≤99
 dc:0≤b.dc∧b.dc≤3
 fC:0≤b.fC∧b.fC≤99
 leak:0≤b.ll∧b.ll≤b.lm∧b.lm≤99∧b.lm-b.ll<3
 MK:1≤b.pl∧b.pl≤b.pm∧b.pm≤b.minutes
def BB.holds(b:BB):Int:=b.room*(33+b.depth) / 33
def BB.Li(b:BB)(n:Int):Int:=n*33 / (33+b.depth)
structure dT where
 leak:Int
 m0:Int
 m1:Int
 m2:Int
deriving DecidableEq
abbrev dT.cells(a:dT):Array Value:=#[ah ag a.leak,ah ag a.m0,ah ag a.m1,ah ag a.m2]
structure dT.Ok(a:dT):Prop where
 leak:0≤a.leak∧a.leak≤400
 m0:0≤a.m0∧a.m0≤99
 m1:0≤a.m1∧a.m1≤99
 m2:0≤a.m2∧a.m2≤99
def dT.used(a:dT):Int:=a.leak+a.m0+a.m1+a.m2
theorem BB.El(b:BB)(h:b.Ok):b.room≤b.holds∧b.holds≤396:=by
 have h1:=h.room;have h2:=h.depth;unfold BB.holds;have h3:b.room*33≤b.room*(33+b.depth):=Int.mul_le_mul_of_nonneg_left (by omega) (by omega);have h4:b.room*(33+b.depth)≤99*132:=Int.mul_le_mul (by omega) (by omega) (by omega) (by omega);omega
theorem BB.aan(b:BB)(h:b.Ok){n:Int}(h0:0≤n)(h1:n≤999):0≤n*33∧n*33≤32967∧0<33+b.depth∧33+b.depth≤132:=by
 have h2:=h.depth;omega
def BB.step(b:BB)(used:Int)(p:Nat)(m:Nat)(n:Int):Int:=
 max 0 (min ((n+if p.testBit m then b.fD else 0)+if b.pl≤m∧m≤b.pm then b.fC else 0) b.holds-used)
def BB.wW(b:BB)(used:Int)(p:Nat):Nat→Int
 |0=>b.room
 |m+1=>b.step used p (m+1) (b.wW used p m)
def BB.lN(b:BB)(used:Int)(p k:Nat):List Int:=(List.range k).map fun i=>b.wW used p (i+1)
theorem BB.P6(b:BB)(used:Int)(p k:Nat):b.lN used p (k+1)=b.lN used p k++[b.wW used p (k+1)]:=by
 simp[BB.lN,List.range_succ]
theorem BB.uU(b:BB)(used:Int)(p k:Nat):(b.lN used p k).length=k:=by simp[BB.lN]
theorem BB.NU(b:BB)(h:b.Ok){used:Int}(hu:0≤used)(p:Nat):∀k,0≤b.wW used p k∧b.wW used p k≤396:=by
 intro k;have hh:=b.El h;have h1:=h.room;cases k with
 |zero=>simp only[BB.wW];omega
 |succ k=>simp only[BB.wW,BB.step];omega
def upTo(p k:Nat):List Nat:=(bV 1 k).filter p.testBit
theorem Gl(p k:Nat):upTo p (k+1)=upTo p k++if p.testBit (k+1) then[k+1] else[]:=by
 unfold upTo;rw[show bV 1 (k+1)=bV 1 k++[k+1] by rw[List.range'_concat];simp[Nat.add_comm]];rw[List.filter_append]
 congr 1
 by_cases h:p.testBit (k+1)<;>simp[h]
theorem vE(p k:Nat):(upTo p k).length≤k:=by
 unfold upTo;have:=List.length_filter_le p.testBit (bV 1 k);simpa using this
end Go.Proofs.YtffladgmkiimjaaGreatDoor
namespace Go.Proofs.YtffladgmkiimjaaGreatDoor
open Go.RowKit
theorem qh{a b:Bool}(h:a=b):aK (aF a)=aC (aF b):=by rw[h]
theorem gR{k:IntKind}{a b:Int}(h:a=b):aK (ah k a)=aC (ah k b):=by rw[h]
def aQ(n l m:Int):Bool:=decide (l≤n)&&decide (n≤m)
theorem qo(n l m:Int)(w:ar):bm aq 138 #[ah ag n,ah ag l,ah ag m] w fun e w'=>e=aC (aF (aQ n l m))∧w=w':=by
 by_cases h1:l≤n
 ·have h:aQ n l m=decide (n≤m):=by simp[aQ,h1]
  rw[h];have H:=ai h;clear h
  go_enter Tryz.func138,Tryz.ntmps138
  go_wp2
  all_goals (go_ret;first|exact⟨rfl,rfl⟩|(refine⟨qh ?_,rfl⟩;simp))
 ·have h:aQ n l m=false:=by simp[aQ,h1]
  rw[h];have H:=ai h;clear h
  go_enter Tryz.func138,Tryz.ntmps138
  go_wp2
  all_goals (go_ret;first|exact⟨rfl,rfl⟩|(refine⟨qh ?_,rfl⟩;simp))
theorem I7(n m:Nat)(hn:n<512)(hm:m<9)(w:ar):bm aq 162 #[ah ag n,ah ag m] w fun e w'=>e=aC (aF (n.testBit m))∧w=w':=by
 go_enter Tryz.func162,Tryz.ntmps162
 go_wp2
 go_ret
 exact⟨qh (vW n m hn),rfl⟩
theorem info3:(Tryz.prog.info? 3).map (fun i=>(i.zero,i.size,i.bytes))=some (some (ah ag 0),1,8):=by kernel_rfl
theorem sO{B e n size:Nat}{xs:List aj}{w wr w1:ar}{u:aj}{o:Obj}(hB:B≤wr.heap.size)(hown:wr.ownsRow B e size u n xs)(dX:az B w wr)(hgrow:(wr.alloc o).grownBy w1 u.ownBlock):az B w w1:=
 (dX.alloc hB o).grown hgrow (by simp;omega) fun j hj=>(hown.lt j hj).1
theorem Ky(p:Nat)(hp:p<512)(w:ar) :
  bm aq 99 #[ah ag p] w fun e w'=>∃v,e=aC v∧w'.ownsRow w.heap.size 3 1 v (upTo p 8).length ((upTo p 8).map fun(m:Nat)=>aG ag (m:Int))∧az w.heap.size w w':=by
 obtain⟨i0,hi,hz0,hz1,hz2⟩:=info_parts info3
 go_enter Tryz.func99,Tryz.ntmps99
 go_wp2
 go_loopw [3,4] (fun v i wr=>∃k:Nat,k≤8∧i=ah ag (k+1)∧wr.ownsRow w.heap.size 3 1 v (upTo p k).length ((upTo p k).map fun(m:Nat)=>aG ag (m:Int))∧az w.heap.size w wr)
  (fun _ i _=>9-(intOf i).toNat)
 case atStart=>exact⟨0,by omega,rfl,dL _ _ _ _,aw _ _⟩
 case round=>
  obtain⟨k,hk,rfl,hown,dX⟩:=hrel;have hle:=vE p k
  by_cases hlt:k<8
  ·cases hb:p.testBit (k+1)
   ·have e1:upTo p (k+1)=upTo p k:=by rw[Gl,hb];simp
    have hc:=I7 p (k+1) hp (by omega);rw[hb] at hc;have HC:=ai hc;have H1:=ai e1;clear e1 hb hc
    go_wp2_with (go_at_call 162;refine(HC.out _).mono ?_;rintro e w' ⟨rfl,rfl⟩)
    go_roundw
    case rel=>exact⟨k+1,by omega,by go_num,by rw[H1.out];exact hown,dX⟩
    case measure=>simp[intOf];omega
   ·have e1:upTo p (k+1)=upTo p k++[k+1]:=by rw[Gl,hb];simp
    have hc:=I7 p (k+1) hp (by omega);rw[hb] at hc;have HC:=ai hc;have H1:=ai e1;clear e1 hb hc;have hB:=dX.size
    go_wp2_with (first
     |(go_at_call 162;refine(HC.out _).mono ?_;rintro e w' ⟨rfl,rfl⟩)
     |(at_builtin;refine wpList_append_own _ rfl _ _ 25 rfl w.heap.size 3 i0 (ah ag 0) 1 8 gu hi hz0 hz1 hz2 rfl (by decide) _ _ _ rfl (hown.alloc _) ⟨wr.heap.size,0,none⟩ 1 1 [ah ag (k+1)] rfl rfl ?c1 ?c2 ?c3 ?c4 ?c5 ?_))
    case c1=>
     intro j u hj
     match j,hj with
     |0,hj=>simp at hj;subst hj;simp[kC]
    case c2=>intro u hu;simp at hu;subst hu;rfl
    case c3=>unfold maxLen;omega
    case c4=>omega
    case c5=>simp;omega
    intro v' w1 hown' hgrow _;have hb1:az w.heap.size w w1:=sO hB hown dX hgrow;clear hgrow dX hown;go_wp2;go_roundw
    case rel=>exact⟨k+1,by omega,by go_num,by rw[H1.out];simpa using hown',hb1⟩
    case measure=>simp[intOf];omega
  ·obtain rfl:k=8:=by omega
   go_wp2
   go_ret
   exact⟨_,rfl,hown,dX⟩
theorem sF(p:Nat)(hp:p<512)(w:ar):bm aq 97 #[ah ag p] w fun e w'=>e=aC (ah ag (upTo p 8).length)∧az w.heap.size w w':=by
 go_enter Tryz.func97,Tryz.ntmps97
 go_wp2_with fail
 refine(Ky p hp _).mono ?_;rintro e w1 ⟨v,rfl,hown,hb⟩;rcases hown.2 with⟨rfl,h0⟩|⟨g,cap,cur,rfl,_,_,_,_,_,_⟩
 ·have H0:=ai h0;clear h0 hown;go_wp2
  go_ret
  exact⟨gR (by rw[H0.out];rfl),hb⟩
 ·clear hown;go_wp2
  go_ret
  exact⟨rfl,hb⟩
theorem GY(b:BB)(hb:b.Ok)(men sent marks:aj)(w:ar):bm aq 115 #[aO (b.cells men sent marks)] w fun e w'=>e=aC (ah ag b.holds)∧az w.heap.size w w':=by
 have h1:=hb.room;have h2:=hb.depth;have h3:=b.El hb;have h4:b.room*(33+b.depth)≤99*132:=Int.mul_le_mul (by omega) (by omega) (by omega) (by omega);have h5:0≤b.room*(33+b.depth):=Int.mul_nonneg (by omega) (by omega)
 go_enter Tryz.func115,Tryz.ntmps115
 go_wp2
 go_ret
 exact⟨gR rfl,(aw _ _).alloc (ax _) _⟩
theorem Jg(b:BB)(hb:b.Ok)(men sent marks:aj)(n:Int)(hn:0≤n∧n≤999)(w:ar):bm aq 139 #[aO (b.cells men sent marks),ah ag n] w fun e w'=>e=aC (ah ag (b.Li n))∧az w.heap.size w w':=by
 have h2:=hb.depth;have h1:=b.aan hb hn.1 hn.2
 go_enter Tryz.func139,Tryz.ntmps139
 go_wp2
 go_ret
 exact⟨gR rfl,(aw _ _).alloc (ax _) _⟩
theorem JU(a:dT)(ha:a.Ok)(w:ar):bm aq 165 #[aO a.cells] w fun e w'=>e=aC (ah ag a.used)∧az w.heap.size w w':=by
 have h1:=ha.leak;have h2:=ha.m0;have h3:=ha.m1;have h4:=ha.m2;have ix:∀(x y z:Int) w,(mH 132 (aO #[ah ag x,ah ag y,ah ag z]) (ah ag 0)).run aq w=.ok (ah ag x) w:=fun _ _ _ _=>by kernel_rfl
 have iy:∀(x y z:Int) w,(mH 132 (aO #[ah ag x,ah ag y,ah ag z]) (ah ag 1)).run aq w=.ok (ah ag y) w:=fun _ _ _ _=>by kernel_rfl
 have iz:∀(x y z:Int) w,(mH 132 (aO #[ah ag x,ah ag y,ah ag z]) (ah ag 2)).run aq w=.ok (ah ag z) w:=fun _ _ _ _=>by kernel_rfl
 go_enter Tryz.func165,Tryz.ntmps165
 go_wp2
 go_loop [3,10] (fun n i=>(i=ah ag 0∧n=ah ag a.leak)∨(i=ah ag 1∧n=ah ag (a.leak+a.m0))∨(i=ah ag 2∧n=ah ag (a.leak+a.m0+a.m1))∨(i=ah ag 3∧n=ah ag (a.leak+a.m0+a.m1+a.m2))) (fun _ i=>3-(intOf i).toNat)
 case atStart=>exact cF ⟨rfl,rfl⟩
 case round=>
  rcases hrel with⟨rfl,rfl⟩|⟨rfl,rfl⟩|⟨rfl,rfl⟩|⟨rfl,rfl⟩
  ·go_wp2
   go_round
   case rel=>exact .inr (cF ⟨rfl,rfl⟩)
   case measure=>simp[intOf]
  ·go_wp2
   go_round
   case rel=>exact .inr (.inr (cF ⟨rfl,rfl⟩))
   case measure=>simp[intOf]
  ·go_wp2
   go_round
   case rel=>exact .inr (.inr (.inr ⟨rfl,rfl⟩))
   case measure=>simp[intOf]
  ·go_wp2
   go_ret
   exact⟨gR rfl,(aw _ _).alloc (ax _) _⟩
abbrev ML(b:BB)(men sent marks:aj)(a:dT)(w w':ar):Prop:=w'.cell? ⟨w.heap.size,0,none⟩=some (ah ag b.room)∧w'.cell? ⟨w.heap.size,4,none⟩=some (ah ag b.bM)∧w'.cell? ⟨w.heap.size+1,0,none⟩=some (ah ag a.leak)∧w'.cell? ⟨w.heap.size+1,1,none⟩=some (ah ag a.m0)∧w'.cell? ⟨w.heap.size+1,2,none⟩=some (ah ag a.m1)∧w'.cell? ⟨w.heap.size+1,3,none⟩=some (ah ag a.m2)∧az (w.heap.size+2) ((w.alloc (au (b.cells men sent marks) 119)).alloc (au a.cells 134)) w'
theorem Ij(b:BB)(men sent marks:aj)(a:dT)(w:ar):ML b men sent marks a w ((w.alloc (au (b.cells men sent marks) 119)).alloc (au a.cells 134)).drew:=by
 refine⟨?_,?_,?_,?_,?_,?_,(aw _ _).drew⟩<;>go_simp
theorem Kg{b:BB}{men sent marks:aj}{a:dT}{w w1 w2:ar}(h:ML b men sent marks a w w1)(hb:az w1.heap.size w1 w2):ML b men sent marks a w w2:=by
 obtain⟨h1,h2,h3,h4,h5,h6,h7⟩:=h;have hs:=h7.size;simp at hs;refine⟨(hb.cell (by simp;omega)).trans h1,(hb.cell (by simp;omega)).trans h2,(hb.cell (by simp;omega)).trans h3,(hb.cell (by simp;omega)).trans h4,(hb.cell (by simp;omega)).trans h5,(hb.cell (by simp;omega)).trans h6,h7.trans (hb.mono (by omega))⟩
theorem ownsRow_base{w:ar}{B B':Nat}{e:aZ}{size:Nat}{v:aj}{n:Nat}{xs:List aj}(h:w.ownsRow B e size v n xs)(hB:B'≤B):w.ownsRow B' e size v n xs:=
 ⟨h.1,h.2.imp id fun⟨g,cap,cur,h1,h2,h3⟩=>⟨g,cap,cur,h1,Nat.le_trans hB h2,h3⟩⟩
theorem bN{w:ar}{B:Nat}{b:BB}{men sent marks:aj}{T:aZ}(h:w.heap[B]?=some (au (b.cells men sent marks) T (0,0))) :
  w.cell? ⟨B,0,none⟩=some (ah ag b.room)∧w.cell? ⟨B,1,none⟩=some (ah ag b.depth)∧w.cell? ⟨B,2,none⟩=some (ah ag b.least)∧w.cell? ⟨B,3,none⟩=some (ah ag b.minutes)∧w.cell? ⟨B,4,none⟩=some (ah ag b.bM)∧w.cell? ⟨B,5,none⟩=some (ah ag b.fD)∧w.cell? ⟨B,6,none⟩=some (ah ag b.dc)∧
  w.cell? ⟨B,7,none⟩=some (ah ag b.fC)∧w.cell? ⟨B,8,none⟩=some (ah ag b.ll)∧w.cell? ⟨B,9,none⟩=some (ah ag b.lm)∧w.cell? ⟨B,10,none⟩=some (ah ag b.pl)∧w.cell? ⟨B,11,none⟩=some (ah ag b.pm)∧w.cell? ⟨B,12,none⟩=some men∧w.cell? ⟨B,13,none⟩=some sent∧w.cell? ⟨B,14,none⟩=some marks:=by
 unfold dH;simp only[h];exact⟨rfl,rfl,rfl,rfl,rfl,rfl,rfl,rfl,rfl,rfl,rfl,rfl,rfl,rfl,rfl⟩
theorem tQ(w:ar)(o o':Obj):((w.alloc o).alloc o').heap[w.heap.size]?=some o:=by
 rw[aS _ _ _ (by simp)];exact ay w o
theorem BB.Xf(b:BB)(used:Int)(p k:Nat)(hk:0<k):b.wW used p k=b.step used p k (b.wW used p (k-1)):=by
 cases k with
 |zero=>omega
 |succ k=>rfl
theorem BB.Sj(b:BB)(used:Int)(p k:Nat)(hk:0<k):b.lN used p k=b.lN used p (k-1)++[b.wW used p k]:=by
 cases k with
 |zero=>omega
 |succ k=>exact b.P6 used p k
theorem gb{n l m:Int}:aQ n l m=true↔l≤n∧n≤m:=by simp[aQ]
theorem GQ{n l m:Int}(h:aQ n l m=false):¬(l≤n∧n≤m):=fun h'=>by rw[gb.2 h'] at h;cases h
section
variable{b:BB}{used n:Int}{p k:Nat}
theorem Vp(h1:p.testBit k=false)(h2:aQ k b.pl b.pm=false):b.step used p k n=max 0 (min n b.holds-used):=by
 unfold BB.step;rw[h1,if_neg (GQ h2)];simp
theorem Vm(h1:p.testBit k=true)(h2:aQ k b.pl b.pm=false):b.step used p k n=max 0 (min (n+b.fD) b.holds-used):=by
 unfold BB.step;rw[h1,if_neg (GQ h2)];simp
theorem Vo(h1:p.testBit k=false)(h2:aQ k b.pl b.pm=true):b.step used p k n=max 0 (min (n+b.fC) b.holds-used):=by
 unfold BB.step;rw[h1,if_pos (gb.1 h2)];simp
theorem Vl(h1:p.testBit k=true)(h2:aQ k b.pl b.pm=true):b.step used p k n=max 0 (min (n+b.fD+b.fC) b.holds-used):=by
 unfold BB.step;rw[h1,if_pos (gb.1 h2)];simp
end
theorem FD{w w':ar}{B:Nat}{e:aZ}{size:Nat}{v:aj}{n:Nat}{xs:List aj}(h:w.ownsRow B e size v n xs)(hb:az w.heap.size w w'):w'.ownsRow B e size v n xs:=
 ⟨h.1,h.2.imp id fun⟨g,cap,cur,h1,h2,h3,h4⟩=>⟨g,cap,cur,h1,h2,by rw[hb.block g (ak.1 h3).1];exact h3,h4⟩⟩
theorem XA{W:ar}{ad:Addr}{v:aj}(h:W.cell? ad=some v):∀j u,[v][j]?=some u→W.cell? (ad.add j)=some u:=by
 intro j u hj
 match j,hj with
 |0,hj=>simp at hj;subst hj;simpa [kC] using h
theorem Lx(w:ar)(v:aj)(T:aZ):(w.alloc (au #[v] T)).cell? ⟨w.heap.size,0,none⟩=some v:=by
 rw[World.cell?_alloc_at _ _ _ _ rfl];rfl
theorem SJ{v:aj}(h:v.oneCell'=true):∀u∈[v],u.oneCell'=true:=by
 intro u hu;simp at hu;subst hu;exact h
theorem DN(b:BB)(hb:b.Ok)(men sent marks:aj)(a:dT)(ha:a.Ok)(p:Nat)(hp:p<512)(w:ar) :
  bm aq 114 #[aO (b.cells men sent marks),aO a.cells,ah ag p] w fun e w'=>∃v,e=aC v∧w'.ownsRow w.heap.size 3 1 v b.minutes.toNat ((b.lN (b.bM+a.used) p b.minutes.toNat).map (aG ag))∧az w.heap.size w w':=by
 have Zk:=hb.bM;have Ay:=hb.minutes;have ai1:=hb.fD;have aix:=hb.fC;have hroom:=hb.room;have hu:0≤a.used∧a.used≤697:=by have:=ha.leak;have:=ha.m0;have:=ha.m1;have:=ha.m2;unfold dT.used;omega
 have hw:IntKind.i64.wrap (b.bM+a.used)=b.bM+a.used:=eY _ (by omega) (by omega);obtain⟨i0,hi,hz0,hz1,hz2⟩:=info_parts info3
 go_enter Tryz.func114,Tryz.ntmps114
 go_wp2
 go_region_held3 (fun w'=>w'.cell? ⟨w.heap.size,0,none⟩=some (ah ag b.room)∧w'.cell? ⟨w.heap.size,4,none⟩=some (ah ag b.bM)∧w'.cell? ⟨w.heap.size+1,0,none⟩=some (ah ag a.leak)∧w'.cell? ⟨w.heap.size+1,1,none⟩=some (ah ag a.m0)∧w'.cell? ⟨w.heap.size+1,2,none⟩=some (ah ag a.m1)∧w'.cell? ⟨w.heap.size+1,3,none⟩=some (ah ag a.m2)∧az (w.heap.size+2) ((w.alloc (au (b.cells men sent marks) 119)).alloc (au a.cells 134)) w')
  (first|exact Ij b men sent marks a w|exact Kg (by assumption) (by assumption))
  (first|(go_at_call 165;refine(JU a ha _).mono ?_;rintro e w1 ⟨rfl,hb1⟩))
 rename _∧_=>hS;obtain⟨-,-,-,-,-,-,hB1⟩:=hS
 have m8:w1.heap[w.heap.size]?=some (au (b.cells men sent marks) 119 (0,0)):=by
  rw[hB1.block _ (by omega)];exact tQ _ _ _
 obtain⟨-,-,-,hc3,-,-,-,-,-,-,-,-,-,-,-⟩:=bN m8;clear hb1 hw;generalize XG:b.bM+a.used=used at *;have hu2:0≤used∧used≤796:=by omega
 have HH:=ai XG;clear XG hu;go_wp2
 go_loopw [7,8,24] (fun v n i wr=>∃k:Nat,(k:Int)≤b.minutes+1∧i=ah ag k∧n=ah ag (b.wW used p (k-1))∧wr.ownsRow (w.heap.size+2) 3 1 v (k-1) ((b.lN used p (k-1)).map (aG ag))∧az (w.heap.size+2) ((w.alloc (au (b.cells men sent marks) 119)).alloc (au a.cells 134)) wr)
  (fun _ _ i _=>b.minutes.toNat+1-(intOf i).toNat)
 case atStart=>exact⟨0,by omega,rfl,rfl,dL _ _ _ _,hB1⟩
 case round=>
  obtain⟨k,hk,rfl,rfl,hown,dX⟩:=hrel
  have m8:wr.heap[w.heap.size]?=some (au (b.cells men sent marks) 119 (0,0)):=by
   rw[dX.block _ (by omega)];exact tQ _ _ _
  have hcc:=bN m8;have TE:=b.NU hb hu2.1 p (k-1);have alx:=b.El hb;have hB:=dX.size;simp at hB
  by_cases hlt:(k:Int)<b.minutes+1
  ·rcases Nat.eq_zero_or_pos k with rfl|jJ
   ·obtain⟨hc0,hc1,hc2,hc3,hc4,hc5,hc6,hc7,hc8,QE,Nl,ags,agr,QF,TA⟩:=hcc;go_wp2;go_roundw
    case rel=>exact⟨1,by omega,rfl,rfl,hown,dX⟩
    case measure=>simp[intOf]
   ·have hst:=b.Xf used p k jJ;have hpl:=b.Sj used p k jJ;have hlen:(b.lN used p (k-1)).length=k-1:=b.uU used p (k-1);have hne:((k:Int)==0)=false:=by simp;omega
    generalize b.wW used p (k-1)=n at *;obtain⟨hc0,hc1,hc2,hc3,hc4,hc5,hc6,hc7,hc8,QE,Nl,ags,agr,QF,TA⟩:=hcc;have H1:=ai hst;have H2:=ai hpl;have H3:=ai hlen;clear hst hpl hlen;cases ZM:p.testBit k<;>cases hin:aQ k b.pl b.pm
    all_goals
     have HB:=ai ZM;have HI:=ai hin;have HA:=I7 p k hp (by omega);rw[ZM] at HA;have HAH:=ai HA;have IA:=qo k b.pl b.pm;rw[hin] at IA;have IAH:=ai IA;clear ZM hin HA IA
     go_wp2_with (first
      |(go_at_call 162;refine(HAH.out _).mono ?_;rintro e w' ⟨rfl,rfl⟩)
      |(go_at_call 138;refine(IAH.out _).mono ?_;rintro e w' ⟨rfl,rfl⟩)
      |(go_at_call 115;refine(GY b hb men sent marks _).mono ?_;rintro e w2 ⟨rfl,hb2⟩;have hown2:=FD hown hb2;have ak4:=hb2.size)
      |(at_builtin;refine wpList_append_own _ rfl (.tmp 59) (.tmp 61) 25 rfl (w.heap.size+2) 3 i0 (ah ag 0) 1 8 gu hi hz0 hz1 hz2 rfl (by decide) _ _ _ rfl (hown2.alloc _) ⟨w2.heap.size,0,none⟩ 1 1 [_] rfl rfl (XA (Lx _ _ _)) (SJ rfl) ?_ ?_ ?_ ?_))
    all_goals first
     |(simp;omega;done)
     |(unfold maxLen;omega;done)
     |(omega;done)
     |skip
    all_goals
     intro v' w3 hown' hgrow _;have hb3:=((dX.trans (hb2.mono (by omega))).alloc (by have:=hb2.size;omega) _).grown hgrow (by simp;omega) (fun j hj=>(hown2.lt j hj).1);clear hgrow;go_wp2;go_roundw
     case rel=>
      have hS:b.step used p k n=max 0 (min (n+(if p.testBit k then b.fD else 0)+(if aQ k b.pl b.pm then b.fC else 0)) b.holds-used):=by
       first
        |(rw[Vp HB.out HI.out,HB.out,HI.out];simp;done)
        |(rw[Vm HB.out HI.out,HB.out,HI.out];simp;done)
        |(rw[Vo HB.out HI.out,HB.out,HI.out];simp;done)
        |(rw[Vl HB.out HI.out,HB.out,HI.out];simp;done)
      rw[HB.out,HI.out] at hS;simp only[if_true,bw,if_false,Int.add_zero] at hS;refine⟨k+1,by omega,by go_num,?_,?_,hb3⟩
      ·rw[Nat.add_sub_cancel,H1.out,hS]
       congr 1
       skip
       omega
      ·rw[Nat.add_sub_cancel,H2.out,H1.out,hS];have qq:k-1+1=k:=by omega
       rw[qq] at hown';rw[List.map_append];refine(congrArg (fun y=>w3.ownsRow (w.heap.size+2) 3 1 v' k (List.map (aG ag) (b.lN used p (k-1))++[aG ag y])) ?_).mp hown';clear hown'
       skip
       omega
     case measure=>simp[intOf];omega
  ·have sS:k=b.minutes.toNat+1:=by omega
   go_wp2
   go_ret
   refine⟨_,rfl,?_,?_⟩
   ·rw[HH.out];have e:k-1=b.minutes.toNat:=by omega
    rw[e] at hown;exact ownsRow_base hown (by omega)
   ·exact(((aw _ _).alloc (ax _) _).alloc (by simp) _).trans (dX.mono (by omega))
theorem Cc{w w':ar}{B:Nat}{b:BB}{men sent marks:aj}(h:w.heap[B]?=some (au (b.cells men sent marks) 119 (0,0)))(hb:az w.heap.size w w'):(w'.cell? ⟨B,0,none⟩=some (ah ag b.room)∧w'.cell? ⟨B,1,none⟩=some (ah ag b.depth)∧w'.cell? ⟨B,2,none⟩=some (ah ag b.least)∧w'.cell? ⟨B,3,none⟩=some (ah ag b.minutes)∧w'.cell? ⟨B,4,none⟩=some (ah ag b.bM)∧w'.cell? ⟨B,5,none⟩=some (ah ag b.fD)∧w'.cell? ⟨B,6,none⟩=some (ah ag b.dc)∧w'.cell? ⟨B,7,none⟩=some (ah ag b.fC)∧w'.cell? ⟨B,8,none⟩=some (ah ag b.ll)∧w'.cell? ⟨B,9,none⟩=some (ah ag b.lm)∧w'.cell? ⟨B,10,none⟩=some (ah ag b.pl)∧w'.cell? ⟨B,11,none⟩=some (ah ag b.pm)∧w'.cell? ⟨B,12,none⟩=some men∧w'.cell? ⟨B,13,none⟩=some sent∧w'.cell? ⟨B,14,none⟩=some marks)∧az w.heap.size w w':=by
 have hlt:B<w.heap.size:=(ak.1 h).1;have h':w'.heap[B]?=some (au (b.cells men sent marks) 119 (0,0)):=by rw[hb.block B hlt];exact h
 exact⟨bN h',hb⟩
theorem NP{w w1 w':ar}{B:Nat}{b:BB}{men sent marks:aj}(h:w.heap[B]?=some (au (b.cells men sent marks) 119 (0,0)))(h1:az w.heap.size w w1)(h2:az w1.heap.size w1 w'):(w'.cell? ⟨B,0,none⟩=some (ah ag b.room)∧w'.cell? ⟨B,1,none⟩=some (ah ag b.depth)∧w'.cell? ⟨B,2,none⟩=some (ah ag b.least)∧w'.cell? ⟨B,3,none⟩=some (ah ag b.minutes)∧w'.cell? ⟨B,4,none⟩=some (ah ag b.bM)∧w'.cell? ⟨B,5,none⟩=some (ah ag b.fD)∧w'.cell? ⟨B,6,none⟩=some (ah ag b.dc)∧w'.cell? ⟨B,7,none⟩=some (ah ag b.fC)∧w'.cell? ⟨B,8,none⟩=some (ah ag b.ll)∧w'.cell? ⟨B,9,none⟩=some (ah ag b.lm)∧w'.cell? ⟨B,10,none⟩=some (ah ag b.pl)∧w'.cell? ⟨B,11,none⟩=some (ah ag b.pm)∧w'.cell? ⟨B,12,none⟩=some men∧w'.cell? ⟨B,13,none⟩=some sent∧w'.cell? ⟨B,14,none⟩=some marks)∧az w.heap.size w w':=
 Cc h (h1.trans (h2.mono h1.size))
theorem LM(b:BB)(hb:b.Ok)(men sent marks:aj)(n:Int)(hn:0≤n∧n≤999)(B:Nat)(w:ar)(m8:w.heap[B]?=some (au (b.cells men sent marks) 119 (0,0))) :
  bm aq 171 #[ah ag n,bp (some ⟨B,0,none⟩)] w fun e w'=>e=aC (aF (decide (b.Li n<b.least)))∧az w.heap.size w w':=by
 have HK:=ai m8;clear m8
 go_enter Tryz.func171,Tryz.ntmps171
 go_wp2
 go_region_held3 (fun w'=>(w'.cell? ⟨B,0,none⟩=some (ah ag b.room)∧w'.cell? ⟨B,1,none⟩=some (ah ag b.depth)∧w'.cell? ⟨B,2,none⟩=some (ah ag b.least)∧w'.cell? ⟨B,3,none⟩=some (ah ag b.minutes)∧w'.cell? ⟨B,4,none⟩=some (ah ag b.bM)∧w'.cell? ⟨B,5,none⟩=some (ah ag b.fD)∧w'.cell? ⟨B,6,none⟩=some (ah ag b.dc)∧w'.cell? ⟨B,7,none⟩=some (ah ag b.fC)∧w'.cell? ⟨B,8,none⟩=some (ah ag b.ll)∧w'.cell? ⟨B,9,none⟩=some (ah ag b.lm)∧w'.cell? ⟨B,10,none⟩=some (ah ag b.pl)∧w'.cell? ⟨B,11,none⟩=some (ah ag b.pm)∧w'.cell? ⟨B,12,none⟩=some men∧w'.cell? ⟨B,13,none⟩=some sent∧w'.cell? ⟨B,14,none⟩=some marks)∧az w.heap.size w w')
  (first|exact Cc HK.out (aw _ _).drew|exact NP HK.out (And.right (by assumption)) (by assumption))
  (first|(go_at_call 139;refine(Jg b hb men sent marks n hn _).mono ?_;rintro e w1 ⟨rfl,hb1⟩))
 rename _∧_=>hS;have hBw:=hS.2;clear hS;go_wp2
 go_ret
 exact⟨rfl,hBw⟩
end Go.Proofs.YtffladgmkiimjaaGreatDoor
namespace Go.Lag
open Go Go.ChangeMaps Go.MapKept
structure yg(P:Program)(T K E:aZ)(key:Int→aj):Prop where
 map:P.underlying T=some (.map K E)
 plain:∃d,P.underlying K=some d∧∀a b,Instr.sameNow d a b=none
 check:∀(e:Bool) (u:Int) (w:ar),(Instr.checkKey e 10000 K (key u)).run P w=.ok () w
 eql:∀(u v:Int) (w:ar),(Op.equal K (key u) (key v)).run P w=.ok (decide (u=v)) w
 zero:∀w,(zeroValue E).run P w=.ok (aF false) w
def lY(w:ar)(b:Nat)(key:Int→aj)(us:List Int):Prop:=
 ∃es clock,w.heap[b]?=some (.map es clock)∧es.toList.map (fun e:tU=>(e.key,e.val))=us.map fun u=>(key u,aF true)
section
variable{P:Program}{T K E:aZ}{key:Int→aj}
theorem vh(L:yg P T K E key)(u:Int)(w:ar):∀(us:List Int) (es:List tU) (i:Nat),es.map (fun e:tU=>(e.key,e.val))=us.map (fun u=>(key u,Value.bool true))→
  ∃r,(jm K (key u) es i).run P w=.ok r w∧(u∈us→∃j,r=some (j,aF true))∧(u ∉ us→r=none)
 |[],es,i,h=>by
  have:es=[]:=by simpa using h
  subst this;exact⟨none,rfl,by simp,by simp⟩
 |v::us,[],i,h=>by simp at h
 |v::us,e::es,i,h=>by
  simp only[cg,Aa,iB] at h;obtain⟨⟨hk,hv⟩,ht⟩:=h;obtain⟨r,hr,h1,h2⟩:=vh L u w us es (i+1) ht;have hq:=L.eql u v w;rw[←hk] at hq
  have e1:(jm K (key u) (e::es) i).run P w=if decide (u=v)=true then .ok (some (i,e.val)) w else(jm K (key u) es (i+1)).run P w:=by
   show((Op.equal K (key u) e.key).bind fun c=>if c=true then Sem.pure (some (i,e.val)) else jm K (key u) es (i+1)).run P w=_;rw[Sem.run_bind',hq]
   by_cases h:u=v<;>simp[h,Sem.run,Ge]
  by_cases huv:u=v
  ·subst huv;refine⟨some (i,aF true),?_,fun _=>⟨i,rfl⟩,fun h=>absurd (List.mem_cons_self ..) h⟩;rw[e1,if_pos (by simp),hv]
  ·refine⟨r,?_,fun h=>h1 ((List.mem_cons.1 h).resolve_left huv),fun h=>h2 fun h'=>h (List.mem_cons_of_mem _ h')⟩;rw[e1,if_neg (by simpa using huv),hr]
theorem BU(L:yg P T K E key)(u:Int)(w:ar){us:List Int}{es:List tU}(h:es.map (fun e:tU=>(e.key,e.val))=us.map (fun u=>(key u,Value.bool true))) :
  ∃r,(CJ K (key u) es).run P w=.ok r w∧(u∈us→∃j,r=some (j,aF true))∧(u ∉ us→r=none):=by
 obtain⟨d,hd,hs⟩:=L.plain;obtain⟨r,hr,h1,h2⟩:=vh L u w us es 0 h
 have hu:(iL K).run P w=.ok d w:=by
  exact run_underlying hd w
 have e1:(CJ K (key u) es).run P w=(match Instr.findNow d (key u) es 0 with|some r=>Sem.pure r|none=>jm K (key u) es 0).run P w:=by
  show((iL K).bind _).run P w=_;rw[Sem.run_bind',hu];rfl
 cases es with
 |nil=>
  have:us=[]:=by simpa using h.symm
  subst this;exact⟨none,by rw[e1];rfl,by simp,by simp⟩
 |cons e es=>
  refine⟨r,?_,h1,h2⟩;rw[e1]
  have:Instr.findNow d (key u) (e::es) 0=none:=by
   simp only[Instr.findNow,hs]
  rw[this];exact hr
theorem Dx(L:yg P T K E key){w:ar}{b:Nat}{us:List Int}(h:lY w b key us)(u:Int) :
  (Instr.lookup T (.map (some b)) (key u) false).run P w=.ok (aF (decide (u∈us))) w:=by
 obtain⟨es,clock,hb,he⟩:=h;obtain⟨r,hr,h1,h2⟩:=BU L u w he
 have hu:(iL T).run P w=.ok (.map K E) w:=by
  exact run_underlying L.map w
 have hck:=L.check es.isEmpty u w;have hz:=L.zero w;have hg:(getObj b).run P w=.ok (.map es clock) w:=by simp only[getObj,Sem.run,hb]
 unfold Instr.lookup;show((iL T).bind _).run P w=_;rw[Sem.run_bind',hu]
 by_cases hm:u∈us
 ·obtain⟨j,rfl⟩:=h1 hm;simp[Ge,hg,hck,hr,hm]
 ·obtain rfl:=h2 hm;simp[Ge,hg,hck,hr,hm,hz]
theorem Dw(L:yg P T K E key){w:ar}{b:Nat}{us:List Int}(h:lY w b key us)(u:Int)(hu':u ∉ us) :
  ∃es clock,(Ab T (.map (some b)) (key u) (aF true)).run P w=.ok () (setBlock w b (.map es clock))∧lY (setBlock w b (.map es clock)) b key (us++[u]):=by
 obtain⟨es,clock,hb,he⟩:=h;obtain⟨r,hr,h1,h2⟩:=BU L u w he;obtain rfl:=h2 hu'
 have hu:(iL T).run P w=.ok (.map K E) w:=by
  exact run_underlying L.map w
 have hck:=L.check false u w;refine⟨es.push { key:=key u,val:=aF true,born:=clock },clock+1,?_,?_⟩
 ·unfold Ab;show((iL T).bind _).run P w=_;rw[Sem.run_bind',hu];have hg:(getObj b).run P w=.ok (.map es clock) w:=by simp only[getObj,Sem.run,hb]
  simp[Ge,hg,hck,hr,setObj,Sem.run,hb,setBlock]
 ·refine⟨es.push { key:=key u,val:=aF true,born:=clock },clock+1,?_,by simp[he]⟩;have hlt:b<w.heap.size:=(ak.1 hb).1;simp[setBlock,hlt]
theorem lY.keep{w w':ar}{b:Nat}{us:List Int}(h:lY w b key us)(hk:w'.heap[b]?=w.heap[b]?):lY w' b key us:=by
 obtain⟨es,clock,hb,he⟩:=h;exact⟨es,clock,hk.trans hb,he⟩
theorem lY.lt{w:ar}{b:Nat}{us:List Int}(h:lY w b key us):b<w.heap.size:=by
 obtain⟨es,clock,hb,he⟩:=h;exact(ak.1 hb).1
theorem lY.below{w w':ar}{b:Nat}{us:List Int}(h:lY w b key us)(hb:RowKit.Below w.heap.size w w'):lY w' b key us:=h.keep (hb.block b h.lt)
theorem lY.made(w:ar)(key:Int→aj):lY (w.alloc (.map #[] 0)) w.heap.size key []:=⟨#[],0,(MapKept.heap_alloc w _).1,rfl⟩
theorem mS(w:ar){ops:Array Oper}{rest:List Oper}{o:Oper}{a:Act}{Q:Exit→Act→ar→Prop}(hg:o.guard=none)(m x:Operand)(t:aZ)(hop:o.op=Op.lookup t m x false)
  (L:yg P t K E key) (b:Nat) {us:List Int} (hm:a.eval m=.map (some b)) (hown:lY w b key us) (u:Int) (hx:a.eval x=key u)
  (hK:wpList P ops Q rest (a.put o.dst (aF (decide (u∈us)))) w):wpList P ops Q (o::rest) a w:=by
 refine wpList_plain hg fun K' hK'=>?_;have hrun:=Dx L hown u;unfold Oper.wp;simp[execOp,hop,hm,hx,hrun,Ge];exact hK' _ _ (by simpa using hK)
theorem qO(w:ar){ops:Array Oper}{rest:List Oper}{o:Oper}{a:Act}{Q:Exit→Act→ar→Prop}(hg:o.guard=none)(m x v:Operand)(t:aZ)(hop:o.op=Op.mapUpdate t m x v)
  (L:yg P t K E key) (b:Nat) {us:List Int} (hm:a.eval m=.map (some b)) (hown:lY w b key us) (u:Int) (hx:a.eval x=key u) (hv:a.eval v=aF true) (hu:u ∉ us)
  (hK:∀w',lY w' b key (us++[u])→w.grownBy w' (some b)→wpList P ops Q rest (a.put o.dst undef) w'):wpList P ops Q (o::rest) a w:=by
 refine wpList_plain hg fun K' hK'=>?_;obtain⟨es,clock,hrun,uv⟩:=Dw L hown u hu;obtain⟨es0,aha,hb,_⟩:=hown;unfold Oper.wp;simp[execOp,hop,hm,hx,hv,hrun,Ge];exact hK' _ _ (hK _ uv ⟨rfl,rfl,rfl,by simp[setBlock],fun i _ hi=>heap_setBlock_other hb _ (fun e=>hi (by rw[e]))⟩)
end
end Go.Lag
namespace Go.Proofs.YtffladgmkiimjaaGreatDoor
open Go.RowKit Go.Lag
def Reads(w:ar)(v:aj)(n:Nat)(xs:List aj):Prop:=
 (v=ae none 0 0∧n=0∧xs=[])∨∃g off cap,v=ae (some ⟨g,off,none⟩) n cap∧(n≤4294967296∧n≤cap)∧g<w.heap.size∧∀j u,xs[j]?=some u→w.cell? ⟨g,off+j,none⟩=some u
theorem Reads.below{w w':ar}{v:aj}{n:Nat}{xs:List aj}(h:Reads w v n xs)(hb:az w.heap.size w w'):Reads w' v n xs:=by
 rcases h with h|⟨g,off,cap,h1,h2,h3,h4⟩
 ·exact cF h
 ·exact .inr ⟨g,off,cap,h1,h2,bB h3 hb.size,fun j u hj=>(hb.cell (p:=⟨g,off+j,none⟩) h3).trans (h4 j u hj)⟩
theorem Reads.iW{w:ar}{B:Nat}{e:aZ}{size:Nat}{v:aj}{n:Nat}{xs:List aj}(h:w.ownsRow B e size v n xs)(hn:n≤4294967296)(hs:xs.length=n*size):Reads w v n xs:=by
 have hc:=fun g hg=>h.cells (g:=g) hg;have hl:=h.lt;rcases h.2 with⟨rfl,rfl⟩|⟨g,cap,cur,rfl,h2⟩
 ·refine cF ⟨rfl,rfl,by simpa using hs⟩
 ·refine .inr ⟨g,0,cap,rfl,⟨hn,h2.2.2.1⟩,(hl g rfl).2,fun j u hj=>?_⟩;have:=hc g rfl j u hj;cases j<;>simpa [kC] using this
def iG(b:BB):List Int→Nat→Int
 |[],_=>-1
 |n::r,k=>if b.Li n<b.least then k else iG b r (k+1)
theorem Jq(b:BB)(xs:List Int)(k:Nat)(hk:k<xs.length):iG b (xs.drop k) k=if b.Li xs[k]<b.least then(k:Int) else iG b (xs.drop (k+1)) (k+1):=by
 rw[dM hk];rfl
theorem LN(b:BB)(xs:List Int):iG b (xs.drop xs.length) xs.length = -1:=by simp[iG]
theorem E8(b:BB):∀(xs:List Int) (k:Nat),-1≤iG b xs k∧iG b xs k≤k+xs.length:=by
 intro xs
 induction xs with
 |nil=>intro k;simp only[iG];constructor<;>simp<;>omega
 |cons n r ih=>
  intro k;simp only[iG];have:=ih (k+1);split
  ·simp;omega
  ·simp at this ⊢;omega
theorem IW(b:BB)(hb:b.Ok)(men sent marks:aj)(xs:List Int)(Md:∀x∈xs,0≤x∧x≤999)(hlen:xs.length≤1000)(v:aj)(B:Nat)(w:ar)(hv:Reads w v xs.length (xs.map (aG ag)))
  (m8:w.heap[B]?=some (au (b.cells men sent marks) 119 (0,0))) :
  bm aq 170 #[v,.func (.func 171) #[] #[bp (some ⟨B,0,none⟩)]] w fun e w'=>e=aC (ah ag (iG b xs 0))∧az w.heap.size w w':=by
 have HK:=ai m8;clear m8;rcases hv with⟨rfl,hn,hx0⟩|⟨g,off,cap,rfl,hn,hg,hc⟩
 ·obtain rfl:xs=[]:=by simpa using hx0
  clear hx0 hn
  go_enter Tryz.func170,Tryz.ntmps170
  go_wp2
  go_loopw [8] (fun i wr=>i=ah ag 0∧az w.heap.size w wr) (fun _ _=>0)
  case atStart=>exact⟨rfl,aw _ _⟩
  case round=>
   obtain⟨rfl,dX⟩:=hrel;go_wp2
   go_ret
   exact⟨rfl,dX⟩
 ·have HC:=ai hc;clear hc;generalize hL:xs.length=L at *;have HL:=ai hL;clear hL
  go_enter Tryz.func170,Tryz.ntmps170
  go_wp2
  go_loopw [5,8] (fun _ i wr=>∃k:Nat,k≤L∧i=ah ag k∧iG b xs 0=iG b (xs.drop k) k∧az w.heap.size w wr) (fun _ i _=>L-(intOf i).toNat)
  case atStart=>exact⟨0,by omega,rfl,rfl,aw _ _⟩
  case round=>
   obtain⟨k,hk,rfl,kI,dX⟩:=hrel;have hB1:=dX.size
   by_cases hlt:k<L
   ·have ki:k<xs.length:=by rw[HL.out];exact hlt
    have hcell:wr.cell? ⟨g,off+k,none⟩=some (ah ag xs[k]):=(dX.cell (p:=⟨g,off+k,none⟩) hg).trans (HC.out k _ (by simp[ki]))
    have m8:wr.heap[B]?=some (au (b.cells men sent marks) 119 (0,0)):=by
     rw[dX.block B (ak.1 HK.out).1];exact HK.out
    have hx:=Md xs[k] (bO ki);have hT:=LM b hb men sent marks xs[k] hx B wr m8;have hst:=Jq b xs k ki;rw[hst] at kI;clear hst;generalize xs[k]=x at *
    by_cases hd:b.Li x<b.least
    ·rw[if_pos hd] at kI;rw[decide_eq_true hd] at hT;have HB:=ai kI;have HT:=ai hT;clear kI hT hd m8
     go_wp2_with (go_at_call 171;refine HT.out.mono ?_;rintro e w2 ⟨rfl,hb2⟩)
     go_ret
     exact⟨gR HB.out.symm,dX.trans (hb2.mono hB1)⟩
    ·rw[if_neg hd] at kI;rw[decide_eq_false hd] at hT;have HB:=ai kI;have HT:=ai hT;clear kI hT hd m8
     go_wp2_with (go_at_call 171;refine HT.out.mono ?_;rintro e w2 ⟨rfl,hb2⟩)
     go_roundw
     case rel=>exact⟨k+1,by omega,by go_num,HB.out,dX.trans (hb2.mono hB1)⟩
     case measure=>simp[intOf];omega
   ·obtain rfl:k=L:=by omega
    have e1:iG b xs 0 = -1:=by rw[kI,←HL.out];exact LN b xs
    have HE:=ai e1;clear e1 kI;go_wp2
    go_ret
    exact⟨gR HE.out.symm,dX⟩
def BB.bad(b:BB)(used:Int)(p:Nat):Int:=1+iG b (b.lN used p b.minutes.toNat) 0
theorem Jp(b:BB)(hb:b.Ok)(men sent marks:aj)(a:dT)(ha:a.Ok)(p:Nat)(hp:p<512)(w:ar) :
  bm aq 118 #[aO (b.cells men sent marks),aO a.cells,ah ag p] w fun e w'=>e=aC (ah ag (b.bad (b.bM+a.used) p))∧az w.heap.size w w':=by
 have Ay:=hb.minutes;have Zk:=hb.bM;have hu:0≤b.bM+a.used:=by have:=ha.leak;have:=ha.m0;have:=ha.m1;have:=ha.m2;unfold dT.used;omega
 have zm:=E8 b (b.lN (b.bM+a.used) p b.minutes.toNat) 0;rw[b.uU] at zm;have TE:=b.NU hb hu p
 go_enter Tryz.func118,Tryz.ntmps118
 go_wp2_with fail
 refine(DN b hb men sent marks a ha p hp _).mono ?_;rintro e w1 ⟨v,rfl,hown,hb1⟩
 have m8:w1.heap[w.heap.size]?=some (au (b.cells men sent marks) 119 (0,0)):=by
  rw[hb1.block _ (by simp;omega)];exact tQ _ _ _
 have vO:=Reads.iW hown (by omega) (by simp[b.uU])
 have hI:=IW b hb men sent marks (b.lN (b.bM+a.used) p b.minutes.toNat) (fun x hx=>by
  obtain⟨i,_,rfl⟩:=List.mem_map.1 hx
  have:=TE (i+1);omega) (by rw[b.uU];omega) v w.heap.size w1 (by rw[b.uU];exact vO) m8
 have HI:=ai hI;have hs1:=hb1.size;simp at hs1;clear hI m8 vO hown TE
 go_wp2_with (go_at_call 170;refine HI.out.mono ?_;rintro e w2 ⟨rfl,hb2⟩)
 go_ret
 exact⟨gR rfl,((((aw _ _).alloc (ax _) _).alloc (by simp) _).trans (hb1.mono (by simp;omega))).trans (hb2.mono (by omega))⟩
def Au(u:Int):Value:=aO #[ah ag u,ah ag 0,ah ag 0,ah ag 0]
theorem aal(u v:Int)(w:ar):(Op.equal 134 (Au u) (Au v)).run aq w=.ok (decide (u=v)) w:=by
 have ht:Tryz.prog.underlying 134=some (.struct (Tryz.prog.fieldsOf 134)):=by kernel_rfl
 have hp:Tryz.prog.stoodInHeld 134=false:=by kernel_rfl
 have hf:(Tryz.prog.fieldsOf 134).toList=[{ name:= "leak",type:=3,offset:=0,embedded:=false,tag:= "",pkgPath:= "lagan/bell",byteOffset:=0 },{ name:= "men",type:=132,offset:=1,embedded:=false,tag:= "",pkgPath:= "lagan/bell",byteOffset:=8 }]:=by kernel_rfl
 have p1:∀x w,(part 3 #[ah ag x,ah ag 0,ah ag 0,ah ag 0] 0).run aq w=.ok (ah ag x) w:=fun _ _=>by kernel_rfl
 have p2:∀x w,(part 132 #[ah ag x,ah ag 0,ah ag 0,ah ag 0] 1).run aq w=.ok (aO #[ah ag 0,ah ag 0,ah ag 0]) w:=fun _ _=>by kernel_rfl
 have e1:(Op.equalIn 9999 3 (ah ag u) (ah ag v)).run aq w=.ok (u==v) w:=by kernel_rfl
 have e2:(Op.equalIn 9999 132 (aO #[ah ag 0,ah ag 0,ah ag 0]) (aO #[ah ag 0,ah ag 0,ah ag 0])).run aq w=.ok true w:=by kernel_rfl
 unfold Op.equal Au;rw[show Op.maxDepth=9999+1 from rfl,run_equalIn_struct w 9999 134 _ _ ht hp,hf]
 have n1:("leak" : String)≠ "_":=by decide
 have n2:("men" : String)≠ "_":=by decide
 simp only[Op.eqFields,n1,n2,ne_eq,not_false_eq_true,if_true,Sem.run_bind,p1,p2,e1,Result.andThen_ok]
 by_cases h:u=v
 ·subst h;simp only[beq_self_eq_true,Bool.not_true,bw,if_false];simp[p2 u w,e2]
 ·simp[h]
theorem Dk:yg aq 177 134 4 Au:=
 ⟨Tryz.underlying177,⟨_,Tryz.underlying134,fun _ _=>rfl⟩,fun _ _ _=>by kernel_rfl,aal,fun _=>by kernel_rfl⟩
abbrev BB.open(b:BB)(men sent marks all:aj):Array Value:=b.cells men sent marks++#[all]
def rowOf(l:List dT):List Value:=l.flatMap fun a=>a.cells.toList
theorem PX(l:List dT):(rowOf l).length=4*l.length:=by
 induction l with
 |nil=>rfl
 |cons a l ih=>simp[rowOf,dT.cells] at ih ⊢;omega
theorem rV:∀(l:List dT) (k j:Nat) (hk:k<l.length),j<4→(rowOf l)[4*k+j]?=l[k].cells[j]?
 |[],k,j,hk,_=>by simp at hk
 |a::l,0,j,_,hj=>by
  have:rowOf (a::l)=a.cells.toList++rowOf l:=rfl;rw[this,zV (by simp;omega)];simp
 |a::l,k+1,j,hk,hj=>by
  have e:rowOf (a::l)=a.cells.toList++rowOf l:=rfl;rw[e,List.getElem?_append_right (by simp;omega)];have:=rV l k j (by simpa using hk) hj;simp only[List.getElem_cons_succ];rw[←this]
  congr 1
  simp;omega
def BB.sure(b:BB)(all:List dT)(p:Nat):Bool:=all.all fun a=>decide (b.bad (b.bM+a.used) p≤0)
theorem PD(b:BB)(all:List dT)(p k:Nat)(hk:k<all.length):b.sure (all.drop k) p=(decide (b.bad (b.bM+all[k].used) p≤0)&&b.sure (all.drop (k+1)) p):=by
 rw[dM hk];rfl
theorem Reads.cell{w:ar}{g off n cap:Nat}{l:List dT}(hc:∀j u,(rowOf l)[j]?=some u→w.cell? ⟨g,off+j,none⟩=some u)(k:Nat)(hk:k<l.length) :
  w.cell? ⟨g,off+k*4,none⟩=some (ah ag l[k].leak)∧w.cell? ⟨g,off+k*4+1,none⟩=some (ah ag l[k].m0)∧w.cell? ⟨g,off+k*4+2,none⟩=some (ah ag l[k].m1)∧w.cell? ⟨g,off+k*4+3,none⟩=some (ah ag l[k].m2):=
 ⟨hc (k*4) _ (by have:=rV l k 0 hk (by omega);rw[qF];simpa using this),hc (k*4+1) _ (by rw[qF,rV l k 1 hk (by omega)];rfl),hc (k*4+2) _ (by rw[qF,rV l k 2 hk (by omega)];rfl),hc (k*4+3) _ (by rw[qF,rV l k 3 hk (by omega)];rfl)⟩
theorem js{w:ar}{B:Nat}{b:BB}{men sent marks all:aj}{T:aZ}(h:w.heap[B]?=some (au (b.open men sent marks all) T (0,0))) :
  w.cell? ⟨B,0,none⟩=some (ah ag b.room)∧w.cell? ⟨B,1,none⟩=some (ah ag b.depth)∧w.cell? ⟨B,2,none⟩=some (ah ag b.least)∧w.cell? ⟨B,3,none⟩=some (ah ag b.minutes)∧w.cell? ⟨B,4,none⟩=some (ah ag b.bM)∧w.cell? ⟨B,5,none⟩=some (ah ag b.fD)∧w.cell? ⟨B,6,none⟩=some (ah ag b.dc)∧
  w.cell? ⟨B,7,none⟩=some (ah ag b.fC)∧w.cell? ⟨B,8,none⟩=some (ah ag b.ll)∧w.cell? ⟨B,9,none⟩=some (ah ag b.lm)∧w.cell? ⟨B,10,none⟩=some (ah ag b.pl)∧w.cell? ⟨B,11,none⟩=some (ah ag b.pm)∧w.cell? ⟨B,12,none⟩=some men∧w.cell? ⟨B,13,none⟩=some sent∧w.cell? ⟨B,14,none⟩=some marks∧w.cell? ⟨B,15,none⟩=some all:=by
 unfold dH;simp only[h];exact⟨rfl,rfl,rfl,rfl,rfl,rfl,rfl,rfl,rfl,rfl,rfl,rfl,rfl,rfl,rfl,rfl⟩
theorem qc{w:ar}{B:Nat}{a:dT}{T:aZ}(h:w.heap[B]?=some (au a.cells T (0,0))) :
  w.cell? ⟨B,0,none⟩=some (ah ag a.leak)∧w.cell? ⟨B,1,none⟩=some (ah ag a.m0)∧w.cell? ⟨B,2,none⟩=some (ah ag a.m1)∧w.cell? ⟨B,3,none⟩=some (ah ag a.m2):=by
 unfold dH;simp only[h];exact⟨rfl,rfl,rfl,rfl⟩
theorem Dg{w wr w2 w3:ar}{X O O2:Obj}(h0:wr.heap[w.heap.size]?=some X)(hsz:w.heap.size+1<wr.heap.size)(hb2:az (wr.alloc O).heap.size (wr.alloc O) w2)(hg:(w2.alloc O2).grownBy w3 (some (w.heap.size+1))) :
  w3.heap[w.heap.size]?=some X∧w3.heap[wr.heap.size]?=some O:=by
 have hs2:=hb2.size;simp at hs2;constructor
 ·rw[hg.block _ (by simp;omega) (by simp),aS _ _ _ (by omega),hb2.block _ (by simp;omega),aS _ _ _ (by omega)];exact h0
 ·rw[hg.block _ (by simp;omega) (by simp;omega),aS _ _ _ (by omega),hb2.block _ (by simp)];exact ay wr O
end Go.Proofs.YtffladgmkiimjaaGreatDoor
namespace Go.Lag
open Go Go.RowKit
theorem lY.alloc{w:ar}{b:Nat}{key:Int→aj}{us:List Int}(h:lY w b key us)(o:Obj):lY (w.alloc o) b key us:=h.keep (by
 have:=(MapKept.heap_alloc w o).2 b;exact aS _ _ _ h.lt)
end Go.Lag
namespace Go.Proofs.YtffladgmkiimjaaGreatDoor
open Go.RowKit Go.Lag
theorem xj(b:BB)(hb:b.Ok)(men sent marks v:aj)(l:List dT)(hl:∀a∈l,a.Ok)(p:Nat)(hp:p<512)(w:ar)(hv:Reads w v l.length (rowOf l)) :
  bm aq 105 #[aO (b.open men sent marks v),ah ag p] w fun e w'=>e=aC (aF (b.sure l p))∧az w.heap.size w w':=by
 rcases hv with⟨rfl,hn,hx0⟩|⟨g,off,cap,rfl,hn,hg,hc⟩
 ·obtain rfl:l=[]:=aY hn;clear hn hx0;have hmm:=@run_makeMap aq
  go_enter Tryz.func105,Tryz.ntmps105
  go_wp2
  go_loopw [13] (fun i wr=>i=ah ag 0∧az w.heap.size w wr) (fun _ _=>0)
  case atStart=>exact⟨rfl,((aw _ _).alloc (ax _) _).alloc (by simp) _⟩
  case round=>
   obtain⟨rfl,dX⟩:=hrel;go_wp2
   go_ret
   exact⟨rfl,dX⟩
 ·have HC:=ai hc;clear hc;generalize hL:l.length=L at *;have HL:=ai hL;clear hL;have hmm:=@run_makeMap aq
  go_enter Tryz.func105,Tryz.ntmps105
  go_wp2;clear hmm
  go_loopw [7,8,13] (fun _ _ i wr=>∃(k:Nat) (us:List Int),k≤L∧i=ah ag k∧lY wr (w.heap.size+1) Au us∧(∀u∈us,b.bad (b.bM+u) p≤0)∧b.sure l p=b.sure (l.drop k) p∧az (w.heap.size+1) (w.alloc (au (b.open men sent marks (ae (some ⟨g,off,none⟩) L cap)) 122)) wr) (fun _ _ i _=>L-(intOf i).toNat)
  case atStart=>exact⟨0,[],by omega,rfl,by have:=lY.made (w.alloc (au (b.open men sent marks (ae (some ⟨g,off,none⟩) L cap)) 122)) Au;simpa using this,by simp,rfl,(aw _ _).alloc (by simp) _⟩
  case round=>
   obtain⟨k,us,hk,rfl,uv,hus,KE,dX⟩:=hrel
   by_cases hlt:k<L
   ·have ki:k<l.length:=by rw[HL.out];exact hlt
    have CW:∀o,wr.cell? ⟨g,o,none⟩=w.cell? ⟨g,o,none⟩:=fun o=>(dX.cell (p:=⟨g,o,none⟩) (by show g<_;omega)).trans (eb _ _ _ hg);obtain⟨hc0,hc1,hc2,hc3⟩:=Reads.cell (w:=wr) (cap:=cap) (n:=L) (fun j u hj=>(CW _).trans (HC.out j u hj)) k ki;clear CW;have ha:=hl l[k] (bO ki);have XX:=PD b l p k ki;rw[XX] at KE;clear XX;generalize l[k]=a at *
    have m8:wr.heap[w.heap.size]?=some (au (b.open men sent marks (ae (some ⟨g,off,none⟩) L cap)) 122 (0,0)):=by
     rw[dX.block _ (by omega)];exact ay w _
    have hsz:=dX.size;simp at hsz;have HS:=ai KE;have HU:=ai hus;clear KE hus;have hU:=JU a ha
    by_cases hm:a.used∈us
    ·have kI:=HU.out a.used hm
     go_wp2_with (first
      |(go_at_call 165;refine(hU _).mono ?_;rintro e w2 ⟨rfl,hb2⟩;have BQ:=(uv.alloc _).below hb2)
      |(at_lookup;refine mS _ rfl _ _ 177 rfl Dk (w.heap.size+1) rfl (BQ.alloc _) a.used rfl ?_))
     have hs2:=hb2.size;simp at hs2;go_roundw
     case rel=>
      exact⟨k+1,us,by omega,by go_num,BQ.alloc _,HU.out,by rw[HS.out,decide_eq_true kI];rfl,((dX.alloc (by omega) _).trans (hb2.mono (by simp;omega))).alloc (by omega) _⟩
     case measure=>simp[intOf];omega
    ·have hB:=Jp b hb men sent marks a ha p hp;obtain⟨bd,zm⟩:∃bd,b.bad (b.bM+a.used) p=bd:=⟨_,rfl⟩
     simp only[zm] at hB;have HBD:=ai zm;clear zm
     by_cases kI:bd≤0
     ·have uJ:decide (0<bd)=false:=by simp;omega
      have HB:=ai kI;clear kI
      go_wp2_with (first
       |(go_at_call 165;refine(hU _).mono ?_;rintro e w2 ⟨rfl,hb2⟩;have BQ:=(uv.alloc _).below hb2)
       |(at_lookup;refine mS _ rfl _ _ 177 rfl Dk (w.heap.size+1) rfl (BQ.alloc _) a.used rfl ?_)
       |(at_mapUpdate;refine qO _ rfl _ _ _ 177 rfl Dk (w.heap.size+1) rfl (BQ.alloc _) a.used rfl rfl hm ?_;intro w3 OV I5;obtain⟨hxx,hyy⟩:=Dg m8 uv.lt hb2 I5;have hx3:=js hxx;have ZO:=qc (a:=a) hyy;obtain⟨x0,x1,x2,x3,x4,x5,x6,x7,x8,x9,nX,nW,oU,oh,oP,x15⟩:=hx3;obtain⟨y0,y1,y2,y3⟩:=ZO)
       |(go_at_call 118;refine(hB _).mono ?_;rintro e w4 ⟨rfl,hb4⟩))
      have hlt3:=uv.lt;have hs2:=hb2.size;have hs4:=hb4.size;have hs3:=OV.lt;have hg3:=I5.size;simp at hs2 hg3;have O5:=(((dX.alloc (by omega) _).trans (hb2.mono (by simp;omega))).alloc (by omega) _).grown I5 (by simp;omega) (fun j e=>by cases e;exact ax _);have hB4:=O5.trans (hb4.mono (by omega));clear O5 I5;go_roundw
      case rel=>
       refine⟨k+1,us++[a.used],by omega,by go_num,OV.below hb4,fun u hu=>?_,?_,hB4⟩
       ·rcases List.mem_append.1 hu with h|h
        ·exact HU.out u h
        ·rw[List.mem_singleton.1 h,HBD.out];exact HB.out
       ·rw[HS.out,HBD.out,decide_eq_true HB.out];rfl
      case measure=>simp[intOf];omega
     ·have uJ:decide (0<bd)=true:=by simp;omega
      have HB:=ai kI;clear kI
      go_wp2_with (first
       |(go_at_call 165;refine(hU _).mono ?_;rintro e w2 ⟨rfl,hb2⟩;have BQ:=(uv.alloc _).below hb2)
       |(at_lookup;refine mS _ rfl _ _ 177 rfl Dk (w.heap.size+1) rfl (BQ.alloc _) a.used rfl ?_)
       |(at_mapUpdate;refine qO _ rfl _ _ _ 177 rfl Dk (w.heap.size+1) rfl (BQ.alloc _) a.used rfl rfl hm ?_;intro w3 OV I5;obtain⟨hxx,hyy⟩:=Dg m8 uv.lt hb2 I5;have hx3:=js hxx;have ZO:=qc (a:=a) hyy;obtain⟨x0,x1,x2,x3,x4,x5,x6,x7,x8,x9,nX,nW,oU,oh,oP,x15⟩:=hx3;obtain⟨y0,y1,y2,y3⟩:=ZO)
       |(go_at_call 118;refine(hB _).mono ?_;rintro e w4 ⟨rfl,hb4⟩))
      have hlt3:=uv.lt;have hs2:=hb2.size;have hs4:=hb4.size;have hs3:=OV.lt;have hg3:=I5.size;simp at hs2 hg3;have O5:=(((dX.alloc (by omega) _).trans (hb2.mono (by simp;omega))).alloc (by omega) _).grown I5 (by simp;omega) (fun j e=>by cases e;exact ax _);have hB4:=O5.trans (hb4.mono (by omega));clear O5 I5
      go_ret
      exact⟨qh (by rw[HS.out,HBD.out,decide_eq_false (by have:=HB.out;omega)];rfl),((aw _ _).alloc (ax _) _).trans (hB4.mono (by omega))⟩
   ·obtain rfl:k=L:=by omega
    have e1:b.sure l p=true:=by rw[KE,←HL.out,List.drop_length];rfl
    have HE:=ai e1;clear e1 KE;go_wp2
    go_ret
    exact⟨qh HE.out.symm,((aw _ _).alloc (ax _) _).trans (dX.mono (by omega))⟩
structure Mk where
 minute:Int
 lo:Int
 hi:Int
deriving DecidableEq
abbrev Mk.cells(m:Mk):Array Value:=#[ah ag m.minute,ah ag m.lo,ah ag m.hi]
def eu(l:List Mk):List Value:=l.flatMap fun m=>m.cells.toList
theorem rX(l:List Mk):(eu l).length=3*l.length:=by
 induction l with
 |nil=>rfl
 |cons a l ih=>simp[eu] at ih ⊢;omega
theorem vJ:∀(l:List Mk) (k j:Nat) (hk:k<l.length),j<3→(eu l)[3*k+j]?=l[k].cells[j]?
 |[],k,j,hk,_=>by simp at hk
 |a::l,0,j,_,hj=>by
  have:eu (a::l)=a.cells.toList++eu l:=rfl;rw[this,zV (by simp;omega)];simp
 |a::l,k+1,j,hk,hj=>by
  have e:eu (a::l)=a.cells.toList++eu l:=rfl;rw[e,List.getElem?_append_right (by simp;omega)];have:=vJ l k j (by simpa using hk) hj;simp only[List.getElem_cons_succ];rw[←this]
  congr 1
  simp;omega
theorem vN{w:ar}{g off:Nat}{l:List Mk}(hc:∀j u,(eu l)[j]?=some u→w.cell? ⟨g,off+j,none⟩=some u)(k:Nat)(hk:k<l.length) :
  w.cell? ⟨g,off+k*3,none⟩=some (ah ag l[k].minute)∧w.cell? ⟨g,off+k*3+1,none⟩=some (ah ag l[k].lo)∧w.cell? ⟨g,off+k*3+2,none⟩=some (ah ag l[k].hi):=
 ⟨hc (k*3) _ (by have:=vJ l k 0 hk (by omega);rw[qF];simpa using this),hc (k*3+1) _ (by rw[qF,vJ l k 1 hk (by omega)];rfl),hc (k*3+2) _ (by rw[qF,vJ l k 2 hk (by omega)];rfl)⟩
theorem IG(n m:Int):(if n<m then m else n)=max n m:=by omega
def yf(ss:List Int):Int:=ss.foldl (fun n k=>max n (k+1)) 1
def CC(n:Int)(ms:List Mk):Int:=ms.foldl (fun n m=>max n (m.minute+1)) n
def dv(ss:List Int)(ms:List Mk):Int:=CC (yf ss) ms
theorem Hh(ss:List Int)(k:Nat)(hk:k<ss.length):yf (ss.take (k+1))=max (yf (ss.take k)) (ss[k]+1):=by
 unfold yf;rw[bZ hk,Bd];rfl
theorem Hi(n:Int)(ms:List Mk)(k:Nat)(hk:k<ms.length):CC n (ms.take (k+1))=max (CC n (ms.take k)) (ms[k].minute+1):=by
 unfold CC;rw[bZ hk,Bd];rfl
theorem Ez{α:Type}(f:α→Int)(hi:Int):∀(l:List α) (n:Int),(∀a∈l,f a+1≤hi)→n≤hi→n≤l.foldl (fun n k=>max n (f k+1)) n∧l.foldl (fun n k=>max n (f k+1)) n≤hi
 |[],n,_,h=>⟨Int.le_refl _,h⟩
 |a::l,n,h,hn=>by
  have h1:=Ez f hi l (max n (f a+1)) (fun b hb=>h b (by simp[hb])) (by have:=h a (by simp);omega);simp only[List.foldl_cons];omega
theorem zP(ss:List Int)(h:∀s∈ss,s≤8):1≤yf ss∧yf ss≤9:=Ez (fun k:Int=>k) 9 ss 1 (fun a ha=>by have:=h a ha;omega) (by omega)
theorem Jo(n:Int)(hn:n≤9)(ms:List Mk)(h:∀s∈ms,s.minute≤8):n≤CC n ms∧CC n ms≤9:=Ez Mk.minute 9 ms n (fun a ha=>by have:=h a ha;omega) hn
theorem Rp(ss:List Int)(ms:List Mk)(hs:∀s∈ss,s≤8)(hm:∀s∈ms,s.minute≤8):1≤dv ss ms∧dv ss ms≤9:=by
 have h1:=zP ss hs;have h2:=Jo (yf ss) h1.2 ms hm;unfold dv;omega
theorem Ro(b:BB)(men:aj)(w:ar) :
  bm aq 155 #[aO (b.cells men (ae none 0 0) (ae none 0 0))] w fun e w'=>e=aC (ah ag (dv [] []))∧az w.heap.size w w':=by
 have HK:Hid ((w.alloc (au (b.cells men (ae none 0 0) (ae none 0 0)) 119)).heap[w.heap.size]?=some (au (b.cells men (ae none 0 0) (ae none 0 0)) 119 (0,0))):=ai (ay w _)
 go_enter Tryz.func155,Tryz.ntmps155
 go_wp2
 go_loopw [3,5,12] (fun n _ i wr=>i=ah ag 0∧n=ah ag 1∧az (w.heap.size+1) (w.alloc (au (b.cells men (ae none 0 0) (ae none 0 0)) 119)) wr) (fun _ _ _ _=>0)
 case atStart=>exact⟨rfl,rfl,aw _ _⟩
 case round=>
  obtain⟨rfl,rfl,uf⟩:=hrel;obtain⟨nb,I2⟩:∃nb:Int,yf []=nb:=⟨_,rfl⟩
  have Zh:nb=1:=I2.symm;subst Zh;have HNB:=ai I2;clear I2;have Tn:(1:Int)≤9:=by omega
  obtain⟨x0,x1,x2,x3,x4,x5,x6,x7,x8,x9,nX,nW,oU,oh,oP⟩:=bN ((uf.block w.heap.size (by omega)).trans HK.out);have hw1:=uf.size;simp at hw1;go_wp2;obtain⟨wo,OU⟩:∃wo:ar,wo=wr:=⟨_,rfl⟩
  rw[←OU] at uf ⊢;clear OU
  go_loopw [3,7,25] (fun n _ i wq=>i=ah ag 0∧n=ah ag 1∧az (w.heap.size+1) (w.alloc (au (b.cells men (ae none 0 0) (ae none 0 0)) 119)) wq) (fun _ _ _ _=>0)
  case atStart=>exact⟨rfl,rfl,uf⟩
  case round=>
   obtain⟨rfl,rfl,wa⟩:=hrel;go_wp2
   go_ret
   exact⟨gR (by rw[dv,HNB.out];rfl),((aw _ _).alloc (ax _) _).trans (wa.mono (by omega))⟩
theorem Rl(b:BB)(men:aj)(w:ar)(ss:List Int)(o6:∀s∈ss,1≤s∧s≤8)(gs os S cs:Nat)(hS:ss.length=S)(QK:S≤4294967296)(qs:gs<w.heap.size)(hcs:∀j u,(ss.map (aG ag))[j]?=some u→w.cell? ⟨gs,os+j,none⟩=some u) :
  bm aq 155 #[aO (b.cells men (ae (some ⟨gs,os,none⟩) S cs) (ae none 0 0))] w fun e w'=>e=aC (ah ag (dv ss []))∧az w.heap.size w w':=by
 have HS:=ai hS;have HCS:=ai hcs;have RI:=ai o6;clear hS hcs o6;have HK:Hid ((w.alloc (au (b.cells men (ae (some ⟨gs,os,none⟩) S cs) (ae none 0 0)) 119)).heap[w.heap.size]?=some (au (b.cells men (ae (some ⟨gs,os,none⟩) S cs) (ae none 0 0)) 119 (0,0))):=ai (ay w _)
 go_enter Tryz.func155,Tryz.ntmps155
 go_wp2
 go_loopw [3,5,12] (fun n _ i wr=>∃k:Nat,k≤S∧i=ah ag k∧n=ah ag (yf (ss.take k))∧az (w.heap.size+1) (w.alloc (au (b.cells men (ae (some ⟨gs,os,none⟩) S cs) (ae none 0 0)) 119)) wr) (fun _ _ i _=>S-(intOf i).toNat)
 case atStart=>exact⟨0,by omega,rfl,rfl,aw _ _⟩
 case round=>
  obtain⟨k,hk,rfl,rfl,uf⟩:=hrel
  by_cases hlt:k<S
  ·have ki:k<ss.length:=by rw[HS.out];exact hlt
   have hcell:wr.cell? ⟨gs,os+k,none⟩=some (ah ag ss[k]):=(uf.cell (p:=⟨gs,os+k,none⟩) (by show gs<_;omega)).trans ((eb _ _ _ qs).trans (HCS.out k _ (by simp[ki])));have hx:=RI.out ss[k] (bO ki);have hst:=Hh ss k ki;have zm:=zP (ss.take k) (fun s hs=>(RI.out s (fp hs)).2);generalize ss[k]=x at *;generalize yf (ss.take k)=n at *;have HST:=ai hst;clear hst;go_wp2;go_roundw
   case rel=>exact⟨k+1,by omega,by go_num,by rw[HST.out,IG],uf⟩
   case measure=>simp[intOf];omega
  obtain rfl:S=k:=by omega
  have zm:=zP (ss.take S) (fun s hs=>(RI.out s (fp hs)).2);have tq:ss.take S=ss:=cS (by rw[HS.out];exact ax _);rw[tq] at zm ⊢;clear tq;obtain⟨nb,I2⟩:∃nb:Int,yf ss=nb:=⟨_,rfl⟩
  rw[I2] at zm ⊢;have HNB:=ai I2;clear I2;have Tn:nb≤9:=zm.2;have afR:1≤nb:=zm.1;clear zm;obtain⟨x0,x1,x2,x3,x4,x5,x6,x7,x8,x9,nX,nW,oU,oh,oP⟩:=bN ((uf.block w.heap.size (by omega)).trans HK.out);have hw1:=uf.size;simp at hw1;go_wp2;obtain⟨wo,OU⟩:∃wo:ar,wo=wr:=⟨_,rfl⟩
  rw[←OU] at uf ⊢;clear OU
  go_loopw [3,7,25] (fun n _ i wq=>i=ah ag 0∧n=ah ag nb∧az (w.heap.size+1) (w.alloc (au (b.cells men (ae (some ⟨gs,os,none⟩) S cs) (ae none 0 0)) 119)) wq) (fun _ _ _ _=>0)
  case atStart=>exact⟨rfl,rfl,uf⟩
  case round=>
   obtain⟨rfl,rfl,wa⟩:=hrel;go_wp2
   go_ret
   exact⟨gR (by rw[dv,HNB.out];rfl),((aw _ _).alloc (ax _) _).trans (wa.mono (by omega))⟩
theorem Rm(b:BB)(men:aj)(w:ar)(ms:List Mk)(KL:∀m∈ms,1≤m.minute∧m.minute≤8)(gm om M cm:Nat)(hM:ms.length=M)(ZT:M≤4294967296)(Wo:gm<w.heap.size)(hcm:∀j u,(eu ms)[j]?=some u→w.cell? ⟨gm,om+j,none⟩=some u) :
  bm aq 155 #[aO (b.cells men (ae none 0 0) (ae (some ⟨gm,om,none⟩) M cm))] w fun e w'=>e=aC (ah ag (dv [] ms))∧az w.heap.size w w':=by
 have HM:=ai hM;have Pt:=ai hcm;have HMM:=ai KL;clear hM hcm KL;have HK:Hid ((w.alloc (au (b.cells men (ae none 0 0) (ae (some ⟨gm,om,none⟩) M cm)) 119)).heap[w.heap.size]?=some (au (b.cells men (ae none 0 0) (ae (some ⟨gm,om,none⟩) M cm)) 119 (0,0))):=ai (ay w _)
 go_enter Tryz.func155,Tryz.ntmps155
 go_wp2
 go_loopw [3,5,12] (fun n _ i wr=>i=ah ag 0∧n=ah ag 1∧az (w.heap.size+1) (w.alloc (au (b.cells men (ae none 0 0) (ae (some ⟨gm,om,none⟩) M cm)) 119)) wr) (fun _ _ _ _=>0)
 case atStart=>exact⟨rfl,rfl,aw _ _⟩
 case round=>
  obtain⟨rfl,rfl,uf⟩:=hrel;obtain⟨nb,I2⟩:∃nb:Int,yf []=nb:=⟨_,rfl⟩
  have Zh:nb=1:=I2.symm;subst Zh;have HNB:=ai I2;clear I2;have Tn:(1:Int)≤9:=by omega
  obtain⟨x0,x1,x2,x3,x4,x5,x6,x7,x8,x9,nX,nW,oU,oh,oP⟩:=bN ((uf.block w.heap.size (by omega)).trans HK.out);have hw1:=uf.size;simp at hw1;go_wp2;obtain⟨wo,OU⟩:∃wo:ar,wo=wr:=⟨_,rfl⟩
  rw[←OU] at uf ⊢;clear OU
  go_loopw [3,7,25] (fun n _ i wq=>∃k:Nat,k≤M∧i=ah ag k∧n=ah ag (CC 1 (ms.take k))∧az (w.heap.size+1) (w.alloc (au (b.cells men (ae none 0 0) (ae (some ⟨gm,om,none⟩) M cm)) 119)) wq) (fun _ _ i _=>M-(intOf i).toNat)
  case atStart=>exact⟨0,by omega,rfl,rfl,uf⟩
  case round=>
   obtain⟨k,hk,rfl,rfl,wa⟩:=hrel
   by_cases hlt:k<M
   ·have ki:k<ms.length:=by rw[HM.out];exact hlt
    have CW:∀o,wr.cell? ⟨gm,o,none⟩=w.cell? ⟨gm,o,none⟩:=fun o=>(wa.cell (p:=⟨gm,o,none⟩) (by show gm<_;omega)).trans (eb _ _ _ Wo);obtain⟨hc0,hc1,hc2⟩:=vN (w:=wr) (fun j u hj=>(CW _).trans (Pt.out j u hj)) k ki;clear CW;have hx:=HMM.out ms[k] (bO ki);have hst:=Hi 1 ms k ki;have zm:=Jo 1 Tn (ms.take k) (fun s hs=>(HMM.out s (fp hs)).2);generalize ms[k]=x at *;generalize CC 1 (ms.take k)=n at *;have HST:=ai hst;clear hst;have hw2:=wa.size;simp at hw2;go_wp2;go_roundw
    case rel=>exact⟨k+1,by omega,by go_num,by rw[HST.out,IG],wa.alloc (by omega) _⟩
    case measure=>simp[intOf];omega
   obtain rfl:M=k:=by omega
   have tq:ms.take M=ms:=cS (by rw[HM.out];exact ax _);rw[tq];clear tq;obtain⟨nc,FM⟩:∃nc:Int,CC 1 ms=nc:=⟨_,rfl⟩
   rw[FM];have HNC:=ai FM;clear FM;go_wp2
   go_ret
   exact⟨gR (by rw[dv,HNB.out,HNC.out]),((aw _ _).alloc (ax _) _).trans (wa.mono (by omega))⟩
theorem Rk(b:BB)(men:aj)(w:ar)(ss:List Int)(o6:∀s∈ss,1≤s∧s≤8)(gs os S cs:Nat)(hS:ss.length=S)(QK:S≤4294967296)(qs:gs<w.heap.size)(hcs:∀j u,(ss.map (aG ag))[j]?=some u→w.cell? ⟨gs,os+j,none⟩=some u)(ms:List Mk)(KL:∀m∈ms,1≤m.minute∧m.minute≤8)(gm om M cm:Nat)(hM:ms.length=M)(ZT:M≤4294967296)(Wo:gm<w.heap.size)(hcm:∀j u,(eu ms)[j]?=some u→w.cell? ⟨gm,om+j,none⟩=some u) :
  bm aq 155 #[aO (b.cells men (ae (some ⟨gs,os,none⟩) S cs) (ae (some ⟨gm,om,none⟩) M cm))] w fun e w'=>e=aC (ah ag (dv ss ms))∧az w.heap.size w w':=by
 have HS:=ai hS;have HCS:=ai hcs;have RI:=ai o6;clear hS hcs o6;have HM:=ai hM;have Pt:=ai hcm;have HMM:=ai KL;clear hM hcm KL;have HK:Hid ((w.alloc (au (b.cells men (ae (some ⟨gs,os,none⟩) S cs) (ae (some ⟨gm,om,none⟩) M cm)) 119)).heap[w.heap.size]?=some (au (b.cells men (ae (some ⟨gs,os,none⟩) S cs) (ae (some ⟨gm,om,none⟩) M cm)) 119 (0,0))):=ai (ay w _)
 go_enter Tryz.func155,Tryz.ntmps155
 go_wp2
 go_loopw [3,5,12] (fun n _ i wr=>∃k:Nat,k≤S∧i=ah ag k∧n=ah ag (yf (ss.take k))∧az (w.heap.size+1) (w.alloc (au (b.cells men (ae (some ⟨gs,os,none⟩) S cs) (ae (some ⟨gm,om,none⟩) M cm)) 119)) wr) (fun _ _ i _=>S-(intOf i).toNat)
 case atStart=>exact⟨0,by omega,rfl,rfl,aw _ _⟩
 case round=>
  obtain⟨k,hk,rfl,rfl,uf⟩:=hrel
  by_cases hlt:k<S
  ·have ki:k<ss.length:=by rw[HS.out];exact hlt
   have hcell:wr.cell? ⟨gs,os+k,none⟩=some (ah ag ss[k]):=(uf.cell (p:=⟨gs,os+k,none⟩) (by show gs<_;omega)).trans ((eb _ _ _ qs).trans (HCS.out k _ (by simp[ki])));have hx:=RI.out ss[k] (bO ki);have hst:=Hh ss k ki;have zm:=zP (ss.take k) (fun s hs=>(RI.out s (fp hs)).2);generalize ss[k]=x at *;generalize yf (ss.take k)=n at *;have HST:=ai hst;clear hst;go_wp2;go_roundw
   case rel=>exact⟨k+1,by omega,by go_num,by rw[HST.out,IG],uf⟩
   case measure=>simp[intOf];omega
  obtain rfl:S=k:=by omega
  have zm:=zP (ss.take S) (fun s hs=>(RI.out s (fp hs)).2);have tq:ss.take S=ss:=cS (by rw[HS.out];exact ax _);rw[tq] at zm ⊢;clear tq;obtain⟨nb,I2⟩:∃nb:Int,yf ss=nb:=⟨_,rfl⟩
  rw[I2] at zm ⊢;have HNB:=ai I2;clear I2;have Tn:nb≤9:=zm.2;have afR:1≤nb:=zm.1;clear zm;obtain⟨x0,x1,x2,x3,x4,x5,x6,x7,x8,x9,nX,nW,oU,oh,oP⟩:=bN ((uf.block w.heap.size (by omega)).trans HK.out);have hw1:=uf.size;simp at hw1;go_wp2;obtain⟨wo,OU⟩:∃wo:ar,wo=wr:=⟨_,rfl⟩
  rw[←OU] at uf ⊢;clear OU
  go_loopw [3,7,25] (fun n _ i wq=>∃k:Nat,k≤M∧i=ah ag k∧n=ah ag (CC nb (ms.take k))∧az (w.heap.size+1) (w.alloc (au (b.cells men (ae (some ⟨gs,os,none⟩) S cs) (ae (some ⟨gm,om,none⟩) M cm)) 119)) wq) (fun _ _ i _=>M-(intOf i).toNat)
  case atStart=>exact⟨0,by omega,rfl,rfl,uf⟩
  case round=>
   obtain⟨k,hk,rfl,rfl,wa⟩:=hrel
   by_cases hlt:k<M
   ·have ki:k<ms.length:=by rw[HM.out];exact hlt
    have CW:∀o,wr.cell? ⟨gm,o,none⟩=w.cell? ⟨gm,o,none⟩:=fun o=>(wa.cell (p:=⟨gm,o,none⟩) (by show gm<_;omega)).trans (eb _ _ _ Wo);obtain⟨hc0,hc1,hc2⟩:=vN (w:=wr) (fun j u hj=>(CW _).trans (Pt.out j u hj)) k ki;clear CW;have hx:=HMM.out ms[k] (bO ki);have hst:=Hi nb ms k ki;have zm:=Jo nb Tn (ms.take k) (fun s hs=>(HMM.out s (fp hs)).2);generalize ms[k]=x at *;generalize CC nb (ms.take k)=n at *;have HST:=ai hst;clear hst;have hw2:=wa.size;simp at hw2;go_wp2;go_roundw
    case rel=>exact⟨k+1,by omega,by go_num,by rw[HST.out,IG],wa.alloc (by omega) _⟩
    case measure=>simp[intOf];omega
   obtain rfl:M=k:=by omega
   have tq:ms.take M=ms:=cS (by rw[HM.out];exact ax _);rw[tq];clear tq;obtain⟨nc,FM⟩:∃nc:Int,CC nb ms=nc:=⟨_,rfl⟩
   rw[FM];have HNC:=ai FM;clear FM;go_wp2
   go_ret
   exact⟨gR (by rw[dv,HNB.out,HNC.out]),((aw _ _).alloc (ax _) _).trans (wa.mono (by omega))⟩
theorem E7(b:BB)(men sent marks:aj)(ss:List Int)(ms:List Mk)(o6:∀s∈ss,1≤s∧s≤8)(KL:∀m∈ms,1≤m.minute∧m.minute≤8)(w:ar)(hs:Reads w sent ss.length (ss.map (aG ag)))(hm:Reads w marks ms.length (eu ms)) :
  bm aq 155 #[aO (b.cells men sent marks)] w fun e w'=>e=aC (ah ag (dv ss ms))∧az w.heap.size w w':=by
 rcases hs with⟨rfl,hn,_⟩|⟨gs,os,cs,rfl,QK,qs,hcs⟩
 ·obtain rfl:=aY hn;rcases hm with⟨rfl,hn,_⟩|⟨gm,om,cm,rfl,ZT,Wo,hcm⟩
  ·obtain rfl:=aY hn;exact Ro b men w
  ·exact Rm b men w ms KL gm om _ cm rfl ZT.1 Wo hcm
 ·rcases hm with⟨rfl,hn,_⟩|⟨gm,om,cm,rfl,ZT,Wo,hcm⟩
  ·obtain rfl:=aY hn;exact Rl b men w ss o6 gs os _ cs rfl QK.1 qs hcs
  ·exact Rk b men w ss o6 gs os _ cs rfl QK.1 qs hcs ms KL gm om _ cm rfl ZT.1 Wo hcm
def bE(ss:List Int):Nat:=ss.foldl (fun p s=>p ||| 2 ^ s.toNat) 0
theorem MN(ss:List Int)(k:Nat)(hk:k<ss.length):bE (ss.take (k+1))=bE (ss.take k) ||| 2 ^ ss[k].toNat:=by
 unfold bE;rw[bZ hk,Bd];rfl
theorem DU:∀(l:List Int) (n:Nat),(∀s∈l,1≤s∧s≤8)→n<512→l.foldl (fun p s=>p ||| 2 ^ s.toNat) n<512
 |[],n,_,h=>h
 |a::l,n,h,hn=>by
  refine DU l _ (fun s hs=>h s (by simp[hs])) ?_;have ha:=h a (by simp);have:2 ^ a.toNat<2 ^ 9:=Nat.pow_lt_pow_right (by omega) (by omega);exact Nat.or_lt_two_pow (n:=9) hn this
theorem mU(ss:List Int)(h:∀s∈ss,1≤s∧s≤8):bE ss<512:=DU ss 0 h (by omega)
theorem kW(ss:List Int)(o6:∀s∈ss,1≤s∧s≤8)(v:aj)(w:ar)(hv:Reads w v ss.length (ss.map (aG ag))) :
  bm aq 106 #[v] w fun e w'=>e=aC (ah ag (bE ss))∧w=w':=by
 rcases hv with⟨rfl,hn,_⟩|⟨g,off,cap,rfl,hn,hg,hc⟩
 ·obtain rfl:=aY hn;clear hn
  go_enter Tryz.func106,Tryz.ntmps106
  go_wp2
  go_loop [3,8] (fun p i=>i=ah ag 0∧p=ah ag 0) (fun _ _=>0)
  case atStart=>exact⟨rfl,rfl⟩
  case round=>
   obtain⟨rfl,rfl⟩:=hrel;go_wp2
   go_ret
   exact⟨rfl,rfl⟩
 ·have HC:=ai hc;have RI:=ai o6;clear hc o6;generalize hL:ss.length=L at *;have HL:=ai hL;clear hL
  go_enter Tryz.func106,Tryz.ntmps106
  go_wp2
  go_loop [3,5,8] (fun p _ i=>∃k:Nat,k≤L∧i=ah ag k∧p=ah ag (bE (ss.take k))) (fun _ _ i=>L-(intOf i).toNat)
  case atStart=>exact⟨0,by omega,rfl,rfl⟩
  case round=>
   obtain⟨k,hk,rfl,rfl⟩:=hrel
   by_cases hlt:k<L
   ·have ki:k<ss.length:=by rw[HL.out];exact hlt
    have hcell:w.cell? ⟨g,off+k,none⟩=some (ah ag ss[k]):=HC.out k _ (by simp[ki]);have hx:=RI.out ss[k] (bO ki);have hst:=MN ss k ki;have zm:=mU (ss.take k) (fun s hs=>RI.out s (fp hs));obtain⟨x,hxn⟩:∃x:Nat,ss[k]=(x:Int):=⟨ss[k].toNat,by omega⟩
    rw[hxn] at hx hst hcell;clear hxn;generalize bE (ss.take k)=n at *;have HST:=ai hst;clear hst;go_wp2
    go_round
    case rel=>
     refine⟨k+1,by omega,by go_num,?_⟩;rw[HST.out];have h1:(2:Nat) ^ x<512:=Nat.pow_lt_pow_right (m:=x) (n:=9) (by omega) (by omega)
     have h2:wrap64 (2 ^ x)=((2 ^ x:Nat):Int):=by
      have e:(2:Int) ^ x=((2 ^ x:Nat):Int):=by simp
      rw[e,←IntWalk.i64_left];exact eY _ (Int.natCast_nonneg _) (Int.lt_trans (Int.ofNat_lt.2 h1) (by decide))
     rw[h2,abN n (2 ^ x) (by omega) (by omega),Int.toNat_natCast]
    case measure=>simp[intOf];omega
   ·obtain rfl:k=L:=by omega
    have tq:ss.take k=ss:=cS (by rw[HL.out];exact ax _);rw[tq];clear tq;go_wp2
    go_ret
    exact⟨rfl,rfl⟩
theorem rZ(lo hi l m:Int)(w:ar)(h1:l≤lo)(h2:lo≤hi)(h3:hi≤m):bm aq 152 #[aO #[ah ag lo,ah ag hi],ah ag l,ah ag m] w fun e w'=>e=aC (aF true)∧az w.heap.size w w':=by
 go_enter Tryz.func152,Tryz.ntmps152
 go_wp2
 go_ret
 exact⟨rfl,(aw _ _).alloc (ax _) _⟩
theorem iR(n l m:Int)(h1:l≤n)(h2:n≤m)(w:ar):bm aq 138 #[ah ag n,ah ag l,ah ag m] w fun e w'=>e=aC (aF true)∧w=w':=by
 have:=qo n l m w;rw[gb.2 ⟨h1,h2⟩] at this;exact this
theorem m6(b:BB)(men sent marks:aj)(n:Int)(h1:1≤n)(h2:n≤b.minutes)(w:ar):bm aq 132 #[aO (b.cells men sent marks),ah ag n] w fun e w'=>e=aC (aF true)∧az w.heap.size w w':=by
 go_enter Tryz.func132,Tryz.ntmps132
 go_wp2_with (go_at_call 138;refine(iR _ _ _ (by omega) (by omega) _).mono ?_;rintro e w' ⟨rfl,rfl⟩)
 go_ret
 exact⟨rfl,(aw _ _).alloc (ax _) _⟩
theorem NL(b:BB)(hb:b.Ok)(men sent marks:aj)(w:ar):bm aq 218 #[aO (b.cells men sent marks)] w fun e w'=>e=aC (ah ag 0)∧az w.heap.size w w':=by
 have h1:=hb.room;have h2:=hb.depth;have h3:=hb.least;have h4:=hb.minutes
 go_enter Tryz.func218,Tryz.ntmps218
 go_wp2_with (go_at_call 138;refine(iR _ _ _ (by omega) (by omega) _).mono ?_;rintro e w' ⟨rfl,rfl⟩)
 go_ret
 exact⟨rfl,(aw _ _).alloc (ax _) _⟩
theorem NJ(b:BB)(hb:b.Ok)(men sent marks:aj)(w:ar):bm aq 219 #[aO (b.cells men sent marks)] w fun e w'=>e=aC (ah ag 0)∧az w.heap.size w w':=by
 have h1:=hb.bM;have h2:=hb.fD;have h3:=hb.fC;have h4:=hb.dc;have h5:=hb.leak;have h6:=hb.MK;have h7:=hb.minutes;have HK:Hid ((w.alloc (au (b.cells men sent marks) 119)).heap[w.heap.size]?=some (au (b.cells men sent marks) 119 (0,0))):=ai (ay w _)
 go_enter Tryz.func219,Tryz.ntmps219
 go_wp2
 go_loopw [4,16] (fun _ i wr=>((i=ah ag 0∨i=ah ag 1)∨(i=ah ag 2∨i=ah ag 3))∧wr=(w.alloc (au (b.cells men sent marks) 119)).alloc (au #[ah ag b.bM,ah ag b.fD,ah ag b.fC] 3)) (fun _ i _=>3-(intOf i).toNat)
 case atStart=>exact⟨cF (cF rfl),rfl⟩
 case round=>
  obtain⟨hi,rfl⟩:=hrel;rcases hi with(rfl|rfl)|(rfl|rfl)
  ·go_wp2_with (go_at_call 138;refine(iR _ _ _ (by omega) (by omega) _).mono ?_;rintro e w' ⟨rfl,rfl⟩)
   go_roundw
   case rel=>exact⟨cF (.inr rfl),trivial⟩
   case measure=>simp[intOf]
  ·go_wp2_with (go_at_call 138;refine(iR _ _ _ (by omega) (by omega) _).mono ?_;rintro e w' ⟨rfl,rfl⟩)
   go_roundw
   case rel=>exact⟨.inr (cF rfl),trivial⟩
   case measure=>simp[intOf]
  ·go_wp2_with (go_at_call 138;refine(iR _ _ _ (by omega) (by omega) _).mono ?_;rintro e w' ⟨rfl,rfl⟩)
   go_roundw
   case rel=>exact⟨.inr (.inr rfl),trivial⟩
   case measure=>simp[intOf]
  ·go_wp2_with (go_at_call 138;refine(iR _ _ _ (by omega) (by omega) _).mono ?_;rintro e w' ⟨rfl,rfl⟩)
   go_at_call 152
   refine(rZ _ _ _ _ _ (by omega) (by omega) (by omega)).mono ?_;rintro e w2 ⟨rfl,hb2⟩;have hk2:w2.heap[w.heap.size]?=some (au (b.cells men sent marks) 119 (0,0)):=(hb2.block _ (by simp;omega)).trans ((aS _ _ _ (by simp)).trans HK.out);have hs2:=hb2.size;simp at hs2;obtain⟨x0,x1,x2,x3,x4,x5,x6,x7,x8,x9,nX,nW,oU,oh,oP⟩:=bN hk2
   go_wp2_with fail
   refine(rZ _ _ _ _ _ (by omega) (by omega) (by omega)).mono ?_;rintro e w3 ⟨rfl,hb3⟩;clear x0 x1 x2 x3 x4 x5 x6 x7 x8 x9 nX nW oU oh oP;obtain⟨x0,x1,x2,x3,x4,x5,x6,x7,x8,x9,nX,nW,oU,oh,oP⟩:=bN ((hb3.block _ (by omega)).trans hk2);go_wp2
   go_ret
   exact⟨rfl,((((aw _ _).alloc (ax _) _).alloc (by simp) _).trans (hb2.mono (by simp;omega))).trans (hb3.mono (by omega))⟩
structure fj(b:BB)(pl:List Int):Prop where
 mem:∀p∈pl,1≤p∧p≤b.minutes
 asc:∀(k:Nat) (h:k+1<pl.length),pl[k]<pl[k+1]
 len:(pl.length:Int)≤b.dc
theorem td(b:BB)(hb:b.Ok)(men sent marks v:aj)(pl:List Int)(hp:fj b pl)(w:ar)(hv:Reads w v pl.length (pl.map (aG ag))) :
  bm aq 113 #[aO (b.cells men sent marks),v] w fun e w'=>e=aC (ah ag 0)∧az w.heap.size w w':=by
 have hc3:=hb.dc;have Ay:=hb.minutes;have HP:=ai hp;rcases hv with⟨rfl,hn,_⟩|⟨g,off,cap,rfl,hn,hg,hc⟩
 ·obtain rfl:=aY hn;clear hn hp;have HK:Hid ((w.alloc (au (b.cells men sent marks) 119)).heap[w.heap.size]?=some (au (b.cells men sent marks) 119 (0,0))):=ai (ay w _)
  go_enter Tryz.func113,Tryz.ntmps113
  go_wp2
  go_loopw [9] (fun i wr=>i=ah ag 0∧az (w.heap.size+1) (w.alloc (au (b.cells men sent marks) 119)) wr) (fun _ _=>0)
  case atStart=>exact⟨rfl,aw _ _⟩
  case round=>
   obtain⟨rfl,dX⟩:=hrel;obtain⟨x0,x1,x2,x3,x4,x5,x6,x7,x8,x9,nX,nW,oU,oh,oP⟩:=bN ((dX.block w.heap.size (by omega)).trans HK.out);go_wp2
   go_ret
   exact⟨rfl,((aw _ _).alloc (ax _) _).trans (dX.mono (by omega))⟩
 ·have HC:=ai hc;have hlen:=hp.len;clear hc hp;generalize hL:pl.length=L at *;have HL:=ai hL;clear hL;have HK:Hid ((w.alloc (au (b.cells men sent marks) 119)).heap[w.heap.size]?=some (au (b.cells men sent marks) 119 (0,0))):=ai (ay w _)
  go_enter Tryz.func113,Tryz.ntmps113
  go_wp2
  go_loopw [5,6,9,14,19] (fun _ _ i _ _ wr=>∃k:Nat,k≤L∧i=ah ag k∧az (w.heap.size+1) (w.alloc (au (b.cells men sent marks) 119)) wr) (fun _ _ i _ _ _=>L-(intOf i).toNat)
  case atStart=>exact⟨0,by omega,rfl,aw _ _⟩
  case round=>
   obtain⟨k,hk,rfl,dX⟩:=hrel;have hsz:=dX.size;simp at hsz;have V4:w.heap.size<wr.heap.size:=by omega
   have hk2:wr.heap[w.heap.size]?=some (au (b.cells men sent marks) 119 (0,0)):=(dX.block w.heap.size (by omega)).trans HK.out;obtain⟨x0,x1,x2,x3,x4,x5,x6,x7,x8,x9,nX,nW,oU,oh,oP⟩:=bN hk2
   by_cases hlt:k<L
   ·have ki:k<pl.length:=by rw[HL.out];exact hlt
    have CW:∀o,wr.cell? ⟨g,o,none⟩=w.cell? ⟨g,o,none⟩:=fun o=>(dX.cell (p:=⟨g,o,none⟩) (by show g<_;omega)).trans (eb _ _ _ hg);have hcell:wr.cell? ⟨g,off+k,none⟩=some (ah ag pl[k]):=(CW _).trans (HC.out k _ (by simp[ki]));have hx:=HP.out.mem pl[k] (bO ki)
    by_cases h0:k=0
    ·have uJ:decide ((0:Int)<(k:Int))=false:=decide_eq_false (by omega);have alz:decide (0<k)=false:=decide_eq_false (by omega);have H0:=ai h0;clear h0;clear CW;generalize pl[k]=x at *;have Ga:=ai hk2;clear hk2
     go_wp2_with fail
     refine(m6 b men sent marks x hx.1 hx.2 _).mono ?_;rintro e w2 ⟨rfl,hb2⟩;go_wp2;go_roundw
     case rel=>exact⟨k+1,by omega,by go_num,dX.trans (hb2.mono (by omega))⟩
     case measure=>simp[intOf];omega
    ·obtain⟨j,rfl⟩:∃j,k=j+1:=⟨k-1,by omega⟩
     have hcj:wr.cell? ⟨g,off+j,none⟩=some (ah ag pl[j]):=(CW _).trans (HC.out j _ (by simp[show j<pl.length by omega]));have has:=HP.out.asc j ki;have HGW:=ai CW;clear CW;generalize pl[j+1]=x at *;generalize pl[j]=y at *;have Ga:=ai hk2;clear hk2;have uJ:decide ((0:Int)<((j+1:Nat):Int))=true:=decide_eq_true (by omega);have hjj:IntKind.i64.wrap (((j+1:Nat):Int)-1)=(j:Int):=by rw[show((j+1:Nat):Int)-1=(j:Int) by omega];exact eY _ (by omega) (by omega)
     go_wp2_with fail
     refine(m6 b men sent marks x hx.1 hx.2 _).mono ?_;rintro e w2 ⟨rfl,hb2⟩;have hc2:w2.cell? ⟨g,off+j,none⟩=some (ah ag y):=(hb2.cell (p:=⟨g,off+j,none⟩) (by show g<_;omega)).trans hcj;go_wp2;go_roundw
     case rel=>exact⟨j+1+1,by omega,by go_num,dX.trans (hb2.mono (by omega))⟩
     case measure=>simp[intOf];omega
   ·obtain rfl:L=k:=by omega
    go_wp2
    go_ret
    exact⟨rfl,((aw _ _).alloc (ax _) _).trans (dX.mono (by omega))⟩
theorem NK(b:BB)(hb:b.Ok)(men sent marks:aj)(pl:List Int)(hp:fj b pl)(w:ar)(hv:Reads w sent pl.length (pl.map (aG ag))) :
  bm aq 221 #[aO (b.cells men sent marks)] w fun e w'=>e=aC (ah ag 0)∧az w.heap.size w w':=by
 have hv1:Reads (w.alloc (au (b.cells men sent marks) 119)) sent pl.length (pl.map (aG ag)):=hv.below ((aw _ _).alloc (ax _) _);have hP:=td b hb men sent marks sent pl hp _ hv1;clear hv hv1
 go_enter Tryz.func221,Tryz.ntmps221
 go_wp2_with (go_at_call 113;refine hP.mono ?_;rintro e w2 ⟨rfl,hb2⟩)
 go_ret
 exact⟨rfl,((aw _ _).alloc (ax _) _).trans (hb2.mono (by simp))⟩
structure lH(b:BB)(ms:List Mk):Prop where
 mem:∀m∈ms,1≤m.minute∧m.minute≤b.minutes∧0≤m.lo∧m.lo≤m.hi∧m.hi≤99
 len:ms.length≤3
theorem Lu(b:BB)(hb:b.Ok)(men sent marks:aj)(ms:List Mk)(hm:lH b ms)(w:ar)(hv:Reads w marks ms.length (eu ms)) :
  bm aq 222 #[aO (b.cells men sent marks)] w fun e w'=>e=aC (ah ag 0)∧az w.heap.size w w':=by
 have Ay:=hb.minutes;have HM:=ai hm;have h3:=hm.len;rcases hv with⟨rfl,hn,_⟩|⟨g,off,cap,rfl,hn,hg,hc⟩
 ·obtain rfl:=aY hn;clear hn hm h3;have HK:Hid ((w.alloc (au (b.cells men sent (ae none 0 0)) 119)).heap[w.heap.size]?=some (au (b.cells men sent (ae none 0 0)) 119 (0,0))):=ai (ay w _)
  go_enter Tryz.func222,Tryz.ntmps222
  go_wp2
  go_loopw [14] (fun i wr=>i=ah ag 0∧az (w.heap.size+1) (w.alloc (au (b.cells men sent (ae none 0 0)) 119)) wr) (fun _ _=>0)
  case atStart=>exact⟨rfl,aw _ _⟩
  case round=>
   obtain⟨rfl,dX⟩:=hrel;go_wp2
   go_ret
   exact⟨rfl,((aw _ _).alloc (ax _) _).trans (dX.mono (by omega))⟩
 ·have HC:=ai hc;clear hc hm;generalize hL:ms.length=L at *;have HL:=ai hL;clear hL;have HK:Hid ((w.alloc (au (b.cells men sent (ae (some ⟨g,off,none⟩) L cap)) 119)).heap[w.heap.size]?=some (au (b.cells men sent (ae (some ⟨g,off,none⟩) L cap)) 119 (0,0))):=ai (ay w _)
  go_enter Tryz.func222,Tryz.ntmps222
  go_wp2
  go_loopw [4,14,18,24] (fun _ i _ _ wr=>∃k:Nat,k≤L∧i=ah ag k∧az (w.heap.size+1) (w.alloc (au (b.cells men sent (ae (some ⟨g,off,none⟩) L cap)) 119)) wr) (fun _ i _ _ _=>L-(intOf i).toNat)
  case atStart=>exact⟨0,by omega,rfl,aw _ _⟩
  case round=>
   obtain⟨k,hk,rfl,dX⟩:=hrel;have hsz:=dX.size;simp at hsz;have V4:w.heap.size<wr.heap.size:=by omega
   have hk2:wr.heap[w.heap.size]?=some (au (b.cells men sent (ae (some ⟨g,off,none⟩) L cap)) 119 (0,0)):=(dX.block w.heap.size (by omega)).trans HK.out;obtain⟨x0,x1,x2,x3,x4,x5,x6,x7,x8,x9,nX,nW,oU,oh,oP⟩:=bN hk2
   by_cases hlt:k<L
   ·have ki:k<ms.length:=by rw[HL.out];exact hlt
    have CW:∀o,wr.cell? ⟨g,o,none⟩=w.cell? ⟨g,o,none⟩:=fun o=>(dX.cell (p:=⟨g,o,none⟩) (by show g<_;omega)).trans (eb _ _ _ hg);obtain⟨y0,y1,y2⟩:=vN (w:=wr) (fun j u hj=>(CW _).trans (HC.out j u hj)) k ki;have hx:=HM.out.mem ms[k] (bO ki);clear CW;generalize ms[k]=x at *;have Ga:=ai hk2;clear hk2
    go_wp2_with fail
    refine(m6 b men sent _ x.minute (by omega) (by omega) _).mono ?_;rintro e w2 ⟨rfl,hb2⟩;have Te:w2.heap[wr.heap.size]?=some (au x.cells 81 (0,0)):=(hb2.block _ (by simp)).trans (ay wr _);have z0:w2.cell? ⟨wr.heap.size,0,none⟩=some (ah ag x.minute):=by unfold dH;rw[Te];rfl
    have z1:w2.cell? ⟨wr.heap.size,1,none⟩=some (ah ag x.lo):=by unfold dH;rw[Te];rfl
    have z2:w2.cell? ⟨wr.heap.size,2,none⟩=some (ah ag x.hi):=by unfold dH;rw[Te];rfl
    clear Te;have hs2:=hb2.size;simp at hs2
    go_wp2_with (go_at_call 152;refine(rZ _ _ _ _ _ (by omega) (by omega) (by omega)).mono ?_;rintro e w3 ⟨rfl,hb3⟩)
    go_roundw
    case rel=>exact⟨k+1,by omega,by go_num,((dX.alloc (by omega) _).trans (hb2.mono (by simp;omega))).trans (hb3.mono (by omega))⟩
    case measure=>simp[intOf];omega
   ·obtain rfl:L=k:=by omega
    go_wp2
    go_ret
    exact⟨rfl,((aw _ _).alloc (ax _) _).trans (dX.mono (by omega))⟩
structure Jy(s:ByteArray):Prop where
 size:1≤s.size∧s.size≤12
 chr:∀(k:Nat) (h:k<s.size),(97≤s[k].toNat∧s[k].toNat≤122)∨(k≠0∧48≤s[k].toNat∧s[k].toNat≤57)
theorem Jm(s:ByteArray)(cap k:Nat)(h:k<s.size):(bytesRow s cap)[k]?=some (ah .u8 (s[k].toNat:Int)):=by
 unfold bytesRow;have hd:k<s.data.size:=h;rw[Array.getElem?_append_left (by simpa using hd),Array.getElem?_map,Array.getElem?_eq_getElem hd];rfl
theorem S5(s:ByteArray)(hs:Jy s)(w:ar):bm aq 223 #[.string s] w fun e w'=>e=aC (aF true)∧az w.heap.size w w':=by
 have XY:=run_bytes_of_string (P:=aq) w 9 234 5 s Tryz.underlying9 Tryz.underlying234 Tryz.underlying5;have h1:=hs.size;have HS:=ai hs;generalize grownCap w s.size 0 5=cap at *;have hC:=Jm s cap;generalize bytesRow s cap=C at *;obtain⟨n,hn⟩:∃n,s.size=n:=⟨_,rfl⟩
 rw[hn] at XY h1;have HN:=ai hn;have HC:=ai hC;clear hn hC hs;have hB1:az w.heap.size w (w.drew.alloc (au C 5 (C.size,C.size+1))):=(aw _ _).drew.alloc (by simp) _
 go_enter Tryz.func223,Tryz.ntmps223
 go_wp2;clear XY
 go_loopw [3,4,8] (fun _ _ i wr=>∃k:Nat,k≤n∧i=ah ag k∧wr=(w.alloc (au C 5 (C.size,C.size+1))).drew) (fun _ _ i _=>n-(intOf i).toNat)
 case atStart=>exact⟨0,by omega,rfl,rfl⟩
 case round=>
  obtain⟨k,hk,rfl,rfl⟩:=hrel
  by_cases hlt:k<n
  ·have ki:k<s.size:=by rw[HN.out];exact hlt
   have hck:=HC.out k ki
   have hcell:(w.alloc (au C 5 (C.size,C.size+1))).cell? ⟨w.heap.size,k,none⟩=some (ah .u8 (s[k].toNat:Int)):=by
    unfold dH;rw[ay];exact hck
   have hch:=HS.out.chr k ki;have alo:s[k].toNat<256:=s[k].toNat_lt;generalize s[k].toNat=c at *;clear hck;have hI:=qo (c:Int) 97 122;have hD:=qo (c:Int) 48 57;have hcv:IntKind.i64.wrap (c:Int)=c:=eY _ (by omega) (by omega);rcases hch with hch|⟨hk0,hch⟩
   ·have e1:aQ (c:Int) 97 122=true:=gb.2 ⟨by omega,by omega⟩;rw[e1] at hI;clear hD e1;have HCH:=ai hch;clear hch
    go_wp2_with (go_at_call 138;refine(hI _).mono ?_;rintro e w' ⟨rfl,rfl⟩)
    go_roundw
    case rel=>exact⟨k+1,by omega,by go_num,trivial⟩
    case measure=>simp[intOf];omega
   ·have e1:aQ (c:Int) 97 122=false:=by unfold aQ;rw[decide_eq_false (by omega)];rfl
    have e2:aQ (c:Int) 48 57=true:=gb.2 ⟨by omega,by omega⟩;rw[e1] at hI;rw[e2] at hD;have e3:((k:Int)==0)=false:=by simp;omega
    have e4:(k==0)=false:=by simp;omega
    clear e1 e2;have HCH:=ai hch;have HK0:=ai hk0;clear hch hk0
    go_wp2_with fail
    refine(hI _).mono ?_;rintro e w' ⟨rfl,rfl⟩
    go_wp2_with fail
    refine(hD _).mono ?_;rintro e w' ⟨rfl,rfl⟩;go_wp2;go_roundw
    case rel=>exact⟨k+1,by omega,by go_num,trivial⟩
    case measure=>simp[intOf];omega
  ·obtain rfl:n=k:=by omega
   have hs1:=HS.out.size
   go_wp2_with (go_at_call 138;refine(iR _ _ _ (by omega) (by omega) _).mono ?_;rintro e w' ⟨rfl,rfl⟩)
   go_ret
   exact⟨rfl,((aw _ _).alloc (ax _) _).drew⟩
structure Mn where
 name:ByteArray
 lo:Int
 hi:Int
abbrev Mn.cells(m:Mn):Array Value:=#[.string m.name,ah ag m.lo,ah ag m.hi]
def dS(l:List Mn):List Value:=l.flatMap fun m=>m.cells.toList
theorem rW(l:List Mn):(dS l).length=3*l.length:=by
 induction l with
 |nil=>rfl
 |cons a l ih=>simp[dS] at ih ⊢;omega
theorem pP:∀(l:List Mn) (k j:Nat) (hk:k<l.length),j<3→(dS l)[3*k+j]?=l[k].cells[j]?
 |[],k,j,hk,_=>by simp at hk
 |a::l,0,j,_,hj=>by
  have:dS (a::l)=a.cells.toList++dS l:=rfl;rw[this,zV (by simp;omega)];simp
 |a::l,k+1,j,hk,hj=>by
  have e:dS (a::l)=a.cells.toList++dS l:=rfl;rw[e,List.getElem?_append_right (by simp;omega)];have:=pP l k j (by simpa using hk) hj;simp only[List.getElem_cons_succ];rw[←this]
  congr 1
  simp;omega
theorem CV{w:ar}{g off:Nat}{l:List Mn}(hc:∀j u,(dS l)[j]?=some u→w.cell? ⟨g,off+j,none⟩=some u)(k:Nat)(hk:k<l.length) :
  w.cell? ⟨g,off+k*3,none⟩=some (.string l[k].name)∧w.cell? ⟨g,off+k*3+1,none⟩=some (ah ag l[k].lo)∧w.cell? ⟨g,off+k*3+2,none⟩=some (ah ag l[k].hi):=
 ⟨hc (k*3) _ (by have:=pP l k 0 hk (by omega);rw[qF];simpa using this),hc (k*3+1) _ (by rw[qF,pP l k 1 hk (by omega)];rfl),hc (k*3+2) _ (by rw[qF,pP l k 2 hk (by omega)];rfl)⟩
structure mR(l:List Mn):Prop where
 mem:∀m∈l,Jy m.name∧1≤m.lo∧m.lo≤m.hi∧m.hi≤99∧m.hi-m.lo<3
 apart:∀(i k:Nat) (hi:i<l.length) (hk:k<l.length),i<k→l[i].name≠l[k].name
 len:l.length≤3
theorem LK{a b:ByteArray}(h:a≠b):¬a.toList=b.toList:=by
 intro e;rw[ByteArray.toList_eq,ByteArray.toList_eq] at e;obtain⟨⟨x⟩⟩:=a;obtain⟨⟨y⟩⟩:=b;have:x=y:=e;subst this;exact h rfl
theorem Ic(m:Mn)(o:ByteArray)(hne:m.name≠o)(B:Nat)(w:ar)(hB:w.cell? ⟨B,0,none⟩=some (.string o))(hBl:B<w.heap.size):bm aq 225 #[aO m.cells,bp (some ⟨B,0,none⟩)] w fun e w'=>e=aC (aF false)∧az w.heap.size w w':=by
 have H:=ai (LK hne);clear hne
 go_enter Tryz.func225,Tryz.ntmps225
 go_wp2
 go_ret
 exact⟨qh (by simpa using H.out),(aw _ _).alloc (ax _) _⟩
theorem KD(l:List Mn)(o:ByteArray)(hne:∀m∈l,m.name≠o)(g off L cap B:Nat)(w:ar)(hL:l.length=L)(hL2:L≤4294967296)(hg:g<w.heap.size)(hc:∀j u,(dS l)[j]?=some u→w.cell? ⟨g,off+j,none⟩=some u)
  (hB:w.cell? ⟨B,0,none⟩=some (.string o)) (hBl:B<w.heap.size) :
  bm aq 226 #[ae (some ⟨g,off,none⟩) L cap,.func (.func 225) #[] #[bp (some ⟨B,0,none⟩)]] w fun e w'=>e=aC (ah ag (-1))∧az w.heap.size w w':=by
 have HC:=ai hc;have HN:=ai hne;have HL:=ai hL;have HB:=ai hB;clear hc hne hL hB
 go_enter Tryz.func226,Tryz.ntmps226
 go_wp2
 go_loopw [5,8] (fun _ i wr=>∃k:Nat,k≤L∧i=ah ag k∧az w.heap.size w wr) (fun _ i _=>L-(intOf i).toNat)
 case atStart=>exact⟨0,by omega,rfl,aw _ _⟩
 case round=>
  obtain⟨k,hk,rfl,dX⟩:=hrel
  by_cases hlt:k<L
  ·have ki:k<l.length:=by rw[HL.out];exact hlt
   have CW:∀o,wr.cell? ⟨g,o,none⟩=w.cell? ⟨g,o,none⟩:=fun o=>dX.cell (p:=⟨g,o,none⟩) hg;obtain⟨y0,y1,y2⟩:=CV (w:=wr) (fun j u hj=>(CW _).trans (HC.out j u hj)) k ki;have hS:=Ic l[k] o (HN.out _ (bO ki)) B wr ((dX.cell (p:=⟨B,0,none⟩) hBl).trans HB.out) (bB hBl dX.size);clear CW;have hsz:=dX.size;generalize l[k]=x at *
   go_wp2_with (go_at_call 225;refine hS.mono ?_;rintro e w2 ⟨rfl,hb2⟩)
   go_roundw
   case rel=>exact⟨k+1,by omega,by go_num,dX.trans (hb2.mono hsz)⟩
   case measure=>simp[intOf];omega
  ·obtain rfl:L=k:=by omega
   go_wp2
   go_ret
   exact⟨rfl,dX⟩
theorem EK(l:List Mn)(o:ByteArray)(hne:∀m∈l,m.name≠o)(g off L cap B:Nat)(w:ar)(hL:l.length=L)(hL2:L≤4294967296)(hg:g<w.heap.size)(hc:∀j u,(dS l)[j]?=some u→w.cell? ⟨g,off+j,none⟩=some u)
  (hB:w.cell? ⟨B,0,none⟩=some (.string o)) (hBl:B<w.heap.size) :
  bm aq 224 #[ae (some ⟨g,off,none⟩) L cap,.func (.func 225) #[] #[bp (some ⟨B,0,none⟩)]] w fun e w'=>e=aC (aF false)∧az w.heap.size w w':=by
 have hI:=KD l o hne g off L cap B w hL hL2 hg hc hB hBl;clear hne hL hc hB
 go_enter Tryz.func224,Tryz.ntmps224
 go_wp2_with (go_at_call 226;refine hI.mono ?_;rintro e w2 ⟨rfl,hb2⟩)
 go_ret
 exact⟨rfl,hb2⟩
theorem Rb(b:BB)(men sent marks:aj)(l:List Mn)(hl:mR l)(w:ar)(hv:Reads w men l.length (dS l)) :
  bm aq 220 #[aO (b.cells men sent marks)] w fun e w'=>e=aC (ah ag 0)∧az w.heap.size w w':=by
 have HM:=ai hl;have h3:=hl.len;rcases hv with⟨rfl,hn,_⟩|⟨g,off,cap,rfl,hn,hg,hc⟩
 ·obtain rfl:=aY hn;clear hn hl h3
  go_enter Tryz.func220,Tryz.ntmps220
  go_wp2
  go_loopw [14] (fun i wr=>i=ah ag 0∧az (w.heap.size+1) (w.alloc (au (b.cells (ae none 0 0) sent marks) 119)) wr) (fun _ _=>0)
  case atStart=>exact⟨rfl,aw _ _⟩
  case round=>
   obtain⟨rfl,dX⟩:=hrel;go_wp2
   go_ret
   exact⟨rfl,((aw _ _).alloc (ax _) _).trans (dX.mono (by omega))⟩
 ·have HC:=ai hc;clear hc hl;generalize hL:l.length=L at *;have HL:=ai hL;clear hL;have HK:Hid ((w.alloc (au (b.cells (ae (some ⟨g,off,none⟩) L cap) sent marks) 119)).heap[w.heap.size]?=some (au (b.cells (ae (some ⟨g,off,none⟩) L cap) sent marks) 119 (0,0))):=ai (ay w _)
  go_enter Tryz.func220,Tryz.ntmps220
  go_wp2
  go_loopw [3,4,14,19,24,32] (fun _ _ i _ _ _ wr=>∃k:Nat,k≤L∧i=ah ag k∧az (w.heap.size+1) (w.alloc (au (b.cells (ae (some ⟨g,off,none⟩) L cap) sent marks) 119)) wr) (fun _ _ i _ _ _ _=>L-(intOf i).toNat)
  case atStart=>exact⟨0,by omega,rfl,aw _ _⟩
  case round=>
   obtain⟨k,hk,rfl,dX⟩:=hrel;have hsz:=dX.size;simp at hsz;have V4:w.heap.size<wr.heap.size:=by omega
   by_cases hlt:k<L
   ·have ki:k<l.length:=by rw[HL.out];exact hlt
    have CW:∀o,wr.cell? ⟨g,o,none⟩=w.cell? ⟨g,o,none⟩:=fun o=>(dX.cell (p:=⟨g,o,none⟩) (by show g<_;omega)).trans (eb _ _ _ hg);obtain⟨y0,y1,y2⟩:=CV (w:=wr) (fun j u hj=>(CW _).trans (HC.out j u hj)) k ki;obtain⟨QB,hx⟩:=HM.out.mem l[k] (bO ki)
    have hne:∀m∈l.take k,m.name≠l[k].name:=by
     intro m hm;obtain⟨i,hi,rfl⟩:=List.mem_iff_getElem.1 hm;have hik:i<k:=by simp at hi;omega
     rw[List.getElem_take];exact HM.out.apart i k (by omega) ki hik
    have hrow:∀(j:Nat) (u:aj),(dS (l.take k))[j]?=some u→(dS l)[j]?=some u:=by
     intro j u hj
     have e:dS l=dS (l.take k)++dS (l.drop k):=by
      unfold dS;rw[←List.flatMap_append,List.take_append_drop]
     rw[e,zV (List.getElem?_eq_some_iff.1 hj).1];exact hj
    have HGW:=ai CW;have HNE:=ai hne;have ahB:=ai hrow;have hlk:(l.take k).length=k:=by simp;omega
    have HLK:=ai hlk;have agB:=S5 l[k].name QB;clear CW hne hrow hlk QB;generalize l.take k=lk at *;generalize l[k]=x at *;have sS:wr.heap[w.heap.size]?=some (au (b.cells (ae (some ⟨g,off,none⟩) L cap) sent marks) 119 (0,0)):=(dX.block w.heap.size (by omega)).trans HK.out;have HKK:=ai sS;clear sS
    go_wp2_with fail
    refine(agB _).mono ?_;rintro e w2 ⟨rfl,hb2⟩;have Te:w2.heap[wr.heap.size]?=some (au x.cells 79 (0,0)):=(hb2.block _ (by simp)).trans (ay wr _);have z0:w2.cell? ⟨wr.heap.size,0,none⟩=some (.string x.name):=by unfold dH;rw[Te];rfl
    have hs2:=hb2.size;simp at hs2;have ac6:w2.heap[w.heap.size]?=some (au (b.cells (ae (some ⟨g,off,none⟩) L cap) sent marks) 119 (0,0)):=(hb2.block _ (by simp;omega)).trans ((aS _ _ _ V4).trans HKK.out);have acW:∀o,w2.cell? ⟨g,o,none⟩=w.cell? ⟨g,o,none⟩:=fun o=>((hb2.cell (p:=⟨g,o,none⟩) (by show g<_;simp;omega)).trans (eb _ _ _ (by show g<_;omega))).trans (HGW.out o);have ZV:=EK lk x.name HNE.out g off k cap wr.heap.size w2 HLK.out (by omega) (by omega) (fun j u hj=>(acW _).trans (HC.out j u (ahB.out j u hj))) z0 (by omega);obtain⟨x0,x1,x2,x3,x4,x5,x6,x7,x8,x9,nX,nW,oU,oh,oP⟩:=bN ac6;have HXK:=ai Te;clear Te acW ac6
    go_wp2_with fail
    refine ZV.mono ?_;rintro e w3 ⟨rfl,hb3⟩;have VZ:w3.heap[wr.heap.size]?=some (au x.cells 79 (0,0)):=(hb3.block _ (by omega)).trans HXK.out;have u1:w3.cell? ⟨wr.heap.size,1,none⟩=some (ah ag x.lo):=by unfold dH;rw[VZ];rfl
    have u2:w3.cell? ⟨wr.heap.size,2,none⟩=some (ah ag x.hi):=by unfold dH;rw[VZ];rfl
    have amv:=ai VZ;have hs3:=hb3.size;clear VZ x0 x1 x2 x3 x4 x5 x6 x7 x8 x9 nX nW oU oh oP z0
    go_wp2_with fail
    refine(rZ _ _ _ _ _ (by omega) (by omega) (by omega)).mono ?_;rintro e w4 ⟨rfl,hb4⟩;have v1:w4.cell? ⟨wr.heap.size,1,none⟩=some (ah ag x.lo):=(hb4.cell (p:=⟨wr.heap.size,1,none⟩) (by show wr.heap.size<_;omega)).trans u1;have v2:w4.cell? ⟨wr.heap.size,2,none⟩=some (ah ag x.hi):=(hb4.cell (p:=⟨wr.heap.size,2,none⟩) (by show wr.heap.size<_;omega)).trans u2;go_wp2;go_roundw
    case rel=>exact⟨k+1,by omega,by go_num,(((dX.alloc (by omega) _).trans (hb2.mono (by simp;omega))).trans (hb3.mono (by omega))).trans (hb4.mono (by omega))⟩
    case measure=>simp[intOf];omega
   ·obtain rfl:L=k:=by omega
    go_wp2
    go_ret
    exact⟨rfl,((aw _ _).alloc (ax _) _).trans (dX.mono (by omega))⟩
section
variable(P:Program)(w:ar)(a:Addr)(m:Mode)
@[go_sem] theorem Sc (f:Fn) (c d:Array aj):(store a (.func f c d) m).run P w=stored P w a (.func f c d) m:=run_store P w a _ m rfl
end
structure Laid(w:ar):Prop where
 c0:w.cell? ⟨0,0,none⟩=some (.func (.func 218) #[] #[])
 c1:w.cell? ⟨0,1,none⟩=some (.func (.func 219) #[] #[])
 c2:w.cell? ⟨0,2,none⟩=some (.func (.func 220) #[] #[])
 c3:w.cell? ⟨0,3,none⟩=some (.func (.func 221) #[] #[])
 c4:w.cell? ⟨0,4,none⟩=some (.func (.func 222) #[] #[])
 lt:0<w.heap.size
theorem Laid.below{w w':ar}(h:Laid w)(hb:az w.heap.size w w'):Laid w':=
 ⟨(hb.cell (p:=⟨0,0,none⟩) h.lt).trans h.c0,(hb.cell (p:=⟨0,1,none⟩) h.lt).trans h.c1,(hb.cell (p:=⟨0,2,none⟩) h.lt).trans h.c2,(hb.cell (p:=⟨0,3,none⟩) h.lt).trans h.c3,(hb.cell (p:=⟨0,4,none⟩) h.lt).trans h.c4,bB h.lt hb.size⟩
structure cI(b:BB)(men sent marks:aj)(ml:List Mn)(ss:List Int)(ms:List Mk)(w:ar):Prop where
 ok:b.Ok
 gX:mR ml
 l9:fj b ss
 kE:lH b ms
 rm:Reads w men ml.length (dS ml)
 rs:Reads w sent ss.length (ss.map (aG ag))
 rk:Reads w marks ms.length (eu ms)
theorem cI.below{b:BB}{men sent marks:aj}{ml:List Mn}{ss:List Int}{ms:List Mk}{w w':ar}(h:cI b men sent marks ml ss ms w)(hb:az w.heap.size w w'):cI b men sent marks ml ss ms w':=
 ⟨h.ok,h.gX,h.l9,h.kE,h.rm.below hb,h.rs.below hb,h.rk.below hb⟩
theorem eZ(b:BB)(men sent marks:aj)(ml:List Mn)(ss:List Int)(ms:List Mk)(w:ar)(hL:Laid w)(hB:cI b men sent marks ml ss ms w) :
  bm aq 71 #[aO (b.cells men sent marks)] w fun e w'=>e=aC (ah ag 0)∧az w.heap.size w w':=by
 obtain⟨l0,l1,l2,l3,l4,llt⟩:=hL;have i0:∀w,(mH 163 (aO #[.func (.func 218) #[] #[],.func (.func 219) #[] #[],.func (.func 220) #[] #[],.func (.func 221) #[] #[],.func (.func 222) #[] #[]]) (ah ag 0)).run aq w=.ok (aO #[.func (.func 218) #[] #[]]) w:=fun _=>by kernel_rfl
 have i1:∀w,(mH 163 (aO #[.func (.func 218) #[] #[],.func (.func 219) #[] #[],.func (.func 220) #[] #[],.func (.func 221) #[] #[],.func (.func 222) #[] #[]]) (ah ag 1)).run aq w=.ok (aO #[.func (.func 219) #[] #[]]) w:=fun _=>by kernel_rfl
 have i2:∀w,(mH 163 (aO #[.func (.func 218) #[] #[],.func (.func 219) #[] #[],.func (.func 220) #[] #[],.func (.func 221) #[] #[],.func (.func 222) #[] #[]]) (ah ag 2)).run aq w=.ok (aO #[.func (.func 220) #[] #[]]) w:=fun _=>by kernel_rfl
 have i3:∀w,(mH 163 (aO #[.func (.func 218) #[] #[],.func (.func 219) #[] #[],.func (.func 220) #[] #[],.func (.func 221) #[] #[],.func (.func 222) #[] #[]]) (ah ag 3)).run aq w=.ok (aO #[.func (.func 221) #[] #[]]) w:=fun _=>by kernel_rfl
 have i4:∀w,(mH 163 (aO #[.func (.func 218) #[] #[],.func (.func 219) #[] #[],.func (.func 220) #[] #[],.func (.func 221) #[] #[],.func (.func 222) #[] #[]]) (ah ag 4)).run aq w=.ok (aO #[.func (.func 222) #[] #[]]) w:=fun _=>by kernel_rfl
 have HK:Hid ((w.alloc (au (b.cells men sent marks) 28)).heap[w.heap.size]?=some (au (b.cells men sent marks) 28 (0,0))):=ai (ay w _)
 go_enter Tryz.func71,Tryz.ntmps71
 go_wp2
 go_loopw [4,5,7] (fun _ _ i wr=>((i=ah ag 0∨i=ah ag 1)∨(i=ah ag 2∨i=ah ag 3)∨(i=ah ag 4∨i=ah ag 5))∧az (w.heap.size+1) (w.alloc (au (b.cells men sent marks) 28)) wr) (fun _ _ i _=>5-(intOf i).toNat)
 case atStart=>exact⟨cF (cF rfl),aw _ _⟩
 case round=>
  obtain⟨hi,dX⟩:=hrel;have hsz:=dX.size;simp at hsz;have V4:w.heap.size<wr.heap.size:=by omega
  have uz:az w.heap.size w wr:=((aw _ _).alloc (ax _) _).trans (dX.mono (by omega));have hB2:=hB.below uz;obtain⟨x0,x1,x2,x3,x4,x5,x6,x7,x8,x9,nX,nW,oU,oh,oP⟩:=bN ((dX.block w.heap.size (by omega)).trans HK.out);clear uz l0 l1 l2 l3 l4;rcases hi with(rfl|rfl)|(rfl|rfl)|(rfl|rfl)
  ·go_wp2_with (go_at_call 218;refine(NL b hB2.ok men sent marks _).mono ?_;rintro e w2 ⟨rfl,hb2⟩)
   have hs2:=hb2.size;simp at hs2;go_roundw
   case rel=>exact⟨cF (.inr rfl),(dX.alloc (by omega) _).trans (hb2.mono (by simp;omega))⟩
   case measure=>simp[intOf]
  ·go_wp2_with (go_at_call 219;refine(NJ b hB2.ok men sent marks _).mono ?_;rintro e w2 ⟨rfl,hb2⟩)
   have hs2:=hb2.size;simp at hs2;go_roundw
   case rel=>exact⟨.inr (cF (cF rfl)),(dX.alloc (by omega) _).trans (hb2.mono (by simp;omega))⟩
   case measure=>simp[intOf]
  ·go_wp2_with (go_at_call 220;refine(Rb b men sent marks ml hB2.gX _ (hB2.rm.below ((aw _ _).alloc (ax _) _))).mono ?_;rintro e w2 ⟨rfl,hb2⟩)
   have hs2:=hb2.size;simp at hs2;go_roundw
   case rel=>exact⟨.inr (cF (.inr rfl)),(dX.alloc (by omega) _).trans (hb2.mono (by simp;omega))⟩
   case measure=>simp[intOf]
  ·go_wp2_with (go_at_call 221;refine(NK b hB2.ok men sent marks ss hB2.l9 _ (hB2.rs.below ((aw _ _).alloc (ax _) _))).mono ?_;rintro e w2 ⟨rfl,hb2⟩)
   have hs2:=hb2.size;simp at hs2;go_roundw
   case rel=>exact⟨.inr (.inr (cF rfl)),(dX.alloc (by omega) _).trans (hb2.mono (by simp;omega))⟩
   case measure=>simp[intOf]
  ·go_wp2_with (go_at_call 222;refine(Lu b hB2.ok men sent marks ms hB2.kE _ (hB2.rk.below ((aw _ _).alloc (ax _) _))).mono ?_;rintro e w2 ⟨rfl,hb2⟩)
   have hs2:=hb2.size;simp at hs2;go_roundw
   case rel=>exact⟨.inr (.inr (.inr rfl)),(dX.alloc (by omega) _).trans (hb2.mono (by simp;omega))⟩
   case measure=>simp[intOf]
  ·go_wp2
   go_ret
   exact⟨rfl,((aw _ _).alloc (ax _) _).trans (dX.mono (by omega))⟩
end Go.Proofs.YtffladgmkiimjaaGreatDoor
namespace Go.Proofs.YtffladgmkiimjaaGreatDoor
open Go Go.RowKit Go.Lag Go.ChangeShapes
abbrev KB:List (String × DataW Unit):=[("lagan/bell.checks",Rows.laid_lagan_bell_checks)]
theorem Qq:Tryz.prog.globalNamed "lagan/bell.checks" = some 0:=by kernel_rfl
theorem S3:(Tryz.prog.globals[0]?).map (·.type)=some 163:=by kernel_rfl
theorem ze{W:ar}{n:Nat}{cs:List aj}{i:Nat}{f0:FuncId}{b:UInt8}{r:List UInt8}{xs:List (DataW (List UInt8) × List MemPlace)}(hlen:cs.length=5)(hi:i<5)
  (hel:∀(i:Nat),i<5→DataW.trod (funcToken aq) aq W 0 (fun _=>true) true n 162 ((cs.drop (i*1)).take 1)=xs[i]?) {q:List MemPlace} (hx:xs[i]?=some (.agg [.held (b::r)],q))
  (acH:((List.range Tryz.prog.funcs.size).filter fun f=>(Tryz.prog.funcs[f]?).any (·.name.toUTF8.data.toList==b::r))=[f0]):cs[i]?=some (.func (.func f0) #[] #[]):=by
 have h:=hel i hi;rw[hx] at h;obtain⟨ys,m,-,hy,-,hl,hf⟩:=DataW.trod_struct Tryz.underlying162 h;have h0:=hf 0 _ rfl;have hl:ys.length=1:=hl
 match ys,hl with
 |[y],_=>
  have ahe:Tryz.prog.cellsOf 125=1:=by kernel_rfl
  simp only[cg,List.map_nil,iB,DataW.agg.injEq,Aa,and_true] at hy
  have e:List.take 1 (List.drop 0 (List.take 1 (List.drop (i*1) cs)))=[cs[i]'(by omega)]:=by
   rw[Nat.mul_one,dM (l:=cs) (i:=i) (by omega)];rfl
  have h0':DataW.trod (funcToken aq) aq W 0 (fun _=>true) true m 125 (List.take (Tryz.prog.cellsOf 125) (List.drop 0 (List.take 1 (List.drop (i*1) cs))))=some y:=h0;rw[ahe,e] at h0';have h1:DataW.trod (funcToken aq) aq W 0 (fun _=>true) true m 125 [cs[i]'(by omega)]=some (.held (b::r),y.2):=by rw[h0',hy.1]
  have:=func_of_trod Tryz.underlying125 acH h1;rw[List.getElem?_eq_getElem (by omega),this]
theorem VH{W:ar}(h:laidMetH aq KB W):Laid W:=by
 obtain⟨g,t,cs,fuel,p,hg,ht,hv,htr⟩:=laidMetH.funcs h (.head _);obtain rfl:=bg (Qq.symm.trans hg);obtain rfl:=bg (S3.symm.trans ht);obtain⟨xs,m,-,hx,hlen,hxl,hel⟩:=DataW.trod_array Tryz.underlying163 htr;have ahc:Tryz.prog.cellsOf 163=5:=by kernel_rfl
 have ahd:Tryz.prog.cellsOf 162=1:=by kernel_rfl
 rw[ahc] at hlen;simp only[ahd] at hel;simp only[iB] at hx;have hx:=hx.1;simp only[DataW.funcsOut,DataW.funcsOutAll,DataW.agg.injEq] at hx
 match xs,hxl with
 |[x0,x1,x2,x3,x4],_=>
  simp only[cg,List.map_nil,Aa,and_true] at hx;obtain⟨y0,y1,y2,y3,y4⟩:=hx;have hc:=World.var?_cell hg hv;have hs:∀(i:Nat) (u:aj),cs.toList[i]?=some u→W.cell? ⟨0,i,none⟩=some u:=fun i u h=>(hc i).trans (by rw[←Array.getElem?_toList];exact h);have z0:=hs 0 _ (ze (f0:=218) (q:=x0.2) hlen (by decide) hel (congrArg some (Prod.ext y0.symm rfl)) (by kernel_rfl));have z1:=hs 1 _ (ze (f0:=219) (q:=x1.2) hlen (by decide) hel (congrArg some (Prod.ext y1.symm rfl)) (by kernel_rfl));have z2:=hs 2 _ (ze (f0:=220) (q:=x2.2) hlen (by decide) hel (congrArg some (Prod.ext y2.symm rfl)) (by kernel_rfl));have z3:=hs 3 _ (ze (f0:=221) (q:=x3.2) hlen (by decide) hel (congrArg some (Prod.ext y3.symm rfl)) (by kernel_rfl));have z4:=hs 4 _ (ze (f0:=222) (q:=x4.2) hlen (by decide) hel (congrArg some (Prod.ext y4.symm rfl)) (by kernel_rfl));exact⟨z0,z1,z2,z3,z4,Nat.lt_of_not_le fun h=>by rw[dH,Array.getElem?_eq_none h] at z0;cases z0⟩
end Go.Proofs.YtffladgmkiimjaaGreatDoor
