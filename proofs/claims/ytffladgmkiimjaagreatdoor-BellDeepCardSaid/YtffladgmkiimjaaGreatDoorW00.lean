/- THE BELL IN PLAIN LEAN: a book's numbers, plans by bits, the air minute by minute. LONE WALKS: inside, has, list, casks. LONE WALKS: used, behind. LON .. -/
import Derived.WalkKit
import Derived.Test.YtffladgmkiimjaaGreatDoorProg
import Derived.Lib.Hide
import Derived.Outline
import Derived.Deep.RegionHeld3
import Derived.RangeFuncRecord
import Derived.Maps.Own
import Derived.Maps.OwnOps
import Derived.RowKit
import Derived.Laws.StructEq
import Derived.Laws.IdiomStrings
import Derived.Test.YtffladgmkiimjaaGreatDoorRows
import Derived.LaidHandle
import Derived.LaidMore
import Derived.OpenShut
import Derived.ProofKit
import Derived.Deep.Slices
set_option linter.unusedVariables false
set_option linter.unusedSimpArgs false
set_option maxHeartbeats 100000000
set_option maxRecDepth 1000000
open Array renaming getElem?_eq_getElem → aR,getElem?_eq_some_iff → aj,getElem?_eq_none → fX
open Bool renaming false_eq_true → bF
open Go renaming Value → ak,World → ar,TypeId → bg,Calls → bp,underlying → je,MapEntry → ue
open Go.Addr renaming add → l5
open Go.Ending renaming returned → aG,returned → aO
open Go.Instr renaming findAsking → kV,index → mS,findKey → uN,mapUpdate → zM
open Go.IntKind renaming i64 → ag
open Go.Lib renaming hid → ai
open Go.Obj renaming cells → au
open Go.Proofs.Tryz renaming underlying28 → aT,prog → aq,underlying3 → iJ,underlying25 → iR
open Go.Result renaming andThen → FH
open Go.RowKit renaming Below → aC
open Go.RowKit.Below renaming heap_alloc → aX,refl → aw
open Go.Value renaming pointer → a8,bool → aA,int → aM,agg → aQ,slice → ae,int → ah
open Go.World renaming alloc_heap_new → ax,cell? → dU,cell?_alloc_lt → eF,ownsRow_nil → eO
open List renaming foldl_append → AW,eq_nil_of_length_eq_zero → aZ,range → bf,take_succ_eq_append_getElem → cF,getElem_mem → cz,drop_eq_getElem_cons → dW,take_of_length_le → dg,map_cons → di,mem_of_mem_take → fZ,getElem?_eq_getElem → lZ,range' → oB,getElem?_append_left → zI
open Nat renaming le_refl → ay,lt_of_lt_of_le → bE,mul_comm → uL
open Option.some renaming inj → bt
open Or renaming inl → bI
namespace Go.Proofs.YtffladgmkiimjaaGreatDoor
open Go
theorem fT(n:Int)(h₀:0≤n)(h₁:n<2 ^ 62):IntKind.i64.wrap n=n:=by rw[IntKind.wrap_i64];omega
theorem VH(a b:Nat)(ha:a<2 ^ 62)(hb:b<2 ^ 62):bits .and ag (a:Int) (b:Int)=((a &&& b:Nat):Int):=(bits_nat ag 62 (by decide) fT a b ha hb).1
theorem Zm(a b:Nat)(ha:a<2 ^ 62)(hb:b<2 ^ 62):bits .or ag (a:Int) (b:Int)=((a ||| b:Nat):Int):=(bits_nat ag 62 (by decide) fT a b ha hb).2
theorem vY(n m:Nat)(hn:n<512):(bits BinOp.and IntKind.i64 (↑n / 2 ^ m) 1==1)=n.testBit m:=by
 have e:((n:Int) / 2 ^ m)=((n / 2 ^ m:Nat):Int):=by simp
 have hlt:n / 2 ^ m<2 ^ 62:=Nat.lt_of_le_of_lt (Nat.div_le_self _ _) (by omega);rw[e,show(1:Int)=((1:Nat):Int) from rfl,VH _ 1 hlt (by decide)];rw[Nat.testBit_eq_decide_div_mod_eq,Nat.and_one_is_mod,Bool.eq_iff_iff];simp only[beq_iff_eq,decide_eq_true_eq];omega
structure BB where
 room:Int
 depth:Int
 least:Int
 minutes:Int
 cu:Int
 iB:Int
 ek:Int
 ji:Int
 ll:Int
 lm:Int
 pl:Int
 pm:Int
abbrev BB.cells(b:BB)(men sent marks:ak):Array Value:=#[ah ag b.room,ah ag b.depth,ah ag b.least,ah ag b.minutes,ah ag b.cu,ah ag b.iB,ah ag b.ek,ah ag b.ji,ah ag b.ll,ah ag b.lm,ah ag b.pl,ah ag b.pm,men,sent,marks]
structure BB.Ok(b:BB):Prop where
 room:1≤b.room∧b.room≤99
 depth:0≤b.depth∧b.depth≤99
 least:0≤b.least∧b.least≤99
 minutes:1≤b.minutes∧b.minutes≤8
 cu:0≤b.cu∧b.cu≤99
 iB:0≤b.iB∧b.iB≤99
 ek:0≤b.ek∧b.ek≤3
 ji:0≤b.ji∧b.ji≤99
 leak:0≤b.ll∧b.ll≤b.lm∧b.lm≤99∧b.lm - b.ll<3
 Lu:1≤b.pl∧b.pl≤b.pm∧b.pm≤b.minutes
def BB.holds(b:BB):Int:=b.room*(33+b.depth) / 33
def BB.Sd(b:BB)(n:Int):Int:=n*33 / (33+b.depth)
structure eV where
 leak:Int
 m0:Int
 m1:Int
 m2:Int
deriving DecidableEq
abbrev eV.cells(a:eV):Array Value:=#[ah ag a.leak,ah ag a.m0,ah ag a.m1,ah ag a.m2]
structure eV.Ok(a:eV):Prop where
 leak:0≤a.leak∧a.leak≤400
 m0:0≤a.m0∧a.m0≤99
 m1:0≤a.m1∧a.m1≤99
 m2:0≤a.m2∧a.m2≤99
def eV.used(a:eV):Int:=a.leak+a.m0+a.m1+a.m2
theorem BB.DV(b:BB)(h:b.Ok):b.room≤b.holds∧b.holds≤396:=by
 have h1:=h.room;have h2:=h.depth;unfold BB.holds;have h3:b.room*33≤b.room*(33+b.depth):=Int.mul_le_mul_of_nonneg_left (by omega) (by omega);have h4:b.room*(33+b.depth)≤99*132:=Int.mul_le_mul (by omega) (by omega) (by omega) (by omega);omega
theorem BB.X9(b:BB)(h:b.Ok){n:Int}(h0:0≤n)(h1:n≤999):0≤n*33∧n*33≤32967∧0<33+b.depth∧33+b.depth≤132:=by
 have h2:=h.depth;omega
def BB.step(b:BB)(used:Int)(p:Nat)(m:Nat)(n:Int):Int:=
 max 0 (min ((n+if p.testBit m then b.iB else 0)+if b.pl≤m∧m≤b.pm then b.ji else 0) b.holds - used)
def BB.BS(b:BB)(used:Int)(p:Nat):Nat→Int
 |0=>b.room
 |m+1=>b.step used p (m+1) (b.BS used p m)
def BB.m6(b:BB)(used:Int)(p k:Nat):List Int:=(bf k).map fun i=>b.BS used p (i+1)
theorem BB.Ol(b:BB)(used:Int)(p k:Nat):b.m6 used p (k+1)=b.m6 used p k ++ [b.BS used p (k+1)]:=by
 simp[BB.m6,List.range_succ]
theorem BB.uZ(b:BB)(used:Int)(p k:Nat):(b.m6 used p k).length=k:=by simp[BB.m6]
theorem BB.MI(b:BB)(h:b.Ok){used:Int}(hu:0≤used)(p:Nat) : ∀k,0≤b.BS used p k∧b.BS used p k≤396:=by
 intro k;have hh:=b.DV h;have h1:=h.room;cases k with
 |zero=>simp only[BB.BS];omega
 |succ k=>simp only[BB.BS,BB.step];omega
def upTo(p k:Nat):List Nat:=(oB 1 k).filter p.testBit
theorem FP(p k:Nat):upTo p (k+1)=upTo p k ++ if p.testBit (k+1) then[k+1] else[]:=by
 unfold upTo;rw[show oB 1 (k+1)=oB 1 k ++ [k+1] by rw[List.range'_concat];simp[Nat.add_comm]];rw[List.filter_append]
 congr 1
 by_cases h:p.testBit (k+1)<;>simp[h]
theorem vH(p k:Nat):(upTo p k).length≤k:=by
 unfold upTo;have:=List.length_filter_le p.testBit (oB 1 k);simpa using this
open Go.RowKit
theorem qs{a b:Bool}(h:a=b):aO (aA a)=aG (aA b):=by rw[h]
theorem il{k:IntKind}{a b:Int}(h:a=b):aO (ah k a)=aG (ah k b):=by rw[h]
def aL(n l m:Int):Bool:=decide (l≤n)&&decide (n≤m)
theorem qz(n l m:Int)(w:ar):bp aq 138 #[ah ag n,ah ag l,ah ag m] w fun e w'=>e=aG (aA (aL n l m))∧w=w':=by
 by_cases h1:l≤n
 ·have h:aL n l m=decide (n≤m):=by simp[aL,h1]
  rw[h];have H:=ai h;clear h
  go_enter Tryz.func138,Tryz.ntmps138
  go_wp2
  all_goals (go_ret;first|exact⟨rfl,rfl⟩|(refine⟨qs ?_,rfl⟩;simp))
 ·have h:aL n l m=false:=by simp[aL,h1]
  rw[h];have H:=ai h;clear h
  go_enter Tryz.func138,Tryz.ntmps138
  go_wp2
  all_goals (go_ret;first|exact⟨rfl,rfl⟩|(refine⟨qs ?_,rfl⟩;simp))
theorem Ie(n m:Nat)(hn:n<512)(hm:m<9)(w:ar):bp aq 162 #[ah ag n,ah ag m] w fun e w'=>e=aG (aA (n.testBit m))∧w=w':=by
 go_enter Tryz.func162,Tryz.ntmps162
 go_wp2
 go_ret
 exact⟨qs (vY n m hn),rfl⟩
theorem info3:(Tryz.prog.info? 3).map (fun i=>(i.zero,i.size,i.bytes))=some (some (ah ag 0),1,8):=by kernel_rfl
theorem td{B e n size:Nat}{xs:List ak}{w wr w1:ar}{u:ak}{o:Obj}(hB:B≤wr.heap.size)(hown:wr.ownsRow B e size u n xs)(eA:aC B w wr)(hgrow:(wr.alloc o).grownBy w1 u.ownBlock):aC B w w1:=
 (eA.alloc hB o).grown hgrow (by simp;omega) fun j hj=>(hown.lt j hj).1
theorem JN(p:Nat)(hp:p<512)(w:ar) :
  bp aq 99 #[ah ag p] w fun e w'=>∃v,e=aG v∧w'.ownsRow w.heap.size 3 1 v (upTo p 8).length ((upTo p 8).map fun(m:Nat)=>aM ag (m:Int))∧aC w.heap.size w w':=by
 obtain⟨i0,hi,hz0,hz1,hz2⟩:=info_parts info3
 go_enter Tryz.func99,Tryz.ntmps99
 go_wp2
 go_loopw [3,4] (fun v i wr=>∃k:Nat,k≤8∧i=ah ag (k+1)∧wr.ownsRow w.heap.size 3 1 v (upTo p k).length ((upTo p k).map fun(m:Nat)=>aM ag (m:Int))∧aC w.heap.size w wr)
  (fun _ i _=>9 - (intOf i).toNat)
 case atStart=>exact⟨0,by omega,rfl,eO _ _ _ _,aw _ _⟩
 case round=>
  obtain⟨k,hk,rfl,hown,eA⟩:=hrel;have hle:=vH p k
  by_cases hlt:k<8
  ·cases hb:p.testBit (k+1)
   ·have e1:upTo p (k+1)=upTo p k:=by rw[FP,hb];simp
    have hc:=Ie p (k+1) hp (by omega);rw[hb] at hc;have HC:=ai hc;have H1:=ai e1;clear e1 hb hc
    go_wp2_with (go_at_call 162;refine(HC.out _).mono ?_;rintro e w' ⟨rfl,rfl⟩)
    go_roundw
    case rel=>exact⟨k+1,by omega,by go_num,by rw[H1.out];exact hown,eA⟩
    case measure=>simp[intOf];omega
   ·have e1:upTo p (k+1)=upTo p k ++ [k+1]:=by rw[FP,hb];simp
    have hc:=Ie p (k+1) hp (by omega);rw[hb] at hc;have HC:=ai hc;have H1:=ai e1;clear e1 hb hc;have hB:=eA.size
    go_wp2_with (first
     |(go_at_call 162;refine(HC.out _).mono ?_;rintro e w' ⟨rfl,rfl⟩)
     |(at_builtin;refine wpList_append_own _ rfl _ _ 25 rfl w.heap.size 3 i0 (ah ag 0) 1 8 iR hi hz0 hz1 hz2 rfl (by decide) _ _ _ rfl (hown.alloc _) ⟨wr.heap.size,0,none⟩ 1 1 [ah ag (k+1)] rfl rfl ?c1 ?c2 ?c3 ?c4 ?c5 ?_))
    case c1=>
     intro j u hj
     match j,hj with
     |0,hj=>simp at hj;subst hj;simp[l5]
    case c2=>intro u hu;simp at hu;subst hu;rfl
    case c3=>unfold maxLen;omega
    case c4=>omega
    case c5=>simp;omega
    intro v' w1 hown' hgrow _;have hb1:aC w.heap.size w w1:=td hB hown eA hgrow;clear hgrow eA hown;go_wp2;go_roundw
    case rel=>exact⟨k+1,by omega,by go_num,by rw[H1.out];simpa using hown',hb1⟩
    case measure=>simp[intOf];omega
  ·obtain rfl:k=8:=by omega
   go_wp2
   go_ret
   exact⟨_,rfl,hown,eA⟩
theorem sI(p:Nat)(hp:p<512)(w:ar):bp aq 97 #[ah ag p] w fun e w'=>e=aG (ah ag (upTo p 8).length)∧aC w.heap.size w w':=by
 go_enter Tryz.func97,Tryz.ntmps97
 go_wp2_with fail
 refine(JN p hp _).mono ?_;rintro e w1 ⟨v,rfl,hown,hb⟩;rcases hown.2 with⟨rfl,h0⟩|⟨g,cap,cur,rfl,_,_,_,_,_,_⟩
 ·have H0:=ai h0;clear h0 hown;go_wp2
  go_ret
  exact⟨il (by rw[H0.out];rfl),hb⟩
 ·clear hown;go_wp2
  go_ret
  exact⟨rfl,hb⟩
theorem Gg(b:BB)(hb:b.Ok)(men sent marks:ak)(w:ar):bp aq 115 #[aQ (b.cells men sent marks)] w fun e w'=>e=aG (ah ag b.holds)∧aC w.heap.size w w':=by
 have h1:=hb.room;have h2:=hb.depth;have h3:=b.DV hb;have h4:b.room*(33+b.depth)≤99*132:=Int.mul_le_mul (by omega) (by omega) (by omega) (by omega);have h5:0≤b.room*(33+b.depth):=Int.mul_nonneg (by omega) (by omega)
 go_enter Tryz.func115,Tryz.ntmps115
 go_wp2
 go_ret
 exact⟨il rfl,(aw _ _).alloc (ay _) _⟩
theorem Ip(b:BB)(hb:b.Ok)(men sent marks:ak)(n:Int)(hn:0≤n∧n≤999)(w:ar):bp aq 139 #[aQ (b.cells men sent marks),ah ag n] w fun e w'=>e=aG (ah ag (b.Sd n))∧aC w.heap.size w w':=by
 have h2:=hb.depth;have h1:=b.X9 hb hn.1 hn.2
 go_enter Tryz.func139,Tryz.ntmps139
 go_wp2
 go_ret
 exact⟨il rfl,(aw _ _).alloc (ay _) _⟩
theorem Jj(a:eV)(ha:a.Ok)(w:ar):bp aq 165 #[aQ a.cells] w fun e w'=>e=aG (ah ag a.used)∧aC w.heap.size w w':=by
 have h1:=ha.leak;have h2:=ha.m0;have h3:=ha.m1;have h4:=ha.m2;have ix : ∀(x y z:Int) w,(mS 132 (aQ #[ah ag x,ah ag y,ah ag z]) (ah ag 0)).run aq w=.ok (ah ag x) w:=fun _ _ _ _=>by kernel_rfl
 have iy : ∀(x y z:Int) w,(mS 132 (aQ #[ah ag x,ah ag y,ah ag z]) (ah ag 1)).run aq w=.ok (ah ag y) w:=fun _ _ _ _=>by kernel_rfl
 have iz : ∀(x y z:Int) w,(mS 132 (aQ #[ah ag x,ah ag y,ah ag z]) (ah ag 2)).run aq w=.ok (ah ag z) w:=fun _ _ _ _=>by kernel_rfl
 go_enter Tryz.func165,Tryz.ntmps165
 go_wp2
 go_loop [3,10] (fun n i=>(i=ah ag 0∧n=ah ag a.leak)∨(i=ah ag 1∧n=ah ag (a.leak+a.m0))∨(i=ah ag 2∧n=ah ag (a.leak+a.m0+a.m1))∨(i=ah ag 3∧n=ah ag (a.leak+a.m0+a.m1+a.m2))) (fun _ i=>3 - (intOf i).toNat)
 case atStart=>exact bI ⟨rfl,rfl⟩
 case round=>
  rcases hrel with⟨rfl,rfl⟩|⟨rfl,rfl⟩|⟨rfl,rfl⟩|⟨rfl,rfl⟩
  ·go_wp2
   go_round
   case rel=>exact .inr (bI ⟨rfl,rfl⟩)
   case measure=>simp[intOf]
  ·go_wp2
   go_round
   case rel=>exact .inr (.inr (bI ⟨rfl,rfl⟩))
   case measure=>simp[intOf]
  ·go_wp2
   go_round
   case rel=>exact .inr (.inr (.inr ⟨rfl,rfl⟩))
   case measure=>simp[intOf]
  ·go_wp2
   go_ret
   exact⟨il rfl,(aw _ _).alloc (ay _) _⟩
abbrev Lv(b:BB)(men sent marks:ak)(a:eV)(w w':ar):Prop:=w'.cell? ⟨w.heap.size,0,none⟩=some (ah ag b.room)∧w'.cell? ⟨w.heap.size,4,none⟩=some (ah ag b.cu)∧w'.cell? ⟨w.heap.size+1,0,none⟩=some (ah ag a.leak)∧w'.cell? ⟨w.heap.size+1,1,none⟩=some (ah ag a.m0)∧w'.cell? ⟨w.heap.size+1,2,none⟩=some (ah ag a.m1)∧w'.cell? ⟨w.heap.size+1,3,none⟩=some (ah ag a.m2)∧aC (w.heap.size+2) ((w.alloc (au (b.cells men sent marks) 119)).alloc (au a.cells 134)) w'
theorem G9(b:BB)(men sent marks:ak)(a:eV)(w:ar):Lv b men sent marks a w ((w.alloc (au (b.cells men sent marks) 119)).alloc (au a.cells 134)).drew:=by
 refine⟨?_,?_,?_,?_,?_,?_,(aw _ _).drew⟩<;>go_simp
theorem JA{b:BB}{men sent marks:ak}{a:eV}{w w1 w2:ar}(h:Lv b men sent marks a w w1)(hb:aC w1.heap.size w1 w2):Lv b men sent marks a w w2:=by
 obtain⟨h1,h2,h3,h4,h5,h6,h7⟩:=h;have hs:=h7.size;simp at hs;refine⟨(hb.cell (by simp;omega)).trans h1,(hb.cell (by simp;omega)).trans h2,(hb.cell (by simp;omega)).trans h3,(hb.cell (by simp;omega)).trans h4,(hb.cell (by simp;omega)).trans h5,(hb.cell (by simp;omega)).trans h6,h7.trans (hb.mono (by omega))⟩
theorem ownsRow_base{w:ar}{B B':Nat}{e:bg}{size:Nat}{v:ak}{n:Nat}{xs:List ak}(h:w.ownsRow B e size v n xs)(hB:B'≤B):w.ownsRow B' e size v n xs:=
 ⟨h.1,h.2.imp id fun⟨g,cap,cur,h1,h2,h3⟩=>⟨g,cap,cur,h1,Nat.le_trans hB h2,h3⟩⟩
theorem bQ{w:ar}{B:Nat}{b:BB}{men sent marks:ak}{T:bg}(h:w.heap[B]?=some (au (b.cells men sent marks) T (0,0))) :
  w.cell? ⟨B,0,none⟩=some (ah ag b.room)∧w.cell? ⟨B,1,none⟩=some (ah ag b.depth)∧w.cell? ⟨B,2,none⟩=some (ah ag b.least)∧w.cell? ⟨B,3,none⟩=some (ah ag b.minutes)∧w.cell? ⟨B,4,none⟩=some (ah ag b.cu)∧w.cell? ⟨B,5,none⟩=some (ah ag b.iB)∧w.cell? ⟨B,6,none⟩=some (ah ag b.ek)∧
  w.cell? ⟨B,7,none⟩=some (ah ag b.ji)∧w.cell? ⟨B,8,none⟩=some (ah ag b.ll)∧w.cell? ⟨B,9,none⟩=some (ah ag b.lm)∧w.cell? ⟨B,10,none⟩=some (ah ag b.pl)∧w.cell? ⟨B,11,none⟩=some (ah ag b.pm)∧w.cell? ⟨B,12,none⟩=some men∧w.cell? ⟨B,13,none⟩=some sent∧w.cell? ⟨B,14,none⟩=some marks:=by
 unfold dU;simp only[h];exact⟨rfl,rfl,rfl,rfl,rfl,rfl,rfl,rfl,rfl,rfl,rfl,rfl,rfl,rfl,rfl⟩
theorem ub(w:ar)(o o':Obj):((w.alloc o).alloc o').heap[w.heap.size]?=some o:=by
 rw[aX _ _ _ (by simp)];exact ax w o
theorem BB.UK(b:BB)(used:Int)(p k:Nat)(hk:0<k):b.BS used p k=b.step used p k (b.BS used p (k - 1)):=by
 cases k with
 |zero=>omega
 |succ k=>rfl
theorem BB.QD(b:BB)(used:Int)(p k:Nat)(hk:0<k):b.m6 used p k=b.m6 used p (k - 1) ++ [b.BS used p k]:=by
 cases k with
 |zero=>omega
 |succ k=>exact b.Ol used p k
theorem gP{n l m:Int}:aL n l m=true↔l≤n∧n≤m:=by simp[aL]
theorem Gb{n l m:Int}(h:aL n l m=false) : ¬(l≤n∧n≤m):=fun h'=>by rw[gP.2 h'] at h;cases h
section
variable{b:BB}{used n:Int}{p k:Nat}
theorem Tx(h1:p.testBit k=false)(h2:aL k b.pl b.pm=false):b.step used p k n=max 0 (min n b.holds - used):=by
 unfold BB.step;rw[h1,if_neg (Gb h2)];simp
theorem Tt(h1:p.testBit k=true)(h2:aL k b.pl b.pm=false):b.step used p k n=max 0 (min (n+b.iB) b.holds - used):=by
 unfold BB.step;rw[h1,if_neg (Gb h2)];simp
theorem Tw(h1:p.testBit k=false)(h2:aL k b.pl b.pm=true):b.step used p k n=max 0 (min (n+b.ji) b.holds - used):=by
 unfold BB.step;rw[h1,if_pos (gP.1 h2)];simp
theorem Ts(h1:p.testBit k=true)(h2:aL k b.pl b.pm=true):b.step used p k n=max 0 (min (n+b.iB+b.ji) b.holds - used):=by
 unfold BB.step;rw[h1,if_pos (gP.1 h2)];simp
end
theorem E4{w w':ar}{B:Nat}{e:bg}{size:Nat}{v:ak}{n:Nat}{xs:List ak}(h:w.ownsRow B e size v n xs)(hb:aC w.heap.size w w'):w'.ownsRow B e size v n xs:=
 ⟨h.1,h.2.imp id fun⟨g,cap,cur,h1,h2,h3,h4⟩=>⟨g,cap,cur,h1,h2,by rw[hb.block g (aj.1 h3).1];exact h3,h4⟩⟩
theorem U6{W:ar}{ad:Addr}{v:ak}(h:W.cell? ad=some v) : ∀j u,[v][j]?=some u→W.cell? (ad.add j)=some u:=by
 intro j u hj
 match j,hj with
 |0,hj=>simp at hj;subst hj;simpa [l5] using h
theorem KA(w:ar)(v:ak)(T:bg):(w.alloc (au #[v] T)).cell? ⟨w.heap.size,0,none⟩=some v:=by
 rw[World.cell?_alloc_at _ _ _ _ rfl];rfl
theorem QV{v:ak}(h:v.oneCell'=true) : ∀u∈[v],u.oneCell'=true:=by
 intro u hu;simp at hu;subst hu;exact h
theorem Dt(b:BB)(hb:b.Ok)(men sent marks:ak)(a:eV)(ha:a.Ok)(p:Nat)(hp:p<512)(w:ar) :
  bp aq 114 #[aQ (b.cells men sent marks),aQ a.cells,ah ag p] w fun e w'=>∃v,e=aG v∧w'.ownsRow w.heap.size 3 1 v b.minutes.toNat ((b.m6 (b.cu+a.used) p b.minutes.toNat).map (aM ag))∧aC w.heap.size w w':=by
 have W8:=hb.cu;have Ac:=hb.minutes;have af2:=hb.iB;have afC:=hb.ji;have hroom:=hb.room;have hu:0≤a.used∧a.used≤697:=by have:=ha.leak;have:=ha.m0;have:=ha.m1;have:=ha.m2;unfold eV.used;omega
 have hw:IntKind.i64.wrap (b.cu+a.used)=b.cu+a.used:=fT _ (by omega) (by omega);obtain⟨i0,hi,hz0,hz1,hz2⟩:=info_parts info3
 go_enter Tryz.func114,Tryz.ntmps114
 go_wp2
 go_region_held3 (fun w'=>w'.cell? ⟨w.heap.size,0,none⟩=some (ah ag b.room)∧w'.cell? ⟨w.heap.size,4,none⟩=some (ah ag b.cu)∧w'.cell? ⟨w.heap.size+1,0,none⟩=some (ah ag a.leak)∧w'.cell? ⟨w.heap.size+1,1,none⟩=some (ah ag a.m0)∧w'.cell? ⟨w.heap.size+1,2,none⟩=some (ah ag a.m1)∧w'.cell? ⟨w.heap.size+1,3,none⟩=some (ah ag a.m2)∧aC (w.heap.size+2) ((w.alloc (au (b.cells men sent marks) 119)).alloc (au a.cells 134)) w')
  (first|exact G9 b men sent marks a w|exact JA (by assumption) (by assumption))
  (first|(go_at_call 165;refine(Jj a ha _).mono ?_;rintro e w1 ⟨rfl,hb1⟩))
 rename _∧_=>hS;obtain⟨-,-,-,-,-,-,hB1⟩:=hS
 have jG:w1.heap[w.heap.size]?=some (au (b.cells men sent marks) 119 (0,0)):=by
  rw[hB1.block _ (by omega)];exact ub _ _ _
 obtain⟨-,-,-,hc3,-,-,-,-,-,-,-,-,-,-,-⟩:=bQ jG;clear hb1 hw;generalize Vd:b.cu+a.used=used at *;have hu2:0≤used∧used≤796:=by omega
 have HH:=ai Vd;clear Vd hu;go_wp2
 go_loopw [7,8,24] (fun v n i wr=>∃k:Nat,(k:Int)≤b.minutes+1∧i=ah ag k∧n=ah ag (b.BS used p (k - 1))∧wr.ownsRow (w.heap.size+2) 3 1 v (k - 1) ((b.m6 used p (k - 1)).map (aM ag))∧aC (w.heap.size+2) ((w.alloc (au (b.cells men sent marks) 119)).alloc (au a.cells 134)) wr)
  (fun _ _ i _=>b.minutes.toNat+1 - (intOf i).toNat)
 case atStart=>exact⟨0,by omega,rfl,rfl,eO _ _ _ _,hB1⟩
 case round=>
  obtain⟨k,hk,rfl,rfl,hown,eA⟩:=hrel
  have jG:wr.heap[w.heap.size]?=some (au (b.cells men sent marks) 119 (0,0)):=by
   rw[eA.block _ (by omega)];exact ub _ _ _
  have hcc:=bQ jG;have RH:=b.MI hb hu2.1 p (k - 1);have aii:=b.DV hb;have hB:=eA.size;simp at hB
  by_cases hlt:(k:Int)<b.minutes+1
  ·rcases Nat.eq_zero_or_pos k with rfl|kG
   ·obtain⟨hc0,hc1,hc2,hc3,hc4,hc5,hc6,hc7,hc8,Uh,Mb,adW,adV,O3,RB⟩:=hcc;go_wp2;go_roundw
    case rel=>exact⟨1,by omega,rfl,rfl,hown,eA⟩
    case measure=>simp[intOf]
   ·have hst:=b.UK used p k kG;have hpl:=b.QD used p k kG;have hlen:(b.m6 used p (k - 1)).length=k - 1:=b.uZ used p (k - 1);have hne:((k:Int)==0)=false:=by simp;omega
    generalize b.BS used p (k - 1)=n at *;obtain⟨hc0,hc1,hc2,hc3,hc4,hc5,hc6,hc7,hc8,Uh,Mb,adW,adV,O3,RB⟩:=hcc;have H1:=ai hst;have H2:=ai hpl;have H3:=ai hlen;clear hst hpl hlen;cases Xz:p.testBit k<;>cases hin:aL k b.pl b.pm
    all_goals
     have HB:=ai Xz;have HI:=ai hin;have HA:=Ie p k hp (by omega);rw[Xz] at HA;have HAH:=ai HA;have IA:=qz k b.pl b.pm;rw[hin] at IA;have IAH:=ai IA;clear Xz hin HA IA
     go_wp2_with (first
      |(go_at_call 162;refine(HAH.out _).mono ?_;rintro e w' ⟨rfl,rfl⟩)
      |(go_at_call 138;refine(IAH.out _).mono ?_;rintro e w' ⟨rfl,rfl⟩)
      |(go_at_call 115;refine(Gg b hb men sent marks _).mono ?_;rintro e w2 ⟨rfl,hb2⟩;have hown2:=E4 hown hb2;have ahW:=hb2.size)
      |(at_builtin;refine wpList_append_own _ rfl (.tmp 59) (.tmp 61) 25 rfl (w.heap.size+2) 3 i0 (ah ag 0) 1 8 iR hi hz0 hz1 hz2 rfl (by decide) _ _ _ rfl (hown2.alloc _) ⟨w2.heap.size,0,none⟩ 1 1 [_] rfl rfl (U6 (KA _ _ _)) (QV rfl) ?_ ?_ ?_ ?_))
    all_goals first
     |(simp;omega;done)
     |(unfold maxLen;omega;done)
     |(omega;done)
     |skip
    all_goals
     intro v' w3 hown' hgrow _;have hb3:=((eA.trans (hb2.mono (by omega))).alloc (by have:=hb2.size;omega) _).grown hgrow (by simp;omega) (fun j hj=>(hown2.lt j hj).1);clear hgrow;go_wp2;go_roundw
     case rel=>
      have hS:b.step used p k n=max 0 (min (n+(if p.testBit k then b.iB else 0)+(if aL k b.pl b.pm then b.ji else 0)) b.holds - used):=by
       first
        |(rw[Tx HB.out HI.out,HB.out,HI.out];simp;done)
        |(rw[Tt HB.out HI.out,HB.out,HI.out];simp;done)
        |(rw[Tw HB.out HI.out,HB.out,HI.out];simp;done)
        |(rw[Ts HB.out HI.out,HB.out,HI.out];simp;done)
      rw[HB.out,HI.out] at hS;simp only[if_true,bF,if_false,Int.add_zero] at hS;refine⟨k+1,by omega,by go_num,?_,?_,hb3⟩
      ·rw[Nat.add_sub_cancel,H1.out,hS]
       congr 1
       skip
       omega
      ·rw[Nat.add_sub_cancel,H2.out,H1.out,hS];have rF:k - 1+1=k:=by omega
       rw[rF] at hown';rw[List.map_append];refine(congrArg (fun y=>w3.ownsRow (w.heap.size+2) 3 1 v' k (List.map (aM ag) (b.m6 used p (k - 1)) ++ [aM ag y])) ?_).mp hown';clear hown'
       skip
       omega
     case measure=>simp[intOf];omega
  ·have tv:k=b.minutes.toNat+1:=by omega
   go_wp2
   go_ret
   refine⟨_,rfl,?_,?_⟩
   ·rw[HH.out];have e:k - 1=b.minutes.toNat:=by omega
    rw[e] at hown;exact ownsRow_base hown (by omega)
   ·exact(((aw _ _).alloc (ay _) _).alloc (by simp) _).trans (eA.mono (by omega))
theorem BO{w w':ar}{B:Nat}{b:BB}{men sent marks:ak}(h:w.heap[B]?=some (au (b.cells men sent marks) 119 (0,0)))(hb:aC w.heap.size w w'):(w'.cell? ⟨B,0,none⟩=some (ah ag b.room)∧w'.cell? ⟨B,1,none⟩=some (ah ag b.depth)∧w'.cell? ⟨B,2,none⟩=some (ah ag b.least)∧w'.cell? ⟨B,3,none⟩=some (ah ag b.minutes)∧w'.cell? ⟨B,4,none⟩=some (ah ag b.cu)∧w'.cell? ⟨B,5,none⟩=some (ah ag b.iB)∧w'.cell? ⟨B,6,none⟩=some (ah ag b.ek)∧w'.cell? ⟨B,7,none⟩=some (ah ag b.ji)∧w'.cell? ⟨B,8,none⟩=some (ah ag b.ll)∧w'.cell? ⟨B,9,none⟩=some (ah ag b.lm)∧w'.cell? ⟨B,10,none⟩=some (ah ag b.pl)∧w'.cell? ⟨B,11,none⟩=some (ah ag b.pm)∧w'.cell? ⟨B,12,none⟩=some men∧w'.cell? ⟨B,13,none⟩=some sent∧w'.cell? ⟨B,14,none⟩=some marks)∧aC w.heap.size w w':=by
 have hlt:B<w.heap.size:=(aj.1 h).1;have h':w'.heap[B]?=some (au (b.cells men sent marks) 119 (0,0)):=by rw[hb.block B hlt];exact h
 exact⟨bQ h',hb⟩
theorem MD{w w1 w':ar}{B:Nat}{b:BB}{men sent marks:ak}(h:w.heap[B]?=some (au (b.cells men sent marks) 119 (0,0)))(h1:aC w.heap.size w w1)(h2:aC w1.heap.size w1 w'):(w'.cell? ⟨B,0,none⟩=some (ah ag b.room)∧w'.cell? ⟨B,1,none⟩=some (ah ag b.depth)∧w'.cell? ⟨B,2,none⟩=some (ah ag b.least)∧w'.cell? ⟨B,3,none⟩=some (ah ag b.minutes)∧w'.cell? ⟨B,4,none⟩=some (ah ag b.cu)∧w'.cell? ⟨B,5,none⟩=some (ah ag b.iB)∧w'.cell? ⟨B,6,none⟩=some (ah ag b.ek)∧w'.cell? ⟨B,7,none⟩=some (ah ag b.ji)∧w'.cell? ⟨B,8,none⟩=some (ah ag b.ll)∧w'.cell? ⟨B,9,none⟩=some (ah ag b.lm)∧w'.cell? ⟨B,10,none⟩=some (ah ag b.pl)∧w'.cell? ⟨B,11,none⟩=some (ah ag b.pm)∧w'.cell? ⟨B,12,none⟩=some men∧w'.cell? ⟨B,13,none⟩=some sent∧w'.cell? ⟨B,14,none⟩=some marks)∧aC w.heap.size w w':=
 BO h (h1.trans (h2.mono h1.size))
theorem KH(b:BB)(hb:b.Ok)(men sent marks:ak)(n:Int)(hn:0≤n∧n≤999)(B:Nat)(w:ar)(jG:w.heap[B]?=some (au (b.cells men sent marks) 119 (0,0))) :
  bp aq 171 #[ah ag n,a8 (some ⟨B,0,none⟩)] w fun e w'=>e=aG (aA (decide (b.Sd n<b.least)))∧aC w.heap.size w w':=by
 have HK:=ai jG;clear jG
 go_enter Tryz.func171,Tryz.ntmps171
 go_wp2
 go_region_held3 (fun w'=>(w'.cell? ⟨B,0,none⟩=some (ah ag b.room)∧w'.cell? ⟨B,1,none⟩=some (ah ag b.depth)∧w'.cell? ⟨B,2,none⟩=some (ah ag b.least)∧w'.cell? ⟨B,3,none⟩=some (ah ag b.minutes)∧w'.cell? ⟨B,4,none⟩=some (ah ag b.cu)∧w'.cell? ⟨B,5,none⟩=some (ah ag b.iB)∧w'.cell? ⟨B,6,none⟩=some (ah ag b.ek)∧w'.cell? ⟨B,7,none⟩=some (ah ag b.ji)∧w'.cell? ⟨B,8,none⟩=some (ah ag b.ll)∧w'.cell? ⟨B,9,none⟩=some (ah ag b.lm)∧w'.cell? ⟨B,10,none⟩=some (ah ag b.pl)∧w'.cell? ⟨B,11,none⟩=some (ah ag b.pm)∧w'.cell? ⟨B,12,none⟩=some men∧w'.cell? ⟨B,13,none⟩=some sent∧w'.cell? ⟨B,14,none⟩=some marks)∧aC w.heap.size w w')
  (first|exact BO HK.out (aw _ _).drew|exact MD HK.out (And.right (by assumption)) (by assumption))
  (first|(go_at_call 139;refine(Ip b hb men sent marks n hn _).mono ?_;rintro e w1 ⟨rfl,hb1⟩))
 rename _∧_=>hS;have hBw:=hS.2;clear hS;go_wp2
 go_ret
 exact⟨rfl,hBw⟩
end Go.Proofs.YtffladgmkiimjaaGreatDoor
namespace Go.Lag
open Go Go.ChangeMaps Go.MapKept
structure xV(P:Program)(T K E:bg)(key:Int→ak):Prop where
 map:P.underlying T=some (.map K E)
 plain : ∃d,P.underlying K=some d∧∀a b,Instr.sameNow d a b=none
 check : ∀(e:Bool) (u:Int) (w:ar),(Instr.checkKey e 10000 K (key u)).run P w=.ok () w
 eql : ∀(u v:Int) (w:ar),(Op.equal K (key u) (key v)).run P w=.ok (decide (u=v)) w
 zero : ∀w,(zeroValue E).run P w=.ok (aA false) w
def mD(w:ar)(b:Nat)(key:Int→ak)(us:List Int):Prop:=
 ∃es clock,w.heap[b]?=some (.map es clock)∧es.toList.map (fun e:ue=>(e.key,e.val))=us.map fun u=>(key u,aA true)
section
variable{P:Program}{T K E:bg}{key:Int→ak}
theorem vp(L:xV P T K E key)(u:Int)(w:ar) : ∀(us:List Int) (es:List ue) (i:Nat),es.map (fun e:ue=>(e.key,e.val))=us.map (fun u=>(key u,Value.bool true))→
  ∃r,(kV K (key u) es i).run P w=.ok r w∧(u∈us→∃j,r=some (j,aA true))∧(u ∉ us→r=none)
 |[],es,i,h=>by
  have:es=[]:=by simpa using h
  subst this;exact⟨none,rfl,by simp,by simp⟩
 |v :: us,[],i,h=>by simp at h
 |v :: us,e :: es,i,h=>by
  simp only[di,List.cons.injEq,Prod.mk.injEq] at h;obtain⟨⟨hk,hv⟩,ht⟩:=h;obtain⟨r,hr,h1,h2⟩:=vp L u w us es (i+1) ht;have hq:=L.eql u v w;rw[←hk] at hq
  have e1:(kV K (key u) (e :: es) i).run P w=if decide (u=v)=true then .ok (some (i,e.val)) w else(kV K (key u) es (i+1)).run P w:=by
   show((Op.equal K (key u) e.key).bind fun c=>if c=true then Sem.pure (some (i,e.val)) else kV K (key u) es (i+1)).run P w=_;rw[Sem.run_bind',hq]
   by_cases h:u=v<;>simp[h,Sem.run,FH]
  by_cases huv:u=v
  ·subst huv;refine⟨some (i,aA true),?_,fun _=>⟨i,rfl⟩,fun h=>absurd (List.mem_cons_self ..) h⟩;rw[e1,if_pos (by simp),hv]
  ·refine⟨r,?_,fun h=>h1 ((List.mem_cons.1 h).resolve_left huv),fun h=>h2 fun h'=>h (List.mem_cons_of_mem _ h')⟩;rw[e1,if_neg (by simpa using huv),hr]
theorem Bx(L:xV P T K E key)(u:Int)(w:ar){us:List Int}{es:List ue}(h:es.map (fun e:ue=>(e.key,e.val))=us.map (fun u=>(key u,Value.bool true))) :
  ∃r,(uN K (key u) es).run P w=.ok r w∧(u∈us→∃j,r=some (j,aA true))∧(u ∉ us→r=none):=by
 obtain⟨d,hd,hs⟩:=L.plain;obtain⟨r,hr,h1,h2⟩:=vp L u w us es 0 h
 have hu:(je K).run P w=.ok d w:=by
  exact run_underlying hd w
 have e1:(uN K (key u) es).run P w=(match Instr.findNow d (key u) es 0 with|some r=>Sem.pure r|none=>kV K (key u) es 0).run P w:=by
  show((je K).bind _).run P w=_;rw[Sem.run_bind',hu];rfl
 cases es with
 |nil=>
  have:us=[]:=by simpa using h.symm
  subst this;exact⟨none,by rw[e1];rfl,by simp,by simp⟩
 |cons e es=>
  refine⟨r,?_,h1,h2⟩;rw[e1]
  have:Instr.findNow d (key u) (e :: es) 0=none:=by
   simp only[Instr.findNow,hs]
  rw[this];exact hr
theorem Di(L:xV P T K E key){w:ar}{b:Nat}{us:List Int}(h:mD w b key us)(u:Int) :
  (Instr.lookup T (.map (some b)) (key u) false).run P w=.ok (aA (decide (u∈us))) w:=by
 obtain⟨es,clock,hb,he⟩:=h;obtain⟨r,hr,h1,h2⟩:=Bx L u w he
 have hu:(je T).run P w=.ok (.map K E) w:=by
  exact run_underlying L.map w
 have hck:=L.check es.isEmpty u w;have hz:=L.zero w;have hg:(getObj b).run P w=.ok (.map es clock) w:=by simp only[getObj,Sem.run,hb]
 unfold Instr.lookup;show((je T).bind _).run P w=_;rw[Sem.run_bind',hu]
 by_cases hm:u∈us
 ·obtain⟨j,rfl⟩:=h1 hm;simp[FH,hg,hck,hr,hm]
 ·obtain rfl:=h2 hm;simp[FH,hg,hck,hr,hm,hz]
theorem Dh(L:xV P T K E key){w:ar}{b:Nat}{us:List Int}(h:mD w b key us)(u:Int)(hu':u ∉ us) :
  ∃es clock,(zM T (.map (some b)) (key u) (aA true)).run P w=.ok () (setBlock w b (.map es clock))∧mD (setBlock w b (.map es clock)) b key (us ++ [u]):=by
 obtain⟨es,clock,hb,he⟩:=h;obtain⟨r,hr,h1,h2⟩:=Bx L u w he;obtain rfl:=h2 hu'
 have hu:(je T).run P w=.ok (.map K E) w:=by
  exact run_underlying L.map w
 have hck:=L.check false u w;refine⟨es.push { key:=key u,val:=aA true,born:=clock },clock+1,?_,?_⟩
 ·unfold zM;show((je T).bind _).run P w=_;rw[Sem.run_bind',hu];have hg:(getObj b).run P w=.ok (.map es clock) w:=by simp only[getObj,Sem.run,hb]
  simp[FH,hg,hck,hr,setObj,Sem.run,hb,setBlock]
 ·refine⟨es.push { key:=key u,val:=aA true,born:=clock },clock+1,?_,by simp[he]⟩;have hlt:b<w.heap.size:=(aj.1 hb).1;simp[setBlock,hlt]
theorem mD.keep{w w':ar}{b:Nat}{us:List Int}(h:mD w b key us)(hk:w'.heap[b]?=w.heap[b]?):mD w' b key us:=by
 obtain⟨es,clock,hb,he⟩:=h;exact⟨es,clock,hk.trans hb,he⟩
theorem mD.lt{w:ar}{b:Nat}{us:List Int}(h:mD w b key us):b<w.heap.size:=by
 obtain⟨es,clock,hb,he⟩:=h;exact(aj.1 hb).1
theorem mD.below{w w':ar}{b:Nat}{us:List Int}(h:mD w b key us)(hb:RowKit.Below w.heap.size w w'):mD w' b key us:=h.keep (hb.block b h.lt)
theorem mD.made(w:ar)(key:Int→ak):mD (w.alloc (.map #[] 0)) w.heap.size key []:=⟨#[],0,(MapKept.heap_alloc w _).1,rfl⟩
theorem m9(w:ar){ops:Array Oper}{rest:List Oper}{o:Oper}{a:Act}{Q:Exit→Act→ar→Prop}(hg:o.guard=none)(m x:Operand)(t:bg)(hop:o.op=Op.lookup t m x false)
  (L:xV P t K E key) (b:Nat) {us:List Int} (hm:a.eval m=.map (some b)) (hown:mD w b key us) (u:Int) (hx:a.eval x=key u)
  (hK:wpList P ops Q rest (a.put o.dst (aA (decide (u∈us)))) w):wpList P ops Q (o :: rest) a w:=by
 refine wpList_plain hg fun K' hK'=>?_;have hrun:=Di L hown u;unfold Oper.wp;simp[execOp,hop,hm,hx,hrun,FH];exact hK' _ _ (by simpa using hK)
theorem qW(w:ar){ops:Array Oper}{rest:List Oper}{o:Oper}{a:Act}{Q:Exit→Act→ar→Prop}(hg:o.guard=none)(m x v:Operand)(t:bg)(hop:o.op=Op.mapUpdate t m x v)
  (L:xV P t K E key) (b:Nat) {us:List Int} (hm:a.eval m=.map (some b)) (hown:mD w b key us) (u:Int) (hx:a.eval x=key u) (hv:a.eval v=aA true) (hu:u ∉ us)
  (hK : ∀w',mD w' b key (us ++ [u])→w.grownBy w' (some b)→wpList P ops Q rest (a.put o.dst undef) w'):wpList P ops Q (o :: rest) a w:=by
 refine wpList_plain hg fun K' hK'=>?_;obtain⟨es,clock,hrun,uB⟩:=Dh L hown u hu;obtain⟨es0,aeE,hb,_⟩:=hown;unfold Oper.wp;simp[execOp,hop,hm,hx,hv,hrun,FH];exact hK' _ _ (hK _ uB ⟨rfl,rfl,rfl,by simp[setBlock],fun i _ hi=>heap_setBlock_other hb _ (fun e=>hi (by rw[e]))⟩)
end
end Go.Lag
namespace Go.Proofs.YtffladgmkiimjaaGreatDoor
open Go.RowKit Go.Lag
def Reads(w:ar)(v:ak)(n:Nat)(xs:List ak):Prop:=
 (v=ae none 0 0∧n=0∧xs=[])∨∃g off cap,v=ae (some ⟨g,off,none⟩) n cap∧(n≤4294967296∧n≤cap)∧g<w.heap.size∧∀j u,xs[j]?=some u→w.cell? ⟨g,off+j,none⟩=some u
theorem Reads.below{w w':ar}{v:ak}{n:Nat}{xs:List ak}(h:Reads w v n xs)(hb:aC w.heap.size w w'):Reads w' v n xs:=by
 rcases h with h|⟨g,off,cap,h1,h2,h3,h4⟩
 ·exact bI h
 ·exact .inr ⟨g,off,cap,h1,h2,bE h3 hb.size,fun j u hj=>(hb.cell (p:=⟨g,off+j,none⟩) h3).trans (h4 j u hj)⟩
theorem Reads.jP{w:ar}{B:Nat}{e:bg}{size:Nat}{v:ak}{n:Nat}{xs:List ak}(h:w.ownsRow B e size v n xs)(hn:n≤4294967296)(hs:xs.length=n*size):Reads w v n xs:=by
 have hc:=fun g hg=>h.cells (g:=g) hg;have hl:=h.lt;rcases h.2 with⟨rfl,rfl⟩|⟨g,cap,cur,rfl,h2⟩
 ·refine bI ⟨rfl,rfl,by simpa using hs⟩
 ·refine .inr ⟨g,0,cap,rfl,⟨hn,h2.2.2.1⟩,(hl g rfl).2,fun j u hj=>?_⟩;have:=hc g rfl j u hj;cases j<;>simpa [l5] using this
def lr(b:BB):List Int→Nat→Int
 |[],_=>-1
 |n :: r,k=>if b.Sd n<b.least then k else lr b r (k+1)
theorem IJ(b:BB)(xs:List Int)(k:Nat)(hk:k<xs.length):lr b (xs.drop k) k=if b.Sd xs[k]<b.least then(k:Int) else lr b (xs.drop (k+1)) (k+1):=by
 rw[dW hk];rfl
theorem KI(b:BB)(xs:List Int):lr b (xs.drop xs.length) xs.length = -1:=by simp[lr]
theorem EC(b:BB) : ∀(xs:List Int) (k:Nat),-1≤lr b xs k∧lr b xs k≤k+xs.length:=by
 intro xs
 induction xs with
 |nil=>intro k;simp only[lr];constructor<;>simp<;>omega
 |cons n r ih=>
  intro k;simp only[lr];have:=ih (k+1);split
  ·simp;omega
  ·simp at this ⊢;omega
theorem Hx(b:BB)(hb:b.Ok)(men sent marks:ak)(xs:List Int)(KY : ∀x∈xs,0≤x∧x≤999)(hlen:xs.length≤1000)(v:ak)(B:Nat)(w:ar)(hv:Reads w v xs.length (xs.map (aM ag)))
  (jG:w.heap[B]?=some (au (b.cells men sent marks) 119 (0,0))) :
  bp aq 170 #[v,.func (.func 171) #[] #[a8 (some ⟨B,0,none⟩)]] w fun e w'=>e=aG (ah ag (lr b xs 0))∧aC w.heap.size w w':=by
 have HK:=ai jG;clear jG;rcases hv with⟨rfl,hn,hx0⟩|⟨g,off,cap,rfl,hn,hg,hc⟩
 ·obtain rfl:xs=[]:=by simpa using hx0
  clear hx0 hn
  go_enter Tryz.func170,Tryz.ntmps170
  go_wp2
  go_loopw [8] (fun i wr=>i=ah ag 0∧aC w.heap.size w wr) (fun _ _=>0)
  case atStart=>exact⟨rfl,aw _ _⟩
  case round=>
   obtain⟨rfl,eA⟩:=hrel;go_wp2
   go_ret
   exact⟨rfl,eA⟩
 ·have HC:=ai hc;clear hc;generalize hL:xs.length=L at *;have HL:=ai hL;clear hL
  go_enter Tryz.func170,Tryz.ntmps170
  go_wp2
  go_loopw [5,8] (fun _ i wr=>∃k:Nat,k≤L∧i=ah ag k∧lr b xs 0=lr b (xs.drop k) k∧aC w.heap.size w wr) (fun _ i _=>L - (intOf i).toNat)
  case atStart=>exact⟨0,by omega,rfl,rfl,aw _ _⟩
  case round=>
   obtain⟨k,hk,rfl,lx,eA⟩:=hrel;have hB1:=eA.size
   by_cases hlt:k<L
   ·have kH:k<xs.length:=by rw[HL.out];exact hlt
    have hcell:wr.cell? ⟨g,off+k,none⟩=some (ah ag xs[k]):=(eA.cell (p:=⟨g,off+k,none⟩) hg).trans (HC.out k _ (by simp[kH]))
    have jG:wr.heap[B]?=some (au (b.cells men sent marks) 119 (0,0)):=by
     rw[eA.block B (aj.1 HK.out).1];exact HK.out
    have hx:=KY xs[k] (cz kH);have hT:=KH b hb men sent marks xs[k] hx B wr jG;have hst:=IJ b xs k kH;rw[hst] at lx;clear hst;generalize xs[k]=x at *
    by_cases hd:b.Sd x<b.least
    ·rw[if_pos hd] at lx;rw[decide_eq_true hd] at hT;have HB:=ai lx;have HT:=ai hT;clear lx hT hd jG
     go_wp2_with (go_at_call 171;refine HT.out.mono ?_;rintro e w2 ⟨rfl,hb2⟩)
     go_ret
     exact⟨il HB.out.symm,eA.trans (hb2.mono hB1)⟩
    ·rw[if_neg hd] at lx;rw[decide_eq_false hd] at hT;have HB:=ai lx;have HT:=ai hT;clear lx hT hd jG
     go_wp2_with (go_at_call 171;refine HT.out.mono ?_;rintro e w2 ⟨rfl,hb2⟩)
     go_roundw
     case rel=>exact⟨k+1,by omega,by go_num,HB.out,eA.trans (hb2.mono hB1)⟩
     case measure=>simp[intOf];omega
   ·obtain rfl:k=L:=by omega
    have e1:lr b xs 0 = -1:=by rw[lx,←HL.out];exact KI b xs
    have HE:=ai e1;clear e1 lx;go_wp2
    go_ret
    exact⟨il HE.out.symm,eA⟩
def BB.bad(b:BB)(used:Int)(p:Nat):Int:=1+lr b (b.m6 used p b.minutes.toNat) 0
theorem II(b:BB)(hb:b.Ok)(men sent marks:ak)(a:eV)(ha:a.Ok)(p:Nat)(hp:p<512)(w:ar) :
  bp aq 118 #[aQ (b.cells men sent marks),aQ a.cells,ah ag p] w fun e w'=>e=aG (ah ag (b.bad (b.cu+a.used) p))∧aC w.heap.size w w':=by
 have Ac:=hb.minutes;have W8:=hb.cu;have hu:0≤b.cu+a.used:=by have:=ha.leak;have:=ha.m0;have:=ha.m1;have:=ha.m2;unfold eV.used;omega
 have yQ:=EC b (b.m6 (b.cu+a.used) p b.minutes.toNat) 0;rw[b.uZ] at yQ;have RH:=b.MI hb hu p
 go_enter Tryz.func118,Tryz.ntmps118
 go_wp2_with fail
 refine(Dt b hb men sent marks a ha p hp _).mono ?_;rintro e w1 ⟨v,rfl,hown,hb1⟩
 have jG:w1.heap[w.heap.size]?=some (au (b.cells men sent marks) 119 (0,0)):=by
  rw[hb1.block _ (by simp;omega)];exact ub _ _ _
 have mC:=Reads.jP hown (by omega) (by simp[b.uZ])
 have hI:=Hx b hb men sent marks (b.m6 (b.cu+a.used) p b.minutes.toNat) (fun x hx=>by
  obtain⟨i,_,rfl⟩:=List.mem_map.1 hx
  have:=RH (i+1);omega) (by rw[b.uZ];omega) v w.heap.size w1 (by rw[b.uZ];exact mC) jG
 have HI:=ai hI;have hs1:=hb1.size;simp at hs1;clear hI jG mC hown RH
 go_wp2_with (go_at_call 170;refine HI.out.mono ?_;rintro e w2 ⟨rfl,hb2⟩)
 go_ret
 exact⟨il rfl,((((aw _ _).alloc (ay _) _).alloc (by simp) _).trans (hb1.mono (by simp;omega))).trans (hb2.mono (by omega))⟩
def z7(u:Int):Value:=aQ #[ah ag u,ah ag 0,ah ag 0,ah ag 0]
theorem X7(u v:Int)(w:ar):(Op.equal 134 (z7 u) (z7 v)).run aq w=.ok (decide (u=v)) w:=by
 have ht:Tryz.prog.underlying 134=some (.struct (Tryz.prog.fieldsOf 134)):=by kernel_rfl
 have hp:Tryz.prog.stoodInHeld 134=false:=by kernel_rfl
 have hf:(Tryz.prog.fieldsOf 134).toList=[{ name:= "leak",type:=3,offset:=0,embedded:=false,tag:= "",pkgPath:= "lagan/bell",byteOffset:=0 },{ name:= "men",type:=132,offset:=1,embedded:=false,tag:= "",pkgPath:= "lagan/bell",byteOffset:=8 }]:=by kernel_rfl
 have p1 : ∀x w,(part 3 #[ah ag x,ah ag 0,ah ag 0,ah ag 0] 0).run aq w=.ok (ah ag x) w:=fun _ _=>by kernel_rfl
 have p2 : ∀x w,(part 132 #[ah ag x,ah ag 0,ah ag 0,ah ag 0] 1).run aq w=.ok (aQ #[ah ag 0,ah ag 0,ah ag 0]) w:=fun _ _=>by kernel_rfl
 have e1:(Op.equalIn 9999 3 (ah ag u) (ah ag v)).run aq w=.ok (u==v) w:=by kernel_rfl
 have e2:(Op.equalIn 9999 132 (aQ #[ah ag 0,ah ag 0,ah ag 0]) (aQ #[ah ag 0,ah ag 0,ah ag 0])).run aq w=.ok true w:=by kernel_rfl
 unfold Op.equal z7;rw[show Op.maxDepth=9999+1 from rfl,run_equalIn_struct w 9999 134 _ _ ht hp,hf]
 have n1:("leak" : String)≠ "_":=by decide
 have n2:("men" : String)≠ "_":=by decide
 simp only[Op.eqFields,n1,n2,ne_eq,not_false_eq_true,if_true,Sem.run_bind,p1,p2,e1,Result.andThen_ok]
 by_cases h:u=v
 ·subst h;simp only[beq_self_eq_true,Bool.not_true,bF,if_false];simp[p2 u w,e2]
 ·simp[h]
theorem C7:xV aq 177 134 4 z7:=
 ⟨Tryz.underlying177,⟨_,Tryz.underlying134,fun _ _=>rfl⟩,fun _ _ _=>by kernel_rfl,X7,fun _=>by kernel_rfl⟩
abbrev BB.open(b:BB)(men sent marks all:ak):Array Value:=b.cells men sent marks ++ #[all]
def rowOf(l:List eV):List Value:=l.flatMap fun a=>a.cells.toList
theorem Oe(l:List eV):(rowOf l).length=4*l.length:=by
 induction l with
 |nil=>rfl
 |cons a l ih=>simp[rowOf,eV.cells] at ih ⊢;omega
theorem rY : ∀(l:List eV) (k j:Nat) (hk:k<l.length),j<4→(rowOf l)[4*k+j]?=l[k].cells[j]?
 |[],k,j,hk,_=>by simp at hk
 |a :: l,0,j,_,hj=>by
  have:rowOf (a :: l)=a.cells.toList ++ rowOf l:=rfl;rw[this,zI (by simp;omega)];simp
 |a :: l,k+1,j,hk,hj=>by
  have e:rowOf (a :: l)=a.cells.toList ++ rowOf l:=rfl;rw[e,List.getElem?_append_right (by simp;omega)];have:=rY l k j (by simpa using hk) hj;simp only[List.getElem_cons_succ];rw[←this]
  congr 1
  simp;omega
def BB.sure(b:BB)(all:List eV)(p:Nat):Bool:=all.all fun a=>decide (b.bad (b.cu+a.used) p≤0)
theorem N0(b:BB)(all:List eV)(p k:Nat)(hk:k<all.length):b.sure (all.drop k) p=(decide (b.bad (b.cu+all[k].used) p≤0)&&b.sure (all.drop (k+1)) p):=by
 rw[dW hk];rfl
theorem Reads.cell{w:ar}{g off n cap:Nat}{l:List eV}(hc : ∀j u,(rowOf l)[j]?=some u→w.cell? ⟨g,off+j,none⟩=some u)(k:Nat)(hk:k<l.length) :
  w.cell? ⟨g,off+k*4,none⟩=some (ah ag l[k].leak)∧w.cell? ⟨g,off+k*4+1,none⟩=some (ah ag l[k].m0)∧w.cell? ⟨g,off+k*4+2,none⟩=some (ah ag l[k].m1)∧w.cell? ⟨g,off+k*4+3,none⟩=some (ah ag l[k].m2):=
 ⟨hc (k*4) _ (by have:=rY l k 0 hk (by omega);rw[uL];simpa using this),hc (k*4+1) _ (by rw[uL,rY l k 1 hk (by omega)];rfl),hc (k*4+2) _ (by rw[uL,rY l k 2 hk (by omega)];rfl),hc (k*4+3) _ (by rw[uL,rY l k 3 hk (by omega)];rfl)⟩
theorem jF{w:ar}{B:Nat}{b:BB}{men sent marks all:ak}{T:bg}(h:w.heap[B]?=some (au (b.open men sent marks all) T (0,0))) :
  w.cell? ⟨B,0,none⟩=some (ah ag b.room)∧w.cell? ⟨B,1,none⟩=some (ah ag b.depth)∧w.cell? ⟨B,2,none⟩=some (ah ag b.least)∧w.cell? ⟨B,3,none⟩=some (ah ag b.minutes)∧w.cell? ⟨B,4,none⟩=some (ah ag b.cu)∧w.cell? ⟨B,5,none⟩=some (ah ag b.iB)∧w.cell? ⟨B,6,none⟩=some (ah ag b.ek)∧
  w.cell? ⟨B,7,none⟩=some (ah ag b.ji)∧w.cell? ⟨B,8,none⟩=some (ah ag b.ll)∧w.cell? ⟨B,9,none⟩=some (ah ag b.lm)∧w.cell? ⟨B,10,none⟩=some (ah ag b.pl)∧w.cell? ⟨B,11,none⟩=some (ah ag b.pm)∧w.cell? ⟨B,12,none⟩=some men∧w.cell? ⟨B,13,none⟩=some sent∧w.cell? ⟨B,14,none⟩=some marks∧w.cell? ⟨B,15,none⟩=some all:=by
 unfold dU;simp only[h];exact⟨rfl,rfl,rfl,rfl,rfl,rfl,rfl,rfl,rfl,rfl,rfl,rfl,rfl,rfl,rfl,rfl⟩
theorem qm{w:ar}{B:Nat}{a:eV}{T:bg}(h:w.heap[B]?=some (au a.cells T (0,0))) :
  w.cell? ⟨B,0,none⟩=some (ah ag a.leak)∧w.cell? ⟨B,1,none⟩=some (ah ag a.m0)∧w.cell? ⟨B,2,none⟩=some (ah ag a.m1)∧w.cell? ⟨B,3,none⟩=some (ah ag a.m2):=by
 unfold dU;simp only[h];exact⟨rfl,rfl,rfl,rfl⟩
theorem C2{w wr w2 w3:ar}{X O O2:Obj}(h0:wr.heap[w.heap.size]?=some X)(hsz:w.heap.size+1<wr.heap.size)(hb2:aC (wr.alloc O).heap.size (wr.alloc O) w2)(hg:(w2.alloc O2).grownBy w3 (some (w.heap.size+1))) :
  w3.heap[w.heap.size]?=some X∧w3.heap[wr.heap.size]?=some O:=by
 have hs2:=hb2.size;simp at hs2;constructor
 ·rw[hg.block _ (by simp;omega) (by simp),aX _ _ _ (by omega),hb2.block _ (by simp;omega),aX _ _ _ (by omega)];exact h0
 ·rw[hg.block _ (by simp;omega) (by simp;omega),aX _ _ _ (by omega),hb2.block _ (by simp)];exact ax wr O
end Go.Proofs.YtffladgmkiimjaaGreatDoor
namespace Go.Lag
open Go Go.RowKit
theorem mD.alloc{w:ar}{b:Nat}{key:Int→ak}{us:List Int}(h:mD w b key us)(o:Obj):mD (w.alloc o) b key us:=h.keep (by
 have:=(MapKept.heap_alloc w o).2 b;exact aX _ _ _ h.lt)
end Go.Lag
namespace Go.Proofs.YtffladgmkiimjaaGreatDoor
open Go.RowKit Go.Lag
theorem xi(b:BB)(hb:b.Ok)(men sent marks v:ak)(l:List eV)(hl : ∀a∈l,a.Ok)(p:Nat)(hp:p<512)(w:ar)(hv:Reads w v l.length (rowOf l)) :
  bp aq 105 #[aQ (b.open men sent marks v),ah ag p] w fun e w'=>e=aG (aA (b.sure l p))∧aC w.heap.size w w':=by
 rcases hv with⟨rfl,hn,hx0⟩|⟨g,off,cap,rfl,hn,hg,hc⟩
 ·obtain rfl:l=[]:=aZ hn;clear hn hx0;have hmm:=@run_makeMap aq
  go_enter Tryz.func105,Tryz.ntmps105
  go_wp2
  go_loopw [13] (fun i wr=>i=ah ag 0∧aC w.heap.size w wr) (fun _ _=>0)
  case atStart=>exact⟨rfl,((aw _ _).alloc (ay _) _).alloc (by simp) _⟩
  case round=>
   obtain⟨rfl,eA⟩:=hrel;go_wp2
   go_ret
   exact⟨rfl,eA⟩
 ·have HC:=ai hc;clear hc;generalize hL:l.length=L at *;have HL:=ai hL;clear hL;have hmm:=@run_makeMap aq
  go_enter Tryz.func105,Tryz.ntmps105
  go_wp2;clear hmm
  go_loopw [7,8,13] (fun _ _ i wr=>∃(k:Nat) (us:List Int),k≤L∧i=ah ag k∧mD wr (w.heap.size+1) z7 us∧(∀u∈us,b.bad (b.cu+u) p≤0)∧b.sure l p=b.sure (l.drop k) p∧aC (w.heap.size+1) (w.alloc (au (b.open men sent marks (ae (some ⟨g,off,none⟩) L cap)) 122)) wr) (fun _ _ i _=>L - (intOf i).toNat)
  case atStart=>exact⟨0,[],by omega,rfl,by have:=mD.made (w.alloc (au (b.open men sent marks (ae (some ⟨g,off,none⟩) L cap)) 122)) z7;simpa using this,by simp,rfl,(aw _ _).alloc (by simp) _⟩
  case round=>
   obtain⟨k,us,hk,rfl,uB,hus,JU,eA⟩:=hrel
   by_cases hlt:k<L
   ·have kH:k<l.length:=by rw[HL.out];exact hlt
    have CH : ∀o,wr.cell? ⟨g,o,none⟩=w.cell? ⟨g,o,none⟩:=fun o=>(eA.cell (p:=⟨g,o,none⟩) (by show g<_;omega)).trans (eF _ _ _ hg);obtain⟨hc0,hc1,hc2,hc3⟩:=Reads.cell (w:=wr) (cap:=cap) (n:=L) (fun j u hj=>(CH _).trans (HC.out j u hj)) k kH;clear CH;have ha:=hl l[k] (cz kH);have Vu:=N0 b l p k kH;rw[Vu] at JU;clear Vu;generalize l[k]=a at *
    have jG:wr.heap[w.heap.size]?=some (au (b.open men sent marks (ae (some ⟨g,off,none⟩) L cap)) 122 (0,0)):=by
     rw[eA.block _ (by omega)];exact ax w _
    have hsz:=eA.size;simp at hsz;have HS:=ai JU;have HU:=ai hus;clear JU hus;have hU:=Jj a ha
    by_cases hm:a.used∈us
    ·have lx:=HU.out a.used hm
     go_wp2_with (first
      |(go_at_call 165;refine(hU _).mono ?_;rintro e w2 ⟨rfl,hb2⟩;have Bu:=(uB.alloc _).below hb2)
      |(at_lookup;refine m9 _ rfl _ _ 177 rfl C7 (w.heap.size+1) rfl (Bu.alloc _) a.used rfl ?_))
     have hs2:=hb2.size;simp at hs2;go_roundw
     case rel=>
      exact⟨k+1,us,by omega,by go_num,Bu.alloc _,HU.out,by rw[HS.out,decide_eq_true lx];rfl,((eA.alloc (by omega) _).trans (hb2.mono (by simp;omega))).alloc (by omega) _⟩
     case measure=>simp[intOf];omega
    ·have hB:=II b hb men sent marks a ha p hp;obtain⟨bd,yQ⟩ : ∃bd,b.bad (b.cu+a.used) p=bd:=⟨_,rfl⟩
     simp only[yQ] at hB;have HBD:=ai yQ;clear yQ
     by_cases lx:bd≤0
     ·have uM:decide (0<bd)=false:=by simp;omega
      have HB:=ai lx;clear lx
      go_wp2_with (first
       |(go_at_call 165;refine(hU _).mono ?_;rintro e w2 ⟨rfl,hb2⟩;have Bu:=(uB.alloc _).below hb2)
       |(at_lookup;refine m9 _ rfl _ _ 177 rfl C7 (w.heap.size+1) rfl (Bu.alloc _) a.used rfl ?_)
       |(at_mapUpdate;refine qW _ rfl _ _ _ 177 rfl C7 (w.heap.size+1) rfl (Bu.alloc _) a.used rfl rfl hm ?_;intro w3 Nq Ia;obtain⟨hxx,hyy⟩:=C2 jG uB.lt hb2 Ia;have hx3:=jF hxx;have XB:=qm (a:=a) hyy;obtain⟨x0,x1,x2,x3,x4,x5,x6,x7,x8,x9,nG,nE,oh,nM,nQ,YY⟩:=hx3;obtain⟨y0,y1,y2,y3⟩:=XB)
       |(go_at_call 118;refine(hB _).mono ?_;rintro e w4 ⟨rfl,hb4⟩))
      have hlt3:=uB.lt;have hs2:=hb2.size;have ZY:=hb4.size;have hs3:=Nq.lt;have hg3:=Ia.size;simp at hs2 hg3;have Nx:=(((eA.alloc (by omega) _).trans (hb2.mono (by simp;omega))).alloc (by omega) _).grown Ia (by simp;omega) (fun j e=>by cases e;exact ay _);have hB4:=Nx.trans (hb4.mono (by omega));clear Nx Ia;go_roundw
      case rel=>
       refine⟨k+1,us ++ [a.used],by omega,by go_num,Nq.below hb4,fun u hu=>?_,?_,hB4⟩
       ·rcases List.mem_append.1 hu with h|h
        ·exact HU.out u h
        ·rw[List.mem_singleton.1 h,HBD.out];exact HB.out
       ·rw[HS.out,HBD.out,decide_eq_true HB.out];rfl
      case measure=>simp[intOf];omega
     ·have uM:decide (0<bd)=true:=by simp;omega
      have HB:=ai lx;clear lx
      go_wp2_with (first
       |(go_at_call 165;refine(hU _).mono ?_;rintro e w2 ⟨rfl,hb2⟩;have Bu:=(uB.alloc _).below hb2)
       |(at_lookup;refine m9 _ rfl _ _ 177 rfl C7 (w.heap.size+1) rfl (Bu.alloc _) a.used rfl ?_)
       |(at_mapUpdate;refine qW _ rfl _ _ _ 177 rfl C7 (w.heap.size+1) rfl (Bu.alloc _) a.used rfl rfl hm ?_;intro w3 Nq Ia;obtain⟨hxx,hyy⟩:=C2 jG uB.lt hb2 Ia;have hx3:=jF hxx;have XB:=qm (a:=a) hyy;obtain⟨x0,x1,x2,x3,x4,x5,x6,x7,x8,x9,nG,nE,oh,nM,nQ,YY⟩:=hx3;obtain⟨y0,y1,y2,y3⟩:=XB)
       |(go_at_call 118;refine(hB _).mono ?_;rintro e w4 ⟨rfl,hb4⟩))
      have hlt3:=uB.lt;have hs2:=hb2.size;have ZY:=hb4.size;have hs3:=Nq.lt;have hg3:=Ia.size;simp at hs2 hg3;have Nx:=(((eA.alloc (by omega) _).trans (hb2.mono (by simp;omega))).alloc (by omega) _).grown Ia (by simp;omega) (fun j e=>by cases e;exact ay _);have hB4:=Nx.trans (hb4.mono (by omega));clear Nx Ia
      go_ret
      exact⟨qs (by rw[HS.out,HBD.out,decide_eq_false (by have:=HB.out;omega)];rfl),((aw _ _).alloc (ay _) _).trans (hB4.mono (by omega))⟩
   ·obtain rfl:k=L:=by omega
    have e1:b.sure l p=true:=by rw[JU,←HL.out,List.drop_length];rfl
    have HE:=ai e1;clear e1 JU;go_wp2
    go_ret
    exact⟨qs HE.out.symm,((aw _ _).alloc (ay _) _).trans (eA.mono (by omega))⟩
structure Mk where
 minute:Int
 lo:Int
 hi:Int
deriving DecidableEq
abbrev Mk.cells(m:Mk):Array Value:=#[ah ag m.minute,ah ag m.lo,ah ag m.hi]
def eN(l:List Mk):List Value:=l.flatMap fun m=>m.cells.toList
theorem r5(l:List Mk):(eN l).length=3*l.length:=by
 induction l with
 |nil=>rfl
 |cons a l ih=>simp[eN] at ih ⊢;omega
theorem vN : ∀(l:List Mk) (k j:Nat) (hk:k<l.length),j<3→(eN l)[3*k+j]?=l[k].cells[j]?
 |[],k,j,hk,_=>by simp at hk
 |a :: l,0,j,_,hj=>by
  have:eN (a :: l)=a.cells.toList ++ eN l:=rfl;rw[this,zI (by simp;omega)];simp
 |a :: l,k+1,j,hk,hj=>by
  have e:eN (a :: l)=a.cells.toList ++ eN l:=rfl;rw[e,List.getElem?_append_right (by simp;omega)];have:=vN l k j (by simpa using hk) hj;simp only[List.getElem_cons_succ];rw[←this]
  congr 1
  simp;omega
theorem vR{w:ar}{g off:Nat}{l:List Mk}(hc : ∀j u,(eN l)[j]?=some u→w.cell? ⟨g,off+j,none⟩=some u)(k:Nat)(hk:k<l.length) :
  w.cell? ⟨g,off+k*3,none⟩=some (ah ag l[k].minute)∧w.cell? ⟨g,off+k*3+1,none⟩=some (ah ag l[k].lo)∧w.cell? ⟨g,off+k*3+2,none⟩=some (ah ag l[k].hi):=
 ⟨hc (k*3) _ (by have:=vN l k 0 hk (by omega);rw[uL];simpa using this),hc (k*3+1) _ (by rw[uL,vN l k 1 hk (by omega)];rfl),hc (k*3+2) _ (by rw[uL,vN l k 2 hk (by omega)];rfl)⟩
theorem Hm(n m:Int):(if n<m then m else n)=max n m:=by omega
def xU(ss:List Int):Int:=ss.foldl (fun n k=>max n (k+1)) 1
def Cm(n:Int)(ms:List Mk):Int:=ms.foldl (fun n m=>max n (m.minute+1)) n
def dw(ss:List Int)(ms:List Mk):Int:=Cm (xU ss) ms
theorem Gu(ss:List Int)(k:Nat)(hk:k<ss.length):xU (ss.take (k+1))=max (xU (ss.take k)) (ss[k]+1):=by
 unfold xU;rw[cF hk,AW];rfl
theorem Gv(n:Int)(ms:List Mk)(k:Nat)(hk:k<ms.length):Cm n (ms.take (k+1))=max (Cm n (ms.take k)) (ms[k].minute+1):=by
 unfold Cm;rw[cF hk,AW];rfl
theorem D9{α:Type}(f:α→Int)(hi:Int) : ∀(l:List α) (n:Int),(∀a∈l,f a+1≤hi)→n≤hi→n≤l.foldl (fun n k=>max n (f k+1)) n∧l.foldl (fun n k=>max n (f k+1)) n≤hi
 |[],n,_,h=>⟨Int.le_refl _,h⟩
 |a :: l,n,h,hn=>by
  have h1:=D9 f hi l (max n (f a+1)) (fun b hb=>h b (by simp[hb])) (by have:=h a (by simp);omega);simp only[List.foldl_cons];omega
theorem zF(ss:List Int)(h : ∀s∈ss,s≤8):1≤xU ss∧xU ss≤9:=D9 (fun k:Int=>k) 9 ss 1 (fun a ha=>by have:=h a ha;omega) (by omega)
theorem IG(n:Int)(hn:n≤9)(ms:List Mk)(h : ∀s∈ms,s.minute≤8):n≤Cm n ms∧Cm n ms≤9:=D9 Mk.minute 9 ms n (fun a ha=>by have:=h a ha;omega) hn
theorem PG(ss:List Int)(ms:List Mk)(hs : ∀s∈ss,s≤8)(hm : ∀s∈ms,s.minute≤8):1≤dw ss ms∧dw ss ms≤9:=by
 have h1:=zF ss hs;have h2:=IG (xU ss) h1.2 ms hm;unfold dw;omega
theorem PE(b:BB)(men:ak)(w:ar) :
  bp aq 155 #[aQ (b.cells men (ae none 0 0) (ae none 0 0))] w fun e w'=>e=aG (ah ag (dw [] []))∧aC w.heap.size w w':=by
 have HK:Hid ((w.alloc (au (b.cells men (ae none 0 0) (ae none 0 0)) 119)).heap[w.heap.size]?=some (au (b.cells men (ae none 0 0) (ae none 0 0)) 119 (0,0))):=ai (ax w _)
 go_enter Tryz.func155,Tryz.ntmps155
 go_wp2
 go_loopw [3,5,12] (fun n _ i wr=>i=ah ag 0∧n=ah ag 1∧aC (w.heap.size+1) (w.alloc (au (b.cells men (ae none 0 0) (ae none 0 0)) 119)) wr) (fun _ _ _ _=>0)
 case atStart=>exact⟨rfl,rfl,aw _ _⟩
 case round=>
  obtain⟨rfl,rfl,sw⟩:=hrel;obtain⟨nb,H7⟩ : ∃nb:Int,xU []=nb:=⟨_,rfl⟩
  have WZ:nb=1:=H7.symm;subst WZ;have Yo:=ai H7;clear H7;have Rs:(1:Int)≤9:=by omega
  obtain⟨x0,x1,x2,x3,x4,x5,x6,x7,x8,x9,nG,nE,oh,nM,nQ⟩:=bQ ((sw.block w.heap.size (by omega)).trans HK.out);have hw1:=sw.size;simp at hw1;go_wp2;obtain⟨wo,Np⟩ : ∃wo:ar,wo=wr:=⟨_,rfl⟩
  rw[←Np] at sw ⊢;clear Np
  go_loopw [3,7,25] (fun n _ i wq=>i=ah ag 0∧n=ah ag 1∧aC (w.heap.size+1) (w.alloc (au (b.cells men (ae none 0 0) (ae none 0 0)) 119)) wq) (fun _ _ _ _=>0)
  case atStart=>exact⟨rfl,rfl,sw⟩
  case round=>
   obtain⟨rfl,rfl,xw⟩:=hrel;go_wp2
   go_ret
   exact⟨il (by rw[dw,Yo.out];rfl),((aw _ _).alloc (ay _) _).trans (xw.mono (by omega))⟩
theorem PB(b:BB)(men:ak)(w:ar)(ss:List Int)(pw : ∀s∈ss,1≤s∧s≤8)(gs os S cs:Nat)(hS:ss.length=S)(RI:S≤4294967296)(qA:gs<w.heap.size)(hcs : ∀j u,(ss.map (aM ag))[j]?=some u→w.cell? ⟨gs,os+j,none⟩=some u) :
  bp aq 155 #[aQ (b.cells men (ae (some ⟨gs,os,none⟩) S cs) (ae none 0 0))] w fun e w'=>e=aG (ah ag (dw ss []))∧aC w.heap.size w w':=by
 have HS:=ai hS;have HCS:=ai hcs;have PY:=ai pw;clear hS hcs pw;have HK:Hid ((w.alloc (au (b.cells men (ae (some ⟨gs,os,none⟩) S cs) (ae none 0 0)) 119)).heap[w.heap.size]?=some (au (b.cells men (ae (some ⟨gs,os,none⟩) S cs) (ae none 0 0)) 119 (0,0))):=ai (ax w _)
 go_enter Tryz.func155,Tryz.ntmps155
 go_wp2
 go_loopw [3,5,12] (fun n _ i wr=>∃k:Nat,k≤S∧i=ah ag k∧n=ah ag (xU (ss.take k))∧aC (w.heap.size+1) (w.alloc (au (b.cells men (ae (some ⟨gs,os,none⟩) S cs) (ae none 0 0)) 119)) wr) (fun _ _ i _=>S - (intOf i).toNat)
 case atStart=>exact⟨0,by omega,rfl,rfl,aw _ _⟩
 case round=>
  obtain⟨k,hk,rfl,rfl,sw⟩:=hrel
  by_cases hlt:k<S
  ·have kH:k<ss.length:=by rw[HS.out];exact hlt
   have hcell:wr.cell? ⟨gs,os+k,none⟩=some (ah ag ss[k]):=(sw.cell (p:=⟨gs,os+k,none⟩) (by show gs<_;omega)).trans ((eF _ _ _ qA).trans (HCS.out k _ (by simp[kH])));have hx:=PY.out ss[k] (cz kH);have hst:=Gu ss k kH;have yQ:=zF (ss.take k) (fun s hs=>(PY.out s (fZ hs)).2);generalize ss[k]=x at *;generalize xU (ss.take k)=n at *;have HST:=ai hst;clear hst;go_wp2;go_roundw
   case rel=>exact⟨k+1,by omega,by go_num,by rw[HST.out,Hm],sw⟩
   case measure=>simp[intOf];omega
  obtain rfl:S=k:=by omega
  have yQ:=zF (ss.take S) (fun s hs=>(PY.out s (fZ hs)).2);have tR:ss.take S=ss:=dg (by rw[HS.out];exact ay _);rw[tR] at yQ ⊢;clear tR;obtain⟨nb,H7⟩ : ∃nb:Int,xU ss=nb:=⟨_,rfl⟩
  rw[H7] at yQ ⊢;have Yo:=ai H7;clear H7;have Rs:nb≤9:=yQ.2;have ado:1≤nb:=yQ.1;clear yQ;obtain⟨x0,x1,x2,x3,x4,x5,x6,x7,x8,x9,nG,nE,oh,nM,nQ⟩:=bQ ((sw.block w.heap.size (by omega)).trans HK.out);have hw1:=sw.size;simp at hw1;go_wp2;obtain⟨wo,Np⟩ : ∃wo:ar,wo=wr:=⟨_,rfl⟩
  rw[←Np] at sw ⊢;clear Np
  go_loopw [3,7,25] (fun n _ i wq=>i=ah ag 0∧n=ah ag nb∧aC (w.heap.size+1) (w.alloc (au (b.cells men (ae (some ⟨gs,os,none⟩) S cs) (ae none 0 0)) 119)) wq) (fun _ _ _ _=>0)
  case atStart=>exact⟨rfl,rfl,sw⟩
  case round=>
   obtain⟨rfl,rfl,xw⟩:=hrel;go_wp2
   go_ret
   exact⟨il (by rw[dw,Yo.out];rfl),((aw _ _).alloc (ay _) _).trans (xw.mono (by omega))⟩
theorem PD(b:BB)(men:ak)(w:ar)(ms:List Mk)(JZ : ∀m∈ms,1≤m.minute∧m.minute≤8)(gm om M cm:Nat)(hM:ms.length=M)(XF:M≤4294967296)(Ug:gm<w.heap.size)(hcm : ∀j u,(eN ms)[j]?=some u→w.cell? ⟨gm,om+j,none⟩=some u) :
  bp aq 155 #[aQ (b.cells men (ae none 0 0) (ae (some ⟨gm,om,none⟩) M cm))] w fun e w'=>e=aG (ah ag (dw [] ms))∧aC w.heap.size w w':=by
 have HM:=ai hM;have NQ:=ai hcm;have HMM:=ai JZ;clear hM hcm JZ;have HK:Hid ((w.alloc (au (b.cells men (ae none 0 0) (ae (some ⟨gm,om,none⟩) M cm)) 119)).heap[w.heap.size]?=some (au (b.cells men (ae none 0 0) (ae (some ⟨gm,om,none⟩) M cm)) 119 (0,0))):=ai (ax w _)
 go_enter Tryz.func155,Tryz.ntmps155
 go_wp2
 go_loopw [3,5,12] (fun n _ i wr=>i=ah ag 0∧n=ah ag 1∧aC (w.heap.size+1) (w.alloc (au (b.cells men (ae none 0 0) (ae (some ⟨gm,om,none⟩) M cm)) 119)) wr) (fun _ _ _ _=>0)
 case atStart=>exact⟨rfl,rfl,aw _ _⟩
 case round=>
  obtain⟨rfl,rfl,sw⟩:=hrel;obtain⟨nb,H7⟩ : ∃nb:Int,xU []=nb:=⟨_,rfl⟩
  have WZ:nb=1:=H7.symm;subst WZ;have Yo:=ai H7;clear H7;have Rs:(1:Int)≤9:=by omega
  obtain⟨x0,x1,x2,x3,x4,x5,x6,x7,x8,x9,nG,nE,oh,nM,nQ⟩:=bQ ((sw.block w.heap.size (by omega)).trans HK.out);have hw1:=sw.size;simp at hw1;go_wp2;obtain⟨wo,Np⟩ : ∃wo:ar,wo=wr:=⟨_,rfl⟩
  rw[←Np] at sw ⊢;clear Np
  go_loopw [3,7,25] (fun n _ i wq=>∃k:Nat,k≤M∧i=ah ag k∧n=ah ag (Cm 1 (ms.take k))∧aC (w.heap.size+1) (w.alloc (au (b.cells men (ae none 0 0) (ae (some ⟨gm,om,none⟩) M cm)) 119)) wq) (fun _ _ i _=>M - (intOf i).toNat)
  case atStart=>exact⟨0,by omega,rfl,rfl,sw⟩
  case round=>
   obtain⟨k,hk,rfl,rfl,xw⟩:=hrel
   by_cases hlt:k<M
   ·have kH:k<ms.length:=by rw[HM.out];exact hlt
    have CH : ∀o,wr.cell? ⟨gm,o,none⟩=w.cell? ⟨gm,o,none⟩:=fun o=>(xw.cell (p:=⟨gm,o,none⟩) (by show gm<_;omega)).trans (eF _ _ _ Ug);obtain⟨hc0,hc1,hc2⟩:=vR (w:=wr) (fun j u hj=>(CH _).trans (NQ.out j u hj)) k kH;clear CH;have hx:=HMM.out ms[k] (cz kH);have hst:=Gv 1 ms k kH;have yQ:=IG 1 Rs (ms.take k) (fun s hs=>(HMM.out s (fZ hs)).2);generalize ms[k]=x at *;generalize Cm 1 (ms.take k)=n at *;have HST:=ai hst;clear hst;have hw2:=xw.size;simp at hw2;go_wp2;go_roundw
    case rel=>exact⟨k+1,by omega,by go_num,by rw[HST.out,Hm],xw.alloc (by omega) _⟩
    case measure=>simp[intOf];omega
   obtain rfl:M=k:=by omega
   have tR:ms.take M=ms:=dg (by rw[HM.out];exact ay _);rw[tR];clear tR;obtain⟨nc,Fa⟩ : ∃nc:Int,Cm 1 ms=nc:=⟨_,rfl⟩
   rw[Fa];have HNC:=ai Fa;clear Fa;go_wp2
   go_ret
   exact⟨il (by rw[dw,Yo.out,HNC.out]),((aw _ _).alloc (ay _) _).trans (xw.mono (by omega))⟩
theorem PA(b:BB)(men:ak)(w:ar)(ss:List Int)(pw : ∀s∈ss,1≤s∧s≤8)(gs os S cs:Nat)(hS:ss.length=S)(RI:S≤4294967296)(qA:gs<w.heap.size)(hcs : ∀j u,(ss.map (aM ag))[j]?=some u→w.cell? ⟨gs,os+j,none⟩=some u)(ms:List Mk)(JZ : ∀m∈ms,1≤m.minute∧m.minute≤8)(gm om M cm:Nat)(hM:ms.length=M)(XF:M≤4294967296)(Ug:gm<w.heap.size)(hcm : ∀j u,(eN ms)[j]?=some u→w.cell? ⟨gm,om+j,none⟩=some u) :
  bp aq 155 #[aQ (b.cells men (ae (some ⟨gs,os,none⟩) S cs) (ae (some ⟨gm,om,none⟩) M cm))] w fun e w'=>e=aG (ah ag (dw ss ms))∧aC w.heap.size w w':=by
 have HS:=ai hS;have HCS:=ai hcs;have PY:=ai pw;clear hS hcs pw;have HM:=ai hM;have NQ:=ai hcm;have HMM:=ai JZ;clear hM hcm JZ;have HK:Hid ((w.alloc (au (b.cells men (ae (some ⟨gs,os,none⟩) S cs) (ae (some ⟨gm,om,none⟩) M cm)) 119)).heap[w.heap.size]?=some (au (b.cells men (ae (some ⟨gs,os,none⟩) S cs) (ae (some ⟨gm,om,none⟩) M cm)) 119 (0,0))):=ai (ax w _)
 go_enter Tryz.func155,Tryz.ntmps155
 go_wp2
 go_loopw [3,5,12] (fun n _ i wr=>∃k:Nat,k≤S∧i=ah ag k∧n=ah ag (xU (ss.take k))∧aC (w.heap.size+1) (w.alloc (au (b.cells men (ae (some ⟨gs,os,none⟩) S cs) (ae (some ⟨gm,om,none⟩) M cm)) 119)) wr) (fun _ _ i _=>S - (intOf i).toNat)
 case atStart=>exact⟨0,by omega,rfl,rfl,aw _ _⟩
 case round=>
  obtain⟨k,hk,rfl,rfl,sw⟩:=hrel
  by_cases hlt:k<S
  ·have kH:k<ss.length:=by rw[HS.out];exact hlt
   have hcell:wr.cell? ⟨gs,os+k,none⟩=some (ah ag ss[k]):=(sw.cell (p:=⟨gs,os+k,none⟩) (by show gs<_;omega)).trans ((eF _ _ _ qA).trans (HCS.out k _ (by simp[kH])));have hx:=PY.out ss[k] (cz kH);have hst:=Gu ss k kH;have yQ:=zF (ss.take k) (fun s hs=>(PY.out s (fZ hs)).2);generalize ss[k]=x at *;generalize xU (ss.take k)=n at *;have HST:=ai hst;clear hst;go_wp2;go_roundw
   case rel=>exact⟨k+1,by omega,by go_num,by rw[HST.out,Hm],sw⟩
   case measure=>simp[intOf];omega
  obtain rfl:S=k:=by omega
  have yQ:=zF (ss.take S) (fun s hs=>(PY.out s (fZ hs)).2);have tR:ss.take S=ss:=dg (by rw[HS.out];exact ay _);rw[tR] at yQ ⊢;clear tR;obtain⟨nb,H7⟩ : ∃nb:Int,xU ss=nb:=⟨_,rfl⟩
  rw[H7] at yQ ⊢;have Yo:=ai H7;clear H7;have Rs:nb≤9:=yQ.2;have ado:1≤nb:=yQ.1;clear yQ;obtain⟨x0,x1,x2,x3,x4,x5,x6,x7,x8,x9,nG,nE,oh,nM,nQ⟩:=bQ ((sw.block w.heap.size (by omega)).trans HK.out);have hw1:=sw.size;simp at hw1;go_wp2;obtain⟨wo,Np⟩ : ∃wo:ar,wo=wr:=⟨_,rfl⟩
  rw[←Np] at sw ⊢;clear Np
  go_loopw [3,7,25] (fun n _ i wq=>∃k:Nat,k≤M∧i=ah ag k∧n=ah ag (Cm nb (ms.take k))∧aC (w.heap.size+1) (w.alloc (au (b.cells men (ae (some ⟨gs,os,none⟩) S cs) (ae (some ⟨gm,om,none⟩) M cm)) 119)) wq) (fun _ _ i _=>M - (intOf i).toNat)
  case atStart=>exact⟨0,by omega,rfl,rfl,sw⟩
  case round=>
   obtain⟨k,hk,rfl,rfl,xw⟩:=hrel
   by_cases hlt:k<M
   ·have kH:k<ms.length:=by rw[HM.out];exact hlt
    have CH : ∀o,wr.cell? ⟨gm,o,none⟩=w.cell? ⟨gm,o,none⟩:=fun o=>(xw.cell (p:=⟨gm,o,none⟩) (by show gm<_;omega)).trans (eF _ _ _ Ug);obtain⟨hc0,hc1,hc2⟩:=vR (w:=wr) (fun j u hj=>(CH _).trans (NQ.out j u hj)) k kH;clear CH;have hx:=HMM.out ms[k] (cz kH);have hst:=Gv nb ms k kH;have yQ:=IG nb Rs (ms.take k) (fun s hs=>(HMM.out s (fZ hs)).2);generalize ms[k]=x at *;generalize Cm nb (ms.take k)=n at *;have HST:=ai hst;clear hst;have hw2:=xw.size;simp at hw2;go_wp2;go_roundw
    case rel=>exact⟨k+1,by omega,by go_num,by rw[HST.out,Hm],xw.alloc (by omega) _⟩
    case measure=>simp[intOf];omega
   obtain rfl:M=k:=by omega
   have tR:ms.take M=ms:=dg (by rw[HM.out];exact ay _);rw[tR];clear tR;obtain⟨nc,Fa⟩ : ∃nc:Int,Cm nb ms=nc:=⟨_,rfl⟩
   rw[Fa];have HNC:=ai Fa;clear Fa;go_wp2
   go_ret
   exact⟨il (by rw[dw,Yo.out,HNC.out]),((aw _ _).alloc (ay _) _).trans (xw.mono (by omega))⟩
theorem EB(b:BB)(men sent marks:ak)(ss:List Int)(ms:List Mk)(pw : ∀s∈ss,1≤s∧s≤8)(JZ : ∀m∈ms,1≤m.minute∧m.minute≤8)(w:ar)(hs:Reads w sent ss.length (ss.map (aM ag)))(hm:Reads w marks ms.length (eN ms)) :
  bp aq 155 #[aQ (b.cells men sent marks)] w fun e w'=>e=aG (ah ag (dw ss ms))∧aC w.heap.size w w':=by
 rcases hs with⟨rfl,hn,_⟩|⟨gs,os,cs,rfl,RI,qA,hcs⟩
 ·obtain rfl:=aZ hn;rcases hm with⟨rfl,hn,_⟩|⟨gm,om,cm,rfl,XF,Ug,hcm⟩
  ·obtain rfl:=aZ hn;exact PE b men w
  ·exact PD b men w ms JZ gm om _ cm rfl XF.1 Ug hcm
 ·rcases hm with⟨rfl,hn,_⟩|⟨gm,om,cm,rfl,XF,Ug,hcm⟩
  ·obtain rfl:=aZ hn;exact PB b men w ss pw gs os _ cs rfl RI.1 qA hcs
  ·exact PA b men w ss pw gs os _ cs rfl RI.1 qA hcs ms JZ gm om _ cm rfl XF.1 Ug hcm
def bK(ss:List Int):Nat:=ss.foldl (fun p s=>p ||| 2 ^ s.toNat) 0
theorem Lx(ss:List Int)(k:Nat)(hk:k<ss.length):bK (ss.take (k+1))=bK (ss.take k) ||| 2 ^ ss[k].toNat:=by
 unfold bK;rw[cF hk,AW];rfl
theorem Dw : ∀(l:List Int) (n:Nat),(∀s∈l,1≤s∧s≤8)→n<512→l.foldl (fun p s=>p ||| 2 ^ s.toNat) n<512
 |[],n,_,h=>h
 |a :: l,n,h,hn=>by
  refine Dw l _ (fun s hs=>h s (by simp[hs])) ?_;have ha:=h a (by simp);have:2 ^ a.toNat<2 ^ 9:=Nat.pow_lt_pow_right (by omega) (by omega);exact Nat.or_lt_two_pow (n:=9) hn this
theorem ni(ss:List Int)(h : ∀s∈ss,1≤s∧s≤8):bK ss<512:=Dw ss 0 h (by omega)
theorem lL(ss:List Int)(pw : ∀s∈ss,1≤s∧s≤8)(v:ak)(w:ar)(hv:Reads w v ss.length (ss.map (aM ag))) :
  bp aq 106 #[v] w fun e w'=>e=aG (ah ag (bK ss))∧w=w':=by
 rcases hv with⟨rfl,hn,_⟩|⟨g,off,cap,rfl,hn,hg,hc⟩
 ·obtain rfl:=aZ hn;clear hn
  go_enter Tryz.func106,Tryz.ntmps106
  go_wp2
  go_loop [3,8] (fun p i=>i=ah ag 0∧p=ah ag 0) (fun _ _=>0)
  case atStart=>exact⟨rfl,rfl⟩
  case round=>
   obtain⟨rfl,rfl⟩:=hrel;go_wp2
   go_ret
   exact⟨rfl,rfl⟩
 ·have HC:=ai hc;have PY:=ai pw;clear hc pw;generalize hL:ss.length=L at *;have HL:=ai hL;clear hL
  go_enter Tryz.func106,Tryz.ntmps106
  go_wp2
  go_loop [3,5,8] (fun p _ i=>∃k:Nat,k≤L∧i=ah ag k∧p=ah ag (bK (ss.take k))) (fun _ _ i=>L - (intOf i).toNat)
  case atStart=>exact⟨0,by omega,rfl,rfl⟩
  case round=>
   obtain⟨k,hk,rfl,rfl⟩:=hrel
   by_cases hlt:k<L
   ·have kH:k<ss.length:=by rw[HL.out];exact hlt
    have hcell:w.cell? ⟨g,off+k,none⟩=some (ah ag ss[k]):=HC.out k _ (by simp[kH]);have hx:=PY.out ss[k] (cz kH);have hst:=Lx ss k kH;have yQ:=ni (ss.take k) (fun s hs=>PY.out s (fZ hs));obtain⟨x,hxn⟩ : ∃x:Nat,ss[k]=(x:Int):=⟨ss[k].toNat,by omega⟩
    rw[hxn] at hx hst hcell;clear hxn;generalize bK (ss.take k)=n at *;have HST:=ai hst;clear hst;go_wp2
    go_round
    case rel=>
     refine⟨k+1,by omega,by go_num,?_⟩;rw[HST.out];have h1:(2:Nat) ^ x<512:=Nat.pow_lt_pow_right (m:=x) (n:=9) (by omega) (by omega)
     have h2:wrap64 (2 ^ x)=((2 ^ x:Nat):Int):=by
      have e:(2:Int) ^ x=((2 ^ x:Nat):Int):=by simp
      rw[e,←IntWalk.i64_left];exact fT _ (Int.natCast_nonneg _) (Int.lt_trans (Int.ofNat_lt.2 h1) (by decide))
     rw[h2,Zm n (2 ^ x) (by omega) (by omega),Int.toNat_natCast]
    case measure=>simp[intOf];omega
   ·obtain rfl:k=L:=by omega
    have tR:ss.take k=ss:=dg (by rw[HL.out];exact ay _);rw[tR];clear tR;go_wp2
    go_ret
    exact⟨rfl,rfl⟩
theorem r8(lo hi l m:Int)(w:ar)(h1:l≤lo)(h2:lo≤hi)(h3:hi≤m):bp aq 152 #[aQ #[ah ag lo,ah ag hi],ah ag l,ah ag m] w fun e w'=>e=aG (aA true)∧aC w.heap.size w w':=by
 go_enter Tryz.func152,Tryz.ntmps152
 go_wp2
 go_ret
 exact⟨rfl,(aw _ _).alloc (ay _) _⟩
theorem jk(n l m:Int)(h1:l≤n)(h2:n≤m)(w:ar):bp aq 138 #[ah ag n,ah ag l,ah ag m] w fun e w'=>e=aG (aA true)∧w=w':=by
 have:=qz n l m w;rw[gP.2 ⟨h1,h2⟩] at this;exact this
theorem nw(b:BB)(men sent marks:ak)(n:Int)(h1:1≤n)(h2:n≤b.minutes)(w:ar):bp aq 132 #[aQ (b.cells men sent marks),ah ag n] w fun e w'=>e=aG (aA true)∧aC w.heap.size w w':=by
 go_enter Tryz.func132,Tryz.ntmps132
 go_wp2_with (go_at_call 138;refine(jk _ _ _ (by omega) (by omega) _).mono ?_;rintro e w' ⟨rfl,rfl⟩)
 go_ret
 exact⟨rfl,(aw _ _).alloc (ay _) _⟩
theorem My(b:BB)(hb:b.Ok)(men sent marks:ak)(w:ar):bp aq 218 #[aQ (b.cells men sent marks)] w fun e w'=>e=aG (ah ag 0)∧aC w.heap.size w w':=by
 have h1:=hb.room;have h2:=hb.depth;have h3:=hb.least;have h4:=hb.minutes
 go_enter Tryz.func218,Tryz.ntmps218
 go_wp2_with (go_at_call 138;refine(jk _ _ _ (by omega) (by omega) _).mono ?_;rintro e w' ⟨rfl,rfl⟩)
 go_ret
 exact⟨rfl,(aw _ _).alloc (ay _) _⟩
theorem Mw(b:BB)(hb:b.Ok)(men sent marks:ak)(w:ar):bp aq 219 #[aQ (b.cells men sent marks)] w fun e w'=>e=aG (ah ag 0)∧aC w.heap.size w w':=by
 have h1:=hb.cu;have h2:=hb.iB;have h3:=hb.ji;have h4:=hb.ek;have h5:=hb.leak;have h6:=hb.Lu;have h7:=hb.minutes;have HK:Hid ((w.alloc (au (b.cells men sent marks) 119)).heap[w.heap.size]?=some (au (b.cells men sent marks) 119 (0,0))):=ai (ax w _)
 go_enter Tryz.func219,Tryz.ntmps219
 go_wp2
 go_loopw [4,16] (fun _ i wr=>((i=ah ag 0∨i=ah ag 1)∨(i=ah ag 2∨i=ah ag 3))∧wr=(w.alloc (au (b.cells men sent marks) 119)).alloc (au #[ah ag b.cu,ah ag b.iB,ah ag b.ji] 3)) (fun _ i _=>3 - (intOf i).toNat)
 case atStart=>exact⟨bI (bI rfl),rfl⟩
 case round=>
  obtain⟨hi,rfl⟩:=hrel;rcases hi with(rfl|rfl)|(rfl|rfl)
  ·go_wp2_with (go_at_call 138;refine(jk _ _ _ (by omega) (by omega) _).mono ?_;rintro e w' ⟨rfl,rfl⟩)
   go_roundw
   case rel=>exact⟨bI (.inr rfl),trivial⟩
   case measure=>simp[intOf]
  ·go_wp2_with (go_at_call 138;refine(jk _ _ _ (by omega) (by omega) _).mono ?_;rintro e w' ⟨rfl,rfl⟩)
   go_roundw
   case rel=>exact⟨.inr (bI rfl),trivial⟩
   case measure=>simp[intOf]
  ·go_wp2_with (go_at_call 138;refine(jk _ _ _ (by omega) (by omega) _).mono ?_;rintro e w' ⟨rfl,rfl⟩)
   go_roundw
   case rel=>exact⟨.inr (.inr rfl),trivial⟩
   case measure=>simp[intOf]
  ·go_wp2_with (go_at_call 138;refine(jk _ _ _ (by omega) (by omega) _).mono ?_;rintro e w' ⟨rfl,rfl⟩)
   go_at_call 152
   refine(r8 _ _ _ _ _ (by omega) (by omega) (by omega)).mono ?_;rintro e w2 ⟨rfl,hb2⟩;have hk2:w2.heap[w.heap.size]?=some (au (b.cells men sent marks) 119 (0,0)):=(hb2.block _ (by simp;omega)).trans ((aX _ _ _ (by simp)).trans HK.out);have hs2:=hb2.size;simp at hs2;obtain⟨x0,x1,x2,x3,x4,x5,x6,x7,x8,x9,nG,nE,oh,nM,nQ⟩:=bQ hk2
   go_wp2_with fail
   refine(r8 _ _ _ _ _ (by omega) (by omega) (by omega)).mono ?_;rintro e w3 ⟨rfl,hb3⟩;clear x0 x1 x2 x3 x4 x5 x6 x7 x8 x9 nG nE oh nM nQ;obtain⟨x0,x1,x2,x3,x4,x5,x6,x7,x8,x9,nG,nE,oh,nM,nQ⟩:=bQ ((hb3.block _ (by omega)).trans hk2);go_wp2
   go_ret
   exact⟨rfl,((((aw _ _).alloc (ay _) _).alloc (by simp) _).trans (hb2.mono (by simp;omega))).trans (hb3.mono (by omega))⟩
structure fp(b:BB)(pl:List Int):Prop where
 mem : ∀p∈pl,1≤p∧p≤b.minutes
 asc : ∀(k:Nat) (h:k+1<pl.length),pl[k]<pl[k+1]
 len:(pl.length:Int)≤b.ek
theorem tL(b:BB)(hb:b.Ok)(men sent marks v:ak)(pl:List Int)(hp:fp b pl)(w:ar)(hv:Reads w v pl.length (pl.map (aM ag))) :
  bp aq 113 #[aQ (b.cells men sent marks),v] w fun e w'=>e=aG (ah ag 0)∧aC w.heap.size w w':=by
 have hc3:=hb.ek;have Ac:=hb.minutes;have HP:=ai hp;rcases hv with⟨rfl,hn,_⟩|⟨g,off,cap,rfl,hn,hg,hc⟩
 ·obtain rfl:=aZ hn;clear hn hp;have HK:Hid ((w.alloc (au (b.cells men sent marks) 119)).heap[w.heap.size]?=some (au (b.cells men sent marks) 119 (0,0))):=ai (ax w _)
  go_enter Tryz.func113,Tryz.ntmps113
  go_wp2
  go_loopw [9] (fun i wr=>i=ah ag 0∧aC (w.heap.size+1) (w.alloc (au (b.cells men sent marks) 119)) wr) (fun _ _=>0)
  case atStart=>exact⟨rfl,aw _ _⟩
  case round=>
   obtain⟨rfl,eA⟩:=hrel;obtain⟨x0,x1,x2,x3,x4,x5,x6,x7,x8,x9,nG,nE,oh,nM,nQ⟩:=bQ ((eA.block w.heap.size (by omega)).trans HK.out);go_wp2
   go_ret
   exact⟨rfl,((aw _ _).alloc (ay _) _).trans (eA.mono (by omega))⟩
 ·have HC:=ai hc;have hlen:=hp.len;clear hc hp;generalize hL:pl.length=L at *;have HL:=ai hL;clear hL;have HK:Hid ((w.alloc (au (b.cells men sent marks) 119)).heap[w.heap.size]?=some (au (b.cells men sent marks) 119 (0,0))):=ai (ax w _)
  go_enter Tryz.func113,Tryz.ntmps113
  go_wp2
  go_loopw [5,6,9,14,19] (fun _ _ i _ _ wr=>∃k:Nat,k≤L∧i=ah ag k∧aC (w.heap.size+1) (w.alloc (au (b.cells men sent marks) 119)) wr) (fun _ _ i _ _ _=>L - (intOf i).toNat)
  case atStart=>exact⟨0,by omega,rfl,aw _ _⟩
  case round=>
   obtain⟨k,hk,rfl,eA⟩:=hrel;have hsz:=eA.size;simp at hsz;have TY:w.heap.size<wr.heap.size:=by omega
   have hk2:wr.heap[w.heap.size]?=some (au (b.cells men sent marks) 119 (0,0)):=(eA.block w.heap.size (by omega)).trans HK.out;obtain⟨x0,x1,x2,x3,x4,x5,x6,x7,x8,x9,nG,nE,oh,nM,nQ⟩:=bQ hk2
   by_cases hlt:k<L
   ·have kH:k<pl.length:=by rw[HL.out];exact hlt
    have CH : ∀o,wr.cell? ⟨g,o,none⟩=w.cell? ⟨g,o,none⟩:=fun o=>(eA.cell (p:=⟨g,o,none⟩) (by show g<_;omega)).trans (eF _ _ _ hg);have hcell:wr.cell? ⟨g,off+k,none⟩=some (ah ag pl[k]):=(CH _).trans (HC.out k _ (by simp[kH]));have hx:=HP.out.mem pl[k] (cz kH)
    by_cases h0:k=0
    ·have uM:decide ((0:Int)<(k:Int))=false:=decide_eq_false (by omega);have aik:decide (0<k)=false:=decide_eq_false (by omega);have H0:=ai h0;clear h0;clear CH;generalize pl[k]=x at *;have FC:=ai hk2;clear hk2
     go_wp2_with fail
     refine(nw b men sent marks x hx.1 hx.2 _).mono ?_;rintro e w2 ⟨rfl,hb2⟩;go_wp2;go_roundw
     case rel=>exact⟨k+1,by omega,by go_num,eA.trans (hb2.mono (by omega))⟩
     case measure=>simp[intOf];omega
    ·obtain⟨j,rfl⟩ : ∃j,k=j+1:=⟨k - 1,by omega⟩
     have hcj:wr.cell? ⟨g,off+j,none⟩=some (ah ag pl[j]):=(CH _).trans (HC.out j _ (by simp[show j<pl.length by omega]));have has:=HP.out.asc j kH;have HGW:=ai CH;clear CH;generalize pl[j+1]=x at *;generalize pl[j]=y at *;have FC:=ai hk2;clear hk2;have uM:decide ((0:Int)<((j+1:Nat):Int))=true:=decide_eq_true (by omega);have hjj:IntKind.i64.wrap (((j+1:Nat):Int) - 1)=(j:Int):=by rw[show((j+1:Nat):Int) - 1=(j:Int) by omega];exact fT _ (by omega) (by omega)
     go_wp2_with fail
     refine(nw b men sent marks x hx.1 hx.2 _).mono ?_;rintro e w2 ⟨rfl,hb2⟩;have hc2:w2.cell? ⟨g,off+j,none⟩=some (ah ag y):=(hb2.cell (p:=⟨g,off+j,none⟩) (by show g<_;omega)).trans hcj;go_wp2;go_roundw
     case rel=>exact⟨j+1+1,by omega,by go_num,eA.trans (hb2.mono (by omega))⟩
     case measure=>simp[intOf];omega
   ·obtain rfl:L=k:=by omega
    go_wp2
    go_ret
    exact⟨rfl,((aw _ _).alloc (ay _) _).trans (eA.mono (by omega))⟩
theorem Mx(b:BB)(hb:b.Ok)(men sent marks:ak)(pl:List Int)(hp:fp b pl)(w:ar)(hv:Reads w sent pl.length (pl.map (aM ag))) :
  bp aq 221 #[aQ (b.cells men sent marks)] w fun e w'=>e=aG (ah ag 0)∧aC w.heap.size w w':=by
 have hv1:Reads (w.alloc (au (b.cells men sent marks) 119)) sent pl.length (pl.map (aM ag)):=hv.below ((aw _ _).alloc (ay _) _);have hP:=tL b hb men sent marks sent pl hp _ hv1;clear hv hv1
 go_enter Tryz.func221,Tryz.ntmps221
 go_wp2_with (go_at_call 113;refine hP.mono ?_;rintro e w2 ⟨rfl,hb2⟩)
 go_ret
 exact⟨rfl,((aw _ _).alloc (ay _) _).trans (hb2.mono (by simp))⟩
structure lu(b:BB)(ms:List Mk):Prop where
 mem : ∀m∈ms,1≤m.minute∧m.minute≤b.minutes∧0≤m.lo∧m.lo≤m.hi∧m.hi≤99
 len:ms.length≤3
theorem Kz(b:BB)(hb:b.Ok)(men sent marks:ak)(ms:List Mk)(hm:lu b ms)(w:ar)(hv:Reads w marks ms.length (eN ms)) :
  bp aq 222 #[aQ (b.cells men sent marks)] w fun e w'=>e=aG (ah ag 0)∧aC w.heap.size w w':=by
 have Ac:=hb.minutes;have HM:=ai hm;have h3:=hm.len;rcases hv with⟨rfl,hn,_⟩|⟨g,off,cap,rfl,hn,hg,hc⟩
 ·obtain rfl:=aZ hn;clear hn hm h3;have HK:Hid ((w.alloc (au (b.cells men sent (ae none 0 0)) 119)).heap[w.heap.size]?=some (au (b.cells men sent (ae none 0 0)) 119 (0,0))):=ai (ax w _)
  go_enter Tryz.func222,Tryz.ntmps222
  go_wp2
  go_loopw [14] (fun i wr=>i=ah ag 0∧aC (w.heap.size+1) (w.alloc (au (b.cells men sent (ae none 0 0)) 119)) wr) (fun _ _=>0)
  case atStart=>exact⟨rfl,aw _ _⟩
  case round=>
   obtain⟨rfl,eA⟩:=hrel;go_wp2
   go_ret
   exact⟨rfl,((aw _ _).alloc (ay _) _).trans (eA.mono (by omega))⟩
 ·have HC:=ai hc;clear hc hm;generalize hL:ms.length=L at *;have HL:=ai hL;clear hL;have HK:Hid ((w.alloc (au (b.cells men sent (ae (some ⟨g,off,none⟩) L cap)) 119)).heap[w.heap.size]?=some (au (b.cells men sent (ae (some ⟨g,off,none⟩) L cap)) 119 (0,0))):=ai (ax w _)
  go_enter Tryz.func222,Tryz.ntmps222
  go_wp2
  go_loopw [4,14,18,24] (fun _ i _ _ wr=>∃k:Nat,k≤L∧i=ah ag k∧aC (w.heap.size+1) (w.alloc (au (b.cells men sent (ae (some ⟨g,off,none⟩) L cap)) 119)) wr) (fun _ i _ _ _=>L - (intOf i).toNat)
  case atStart=>exact⟨0,by omega,rfl,aw _ _⟩
  case round=>
   obtain⟨k,hk,rfl,eA⟩:=hrel;have hsz:=eA.size;simp at hsz;have TY:w.heap.size<wr.heap.size:=by omega
   have hk2:wr.heap[w.heap.size]?=some (au (b.cells men sent (ae (some ⟨g,off,none⟩) L cap)) 119 (0,0)):=(eA.block w.heap.size (by omega)).trans HK.out;obtain⟨x0,x1,x2,x3,x4,x5,x6,x7,x8,x9,nG,nE,oh,nM,nQ⟩:=bQ hk2
   by_cases hlt:k<L
   ·have kH:k<ms.length:=by rw[HL.out];exact hlt
    have CH : ∀o,wr.cell? ⟨g,o,none⟩=w.cell? ⟨g,o,none⟩:=fun o=>(eA.cell (p:=⟨g,o,none⟩) (by show g<_;omega)).trans (eF _ _ _ hg);obtain⟨y0,y1,y2⟩:=vR (w:=wr) (fun j u hj=>(CH _).trans (HC.out j u hj)) k kH;have hx:=HM.out.mem ms[k] (cz kH);clear CH;generalize ms[k]=x at *;have FC:=ai hk2;clear hk2
    go_wp2_with fail
    refine(nw b men sent _ x.minute (by omega) (by omega) _).mono ?_;rintro e w2 ⟨rfl,hb2⟩;have Ri:w2.heap[wr.heap.size]?=some (au x.cells 81 (0,0)):=(hb2.block _ (by simp)).trans (ax wr _);have z0:w2.cell? ⟨wr.heap.size,0,none⟩=some (ah ag x.minute):=by unfold dU;rw[Ri];rfl
    have z1:w2.cell? ⟨wr.heap.size,1,none⟩=some (ah ag x.lo):=by unfold dU;rw[Ri];rfl
    have z2:w2.cell? ⟨wr.heap.size,2,none⟩=some (ah ag x.hi):=by unfold dU;rw[Ri];rfl
    clear Ri;have hs2:=hb2.size;simp at hs2
    go_wp2_with (go_at_call 152;refine(r8 _ _ _ _ _ (by omega) (by omega) (by omega)).mono ?_;rintro e w3 ⟨rfl,hb3⟩)
    go_roundw
    case rel=>exact⟨k+1,by omega,by go_num,((eA.alloc (by omega) _).trans (hb2.mono (by simp;omega))).trans (hb3.mono (by omega))⟩
    case measure=>simp[intOf];omega
   ·obtain rfl:L=k:=by omega
    go_wp2
    go_ret
    exact⟨rfl,((aw _ _).alloc (ay _) _).trans (eA.mono (by omega))⟩
structure IV(s:ByteArray):Prop where
 size:1≤s.size∧s.size≤12
 chr : ∀(k:Nat) (h:k<s.size),(97≤s[k].toNat∧s[k].toNat≤122)∨(k≠0∧48≤s[k].toNat∧s[k].toNat≤57)
theorem IC(s:ByteArray)(cap k:Nat)(h:k<s.size):(bytesRow s cap)[k]?=some (ah .u8 (s[k].toNat:Int)):=by
 unfold bytesRow;have hd:k<s.data.size:=h;rw[Array.getElem?_append_left (by simpa using hd),Array.getElem?_map,aR hd];rfl
theorem Q9(s:ByteArray)(hs:IV s)(w:ar):bp aq 223 #[.string s] w fun e w'=>e=aG (aA true)∧aC w.heap.size w w':=by
 have Vv:=run_bytes_of_string (P:=aq) w 9 234 5 s Tryz.underlying9 Tryz.underlying234 Tryz.underlying5;have h1:=hs.size;have HS:=ai hs;generalize grownCap w s.size 0 5=cap at *;have hC:=IC s cap;generalize bytesRow s cap=C at *;obtain⟨n,hn⟩ : ∃n,s.size=n:=⟨_,rfl⟩
 rw[hn] at Vv h1;have HN:=ai hn;have HC:=ai hC;clear hn hC hs;have hB1:aC w.heap.size w (w.drew.alloc (au C 5 (C.size,C.size+1))):=(aw _ _).drew.alloc (by simp) _
 go_enter Tryz.func223,Tryz.ntmps223
 go_wp2;clear Vv
 go_loopw [3,4,8] (fun _ _ i wr=>∃k:Nat,k≤n∧i=ah ag k∧wr=(w.alloc (au C 5 (C.size,C.size+1))).drew) (fun _ _ i _=>n - (intOf i).toNat)
 case atStart=>exact⟨0,by omega,rfl,rfl⟩
 case round=>
  obtain⟨k,hk,rfl,rfl⟩:=hrel
  by_cases hlt:k<n
  ·have kH:k<s.size:=by rw[HN.out];exact hlt
   have hck:=HC.out k kH
   have hcell:(w.alloc (au C 5 (C.size,C.size+1))).cell? ⟨w.heap.size,k,none⟩=some (ah .u8 (s[k].toNat:Int)):=by
    unfold dU;rw[ax];exact hck
   have hch:=HS.out.chr k kH;have aib:s[k].toNat<256:=s[k].toNat_lt;generalize s[k].toNat=c at *;clear hck;have hI:=qz (c:Int) 97 122;have hD:=qz (c:Int) 48 57;have hcv:IntKind.i64.wrap (c:Int)=c:=fT _ (by omega) (by omega);rcases hch with hch|⟨hk0,hch⟩
   ·have e1:aL (c:Int) 97 122=true:=gP.2 ⟨by omega,by omega⟩;rw[e1] at hI;clear hD e1;have HCH:=ai hch;clear hch
    go_wp2_with (go_at_call 138;refine(hI _).mono ?_;rintro e w' ⟨rfl,rfl⟩)
    go_roundw
    case rel=>exact⟨k+1,by omega,by go_num,trivial⟩
    case measure=>simp[intOf];omega
   ·have e1:aL (c:Int) 97 122=false:=by unfold aL;rw[decide_eq_false (by omega)];rfl
    have e2:aL (c:Int) 48 57=true:=gP.2 ⟨by omega,by omega⟩;rw[e1] at hI;rw[e2] at hD;have e3:((k:Int)==0)=false:=by simp;omega
    have e4:(k==0)=false:=by simp;omega
    clear e1 e2;have HCH:=ai hch;have HK0:=ai hk0;clear hch hk0
    go_wp2_with fail
    refine(hI _).mono ?_;rintro e w' ⟨rfl,rfl⟩
    go_wp2_with fail
    refine(hD _).mono ?_;rintro e w' ⟨rfl,rfl⟩;go_wp2;go_roundw
    case rel=>exact⟨k+1,by omega,by go_num,trivial⟩
    case measure=>simp[intOf];omega
  ·obtain rfl:n=k:=by omega
   have hs1:=HS.out.size
   go_wp2_with (go_at_call 138;refine(jk _ _ _ (by omega) (by omega) _).mono ?_;rintro e w' ⟨rfl,rfl⟩)
   go_ret
   exact⟨rfl,((aw _ _).alloc (ay _) _).drew⟩
structure Mn where
 name:ByteArray
 lo:Int
 hi:Int
abbrev Mn.cells(m:Mn):Array Value:=#[.string m.name,ah ag m.lo,ah ag m.hi]
def gu(l:List Mn):List Value:=l.flatMap fun m=>m.cells.toList
theorem vM(l:List Mn):(gu l).length=3*l.length:=by
 induction l with
 |nil=>rfl
 |cons a l ih=>simp[gu] at ih ⊢;omega
theorem rZ : ∀(l:List Mn) (k j:Nat) (hk:k<l.length),j<3→(gu l)[3*k+j]?=l[k].cells[j]?
 |[],k,j,hk,_=>by simp at hk
 |a :: l,0,j,_,hj=>by
  have:gu (a :: l)=a.cells.toList ++ gu l:=rfl;rw[this,zI (by simp;omega)];simp
 |a :: l,k+1,j,hk,hj=>by
  have e:gu (a :: l)=a.cells.toList ++ gu l:=rfl;rw[e,List.getElem?_append_right (by simp;omega)];have:=rZ l k j (by simpa using hk) hj;simp only[List.getElem_cons_succ];rw[←this]
  congr 1
  simp;omega
theorem CG{w:ar}{g off:Nat}{l:List Mn}(hc : ∀j u,(gu l)[j]?=some u→w.cell? ⟨g,off+j,none⟩=some u)(k:Nat)(hk:k<l.length) :
  w.cell? ⟨g,off+k*3,none⟩=some (.string l[k].name)∧w.cell? ⟨g,off+k*3+1,none⟩=some (ah ag l[k].lo)∧w.cell? ⟨g,off+k*3+2,none⟩=some (ah ag l[k].hi):=
 ⟨hc (k*3) _ (by have:=rZ l k 0 hk (by omega);rw[uL];simpa using this),hc (k*3+1) _ (by rw[uL,rZ l k 1 hk (by omega)];rfl),hc (k*3+2) _ (by rw[uL,rZ l k 2 hk (by omega)];rfl)⟩
structure wY(l:List Mn):Prop where
 mem : ∀m∈l,IV m.name∧1≤m.lo∧m.lo≤m.hi∧m.hi≤99∧m.hi - m.lo<3
 apart : ∀(i k:Nat) (hi:i<l.length) (hk:k<l.length),i<k→l[i].name≠l[k].name
 len:l.length≤3
theorem KG{a b:ByteArray}(h:a≠b) : ¬a.toList=b.toList:=by
 intro e;rw[ByteArray.toList_eq,ByteArray.toList_eq] at e;obtain⟨⟨x⟩⟩:=a;obtain⟨⟨y⟩⟩:=b;have:x=y:=e;subst this;exact h rfl
theorem G4(m:Mn)(o:ByteArray)(hne:m.name≠o)(B:Nat)(w:ar)(hB:w.cell? ⟨B,0,none⟩=some (.string o))(hBl:B<w.heap.size):bp aq 225 #[aQ m.cells,a8 (some ⟨B,0,none⟩)] w fun e w'=>e=aG (aA false)∧aC w.heap.size w w':=by
 have H:=ai (KG hne);clear hne
 go_enter Tryz.func225,Tryz.ntmps225
 go_wp2
 go_ret
 exact⟨qs (by simpa using H.out),(aw _ _).alloc (ay _) _⟩
theorem JS(l:List Mn)(o:ByteArray)(hne : ∀m∈l,m.name≠o)(g off L cap B:Nat)(w:ar)(hL:l.length=L)(hL2:L≤4294967296)(hg:g<w.heap.size)(hc : ∀j u,(gu l)[j]?=some u→w.cell? ⟨g,off+j,none⟩=some u)
  (hB:w.cell? ⟨B,0,none⟩=some (.string o)) (hBl:B<w.heap.size) :
  bp aq 226 #[ae (some ⟨g,off,none⟩) L cap,.func (.func 225) #[] #[a8 (some ⟨B,0,none⟩)]] w fun e w'=>e=aG (ah ag (-1))∧aC w.heap.size w w':=by
 have HC:=ai hc;have HN:=ai hne;have HL:=ai hL;have HB:=ai hB;clear hc hne hL hB
 go_enter Tryz.func226,Tryz.ntmps226
 go_wp2
 go_loopw [5,8] (fun _ i wr=>∃k:Nat,k≤L∧i=ah ag k∧aC w.heap.size w wr) (fun _ i _=>L - (intOf i).toNat)
 case atStart=>exact⟨0,by omega,rfl,aw _ _⟩
 case round=>
  obtain⟨k,hk,rfl,eA⟩:=hrel
  by_cases hlt:k<L
  ·have kH:k<l.length:=by rw[HL.out];exact hlt
   have CH : ∀o,wr.cell? ⟨g,o,none⟩=w.cell? ⟨g,o,none⟩:=fun o=>eA.cell (p:=⟨g,o,none⟩) hg;obtain⟨y0,y1,y2⟩:=CG (w:=wr) (fun j u hj=>(CH _).trans (HC.out j u hj)) k kH;have hS:=G4 l[k] o (HN.out _ (cz kH)) B wr ((eA.cell (p:=⟨B,0,none⟩) hBl).trans HB.out) (bE hBl eA.size);clear CH;have hsz:=eA.size;generalize l[k]=x at *
   go_wp2_with (go_at_call 225;refine hS.mono ?_;rintro e w2 ⟨rfl,hb2⟩)
   go_roundw
   case rel=>exact⟨k+1,by omega,by go_num,eA.trans (hb2.mono hsz)⟩
   case measure=>simp[intOf];omega
  ·obtain rfl:L=k:=by omega
   go_wp2
   go_ret
   exact⟨rfl,eA⟩
theorem El(l:List Mn)(o:ByteArray)(hne : ∀m∈l,m.name≠o)(g off L cap B:Nat)(w:ar)(hL:l.length=L)(hL2:L≤4294967296)(hg:g<w.heap.size)(hc : ∀j u,(gu l)[j]?=some u→w.cell? ⟨g,off+j,none⟩=some u)
  (hB:w.cell? ⟨B,0,none⟩=some (.string o)) (hBl:B<w.heap.size) :
  bp aq 224 #[ae (some ⟨g,off,none⟩) L cap,.func (.func 225) #[] #[a8 (some ⟨B,0,none⟩)]] w fun e w'=>e=aG (aA false)∧aC w.heap.size w w':=by
 have hI:=JS l o hne g off L cap B w hL hL2 hg hc hB hBl;clear hne hL hc hB
 go_enter Tryz.func224,Tryz.ntmps224
 go_wp2_with (go_at_call 226;refine hI.mono ?_;rintro e w2 ⟨rfl,hb2⟩)
 go_ret
 exact⟨rfl,hb2⟩
theorem Pt(b:BB)(men sent marks:ak)(l:List Mn)(hl:wY l)(w:ar)(hv:Reads w men l.length (gu l)) :
  bp aq 220 #[aQ (b.cells men sent marks)] w fun e w'=>e=aG (ah ag 0)∧aC w.heap.size w w':=by
 have HM:=ai hl;have h3:=hl.len;rcases hv with⟨rfl,hn,_⟩|⟨g,off,cap,rfl,hn,hg,hc⟩
 ·obtain rfl:=aZ hn;clear hn hl h3
  go_enter Tryz.func220,Tryz.ntmps220
  go_wp2
  go_loopw [14] (fun i wr=>i=ah ag 0∧aC (w.heap.size+1) (w.alloc (au (b.cells (ae none 0 0) sent marks) 119)) wr) (fun _ _=>0)
  case atStart=>exact⟨rfl,aw _ _⟩
  case round=>
   obtain⟨rfl,eA⟩:=hrel;go_wp2
   go_ret
   exact⟨rfl,((aw _ _).alloc (ay _) _).trans (eA.mono (by omega))⟩
 ·have HC:=ai hc;clear hc hl;generalize hL:l.length=L at *;have HL:=ai hL;clear hL;have HK:Hid ((w.alloc (au (b.cells (ae (some ⟨g,off,none⟩) L cap) sent marks) 119)).heap[w.heap.size]?=some (au (b.cells (ae (some ⟨g,off,none⟩) L cap) sent marks) 119 (0,0))):=ai (ax w _)
  go_enter Tryz.func220,Tryz.ntmps220
  go_wp2
  go_loopw [3,4,14,19,24,32] (fun _ _ i _ _ _ wr=>∃k:Nat,k≤L∧i=ah ag k∧aC (w.heap.size+1) (w.alloc (au (b.cells (ae (some ⟨g,off,none⟩) L cap) sent marks) 119)) wr) (fun _ _ i _ _ _ _=>L - (intOf i).toNat)
  case atStart=>exact⟨0,by omega,rfl,aw _ _⟩
  case round=>
   obtain⟨k,hk,rfl,eA⟩:=hrel;have hsz:=eA.size;simp at hsz;have TY:w.heap.size<wr.heap.size:=by omega
   by_cases hlt:k<L
   ·have kH:k<l.length:=by rw[HL.out];exact hlt
    have CH : ∀o,wr.cell? ⟨g,o,none⟩=w.cell? ⟨g,o,none⟩:=fun o=>(eA.cell (p:=⟨g,o,none⟩) (by show g<_;omega)).trans (eF _ _ _ hg);obtain⟨y0,y1,y2⟩:=CG (w:=wr) (fun j u hj=>(CH _).trans (HC.out j u hj)) k kH;obtain⟨OW,hx⟩:=HM.out.mem l[k] (cz kH)
    have hne : ∀m∈l.take k,m.name≠l[k].name:=by
     intro m hm;obtain⟨i,hi,rfl⟩:=List.mem_iff_getElem.1 hm;have hik:i<k:=by simp at hi;omega
     rw[List.getElem_take];exact HM.out.apart i k (by omega) kH hik
    have hrow : ∀(j:Nat) (u:ak),(gu (l.take k))[j]?=some u→(gu l)[j]?=some u:=by
     intro j u hj
     have e:gu l=gu (l.take k) ++ gu (l.drop k):=by
      unfold gu;rw[←List.flatMap_append,List.take_append_drop]
     rw[e,zI (List.getElem?_eq_some_iff.1 hj).1];exact hj
    have HGW:=ai CH;have HNE:=ai hne;have aeR:=ai hrow;have hlk:(l.take k).length=k:=by simp;omega
    have HLK:=ai hlk;have ad8:=Q9 l[k].name OW;clear CH hne hrow hlk OW;generalize l.take k=lk at *;generalize l[k]=x at *;have tv:wr.heap[w.heap.size]?=some (au (b.cells (ae (some ⟨g,off,none⟩) L cap) sent marks) 119 (0,0)):=(eA.block w.heap.size (by omega)).trans HK.out;have HKK:=ai tv;clear tv
    go_wp2_with fail
    refine(ad8 _).mono ?_;rintro e w2 ⟨rfl,hb2⟩;have Ri:w2.heap[wr.heap.size]?=some (au x.cells 79 (0,0)):=(hb2.block _ (by simp)).trans (ax wr _);have z0:w2.cell? ⟨wr.heap.size,0,none⟩=some (.string x.name):=by unfold dU;rw[Ri];rfl
    have hs2:=hb2.size;simp at hs2;have aaA:w2.heap[w.heap.size]?=some (au (b.cells (ae (some ⟨g,off,none⟩) L cap) sent marks) 119 (0,0)):=(hb2.block _ (by simp;omega)).trans ((aX _ _ _ TY).trans HKK.out);have aap : ∀o,w2.cell? ⟨g,o,none⟩=w.cell? ⟨g,o,none⟩:=fun o=>((hb2.cell (p:=⟨g,o,none⟩) (by show g<_;simp;omega)).trans (eF _ _ _ (by show g<_;omega))).trans (HGW.out o);have XH:=El lk x.name HNE.out g off k cap wr.heap.size w2 HLK.out (by omega) (by omega) (fun j u hj=>(aap _).trans (HC.out j u (aeR.out j u hj))) z0 (by omega);obtain⟨x0,x1,x2,x3,x4,x5,x6,x7,x8,x9,nG,nE,oh,nM,nQ⟩:=bQ aaA;have HXK:=ai Ri;clear Ri aap aaA
    go_wp2_with fail
    refine XH.mono ?_;rintro e w3 ⟨rfl,hb3⟩;have TW:w3.heap[wr.heap.size]?=some (au x.cells 79 (0,0)):=(hb3.block _ (by omega)).trans HXK.out;have u1:w3.cell? ⟨wr.heap.size,1,none⟩=some (ah ag x.lo):=by unfold dU;rw[TW];rfl
    have u2:w3.cell? ⟨wr.heap.size,2,none⟩=some (ah ag x.hi):=by unfold dU;rw[TW];rfl
    have ajb:=ai TW;have hs3:=hb3.size;clear TW x0 x1 x2 x3 x4 x5 x6 x7 x8 x9 nG nE oh nM nQ z0
    go_wp2_with fail
    refine(r8 _ _ _ _ _ (by omega) (by omega) (by omega)).mono ?_;rintro e w4 ⟨rfl,hb4⟩;have v1:w4.cell? ⟨wr.heap.size,1,none⟩=some (ah ag x.lo):=(hb4.cell (p:=⟨wr.heap.size,1,none⟩) (by show wr.heap.size<_;omega)).trans u1;have v2:w4.cell? ⟨wr.heap.size,2,none⟩=some (ah ag x.hi):=(hb4.cell (p:=⟨wr.heap.size,2,none⟩) (by show wr.heap.size<_;omega)).trans u2;go_wp2;go_roundw
    case rel=>exact⟨k+1,by omega,by go_num,(((eA.alloc (by omega) _).trans (hb2.mono (by simp;omega))).trans (hb3.mono (by omega))).trans (hb4.mono (by omega))⟩
    case measure=>simp[intOf];omega
   ·obtain rfl:L=k:=by omega
    go_wp2
    go_ret
    exact⟨rfl,((aw _ _).alloc (ay _) _).trans (eA.mono (by omega))⟩
section
variable(P:Program)(w:ar)(a:Addr)(m:Mode)
@[go_sem] theorem Qi (f:Fn) (c d:Array ak):(store a (.func f c d) m).run P w=stored P w a (.func f c d) m:=run_store P w a _ m rfl
end
structure Laid(w:ar):Prop where
 c0:w.cell? ⟨0,0,none⟩=some (.func (.func 218) #[] #[])
 c1:w.cell? ⟨0,1,none⟩=some (.func (.func 219) #[] #[])
 c2:w.cell? ⟨0,2,none⟩=some (.func (.func 220) #[] #[])
 c3:w.cell? ⟨0,3,none⟩=some (.func (.func 221) #[] #[])
 c4:w.cell? ⟨0,4,none⟩=some (.func (.func 222) #[] #[])
 lt:0<w.heap.size
theorem Laid.below{w w':ar}(h:Laid w)(hb:aC w.heap.size w w'):Laid w':=
 ⟨(hb.cell (p:=⟨0,0,none⟩) h.lt).trans h.c0,(hb.cell (p:=⟨0,1,none⟩) h.lt).trans h.c1,(hb.cell (p:=⟨0,2,none⟩) h.lt).trans h.c2,(hb.cell (p:=⟨0,3,none⟩) h.lt).trans h.c3,(hb.cell (p:=⟨0,4,none⟩) h.lt).trans h.c4,bE h.lt hb.size⟩
structure cK(b:BB)(men sent marks:ak)(ml:List Mn)(ss:List Int)(ms:List Mk)(w:ar):Prop where
 ok:b.Ok
 iw:wY ml
 mL:fp b ss
 lh:lu b ms
 rm:Reads w men ml.length (gu ml)
 rs:Reads w sent ss.length (ss.map (aM ag))
 rk:Reads w marks ms.length (eN ms)
theorem cK.below{b:BB}{men sent marks:ak}{ml:List Mn}{ss:List Int}{ms:List Mk}{w w':ar}(h:cK b men sent marks ml ss ms w)(hb:aC w.heap.size w w'):cK b men sent marks ml ss ms w':=
 ⟨h.ok,h.iw,h.mL,h.lh,h.rm.below hb,h.rs.below hb,h.rk.below hb⟩
theorem fV(b:BB)(men sent marks:ak)(ml:List Mn)(ss:List Int)(ms:List Mk)(w:ar)(hL:Laid w)(hB:cK b men sent marks ml ss ms w) :
  bp aq 71 #[aQ (b.cells men sent marks)] w fun e w'=>e=aG (ah ag 0)∧aC w.heap.size w w':=by
 obtain⟨l0,l1,l2,l3,l4,llt⟩:=hL;have i0 : ∀w,(mS 163 (aQ #[.func (.func 218) #[] #[],.func (.func 219) #[] #[],.func (.func 220) #[] #[],.func (.func 221) #[] #[],.func (.func 222) #[] #[]]) (ah ag 0)).run aq w=.ok (aQ #[.func (.func 218) #[] #[]]) w:=fun _=>by kernel_rfl
 have i1 : ∀w,(mS 163 (aQ #[.func (.func 218) #[] #[],.func (.func 219) #[] #[],.func (.func 220) #[] #[],.func (.func 221) #[] #[],.func (.func 222) #[] #[]]) (ah ag 1)).run aq w=.ok (aQ #[.func (.func 219) #[] #[]]) w:=fun _=>by kernel_rfl
 have i2 : ∀w,(mS 163 (aQ #[.func (.func 218) #[] #[],.func (.func 219) #[] #[],.func (.func 220) #[] #[],.func (.func 221) #[] #[],.func (.func 222) #[] #[]]) (ah ag 2)).run aq w=.ok (aQ #[.func (.func 220) #[] #[]]) w:=fun _=>by kernel_rfl
 have i3 : ∀w,(mS 163 (aQ #[.func (.func 218) #[] #[],.func (.func 219) #[] #[],.func (.func 220) #[] #[],.func (.func 221) #[] #[],.func (.func 222) #[] #[]]) (ah ag 3)).run aq w=.ok (aQ #[.func (.func 221) #[] #[]]) w:=fun _=>by kernel_rfl
 have i4 : ∀w,(mS 163 (aQ #[.func (.func 218) #[] #[],.func (.func 219) #[] #[],.func (.func 220) #[] #[],.func (.func 221) #[] #[],.func (.func 222) #[] #[]]) (ah ag 4)).run aq w=.ok (aQ #[.func (.func 222) #[] #[]]) w:=fun _=>by kernel_rfl
 have HK:Hid ((w.alloc (au (b.cells men sent marks) 28)).heap[w.heap.size]?=some (au (b.cells men sent marks) 28 (0,0))):=ai (ax w _)
 go_enter Tryz.func71,Tryz.ntmps71
 go_wp2
 go_loopw [4,5,7] (fun _ _ i wr=>((i=ah ag 0∨i=ah ag 1)∨(i=ah ag 2∨i=ah ag 3)∨(i=ah ag 4∨i=ah ag 5))∧aC (w.heap.size+1) (w.alloc (au (b.cells men sent marks) 28)) wr) (fun _ _ i _=>5 - (intOf i).toNat)
 case atStart=>exact⟨bI (bI rfl),aw _ _⟩
 case round=>
  obtain⟨hi,eA⟩:=hrel;have hsz:=eA.size;simp at hsz;have TY:w.heap.size<wr.heap.size:=by omega
  have uC:aC w.heap.size w wr:=((aw _ _).alloc (ay _) _).trans (eA.mono (by omega));have hB2:=hB.below uC;obtain⟨x0,x1,x2,x3,x4,x5,x6,x7,x8,x9,nG,nE,oh,nM,nQ⟩:=bQ ((eA.block w.heap.size (by omega)).trans HK.out);clear uC l0 l1 l2 l3 l4;rcases hi with(rfl|rfl)|(rfl|rfl)|(rfl|rfl)
  ·go_wp2_with (go_at_call 218;refine(My b hB2.ok men sent marks _).mono ?_;rintro e w2 ⟨rfl,hb2⟩)
   have hs2:=hb2.size;simp at hs2;go_roundw
   case rel=>exact⟨bI (.inr rfl),(eA.alloc (by omega) _).trans (hb2.mono (by simp;omega))⟩
   case measure=>simp[intOf]
  ·go_wp2_with (go_at_call 219;refine(Mw b hB2.ok men sent marks _).mono ?_;rintro e w2 ⟨rfl,hb2⟩)
   have hs2:=hb2.size;simp at hs2;go_roundw
   case rel=>exact⟨.inr (bI (bI rfl)),(eA.alloc (by omega) _).trans (hb2.mono (by simp;omega))⟩
   case measure=>simp[intOf]
  ·go_wp2_with (go_at_call 220;refine(Pt b men sent marks ml hB2.iw _ (hB2.rm.below ((aw _ _).alloc (ay _) _))).mono ?_;rintro e w2 ⟨rfl,hb2⟩)
   have hs2:=hb2.size;simp at hs2;go_roundw
   case rel=>exact⟨.inr (bI (.inr rfl)),(eA.alloc (by omega) _).trans (hb2.mono (by simp;omega))⟩
   case measure=>simp[intOf]
  ·go_wp2_with (go_at_call 221;refine(Mx b hB2.ok men sent marks ss hB2.mL _ (hB2.rs.below ((aw _ _).alloc (ay _) _))).mono ?_;rintro e w2 ⟨rfl,hb2⟩)
   have hs2:=hb2.size;simp at hs2;go_roundw
   case rel=>exact⟨.inr (.inr (bI rfl)),(eA.alloc (by omega) _).trans (hb2.mono (by simp;omega))⟩
   case measure=>simp[intOf]
  ·go_wp2_with (go_at_call 222;refine(Kz b hB2.ok men sent marks ms hB2.lh _ (hB2.rk.below ((aw _ _).alloc (ay _) _))).mono ?_;rintro e w2 ⟨rfl,hb2⟩)
   have hs2:=hb2.size;simp at hs2;go_roundw
   case rel=>exact⟨.inr (.inr (.inr rfl)),(eA.alloc (by omega) _).trans (hb2.mono (by simp;omega))⟩
   case measure=>simp[intOf]
  ·go_wp2
   go_ret
   exact⟨rfl,((aw _ _).alloc (ay _) _).trans (eA.mono (by omega))⟩
open Go Go.RowKit Go.Lag Go.ChangeShapes
abbrev JQ:List (String × DataW Unit):=[("lagan/bell.checks",Rows.laid_lagan_bell_checks)]
theorem OJ:Tryz.prog.globalNamed "lagan/bell.checks" = some 0:=by kernel_rfl
theorem Q5:(Tryz.prog.globals[0]?).map (·.type)=some 163:=by kernel_rfl
theorem yI{W:ar}{n:Nat}{cs:List ak}{i:Nat}{f0:FuncId}{b:UInt8}{r:List UInt8}{xs:List (DataW (List UInt8) × List MemPlace)}(hlen:cs.length=5)(hi:i<5)
  (hel : ∀(i:Nat),i<5→DataW.trod (funcToken aq) aq W 0 (fun _=>true) true n 162 ((cs.drop (i*1)).take 1)=xs[i]?) {q:List MemPlace} (hx:xs[i]?=some (.agg [.held (b :: r)],q))
  (Z9:((bf Tryz.prog.funcs.size).filter fun f=>(Tryz.prog.funcs[f]?).any (·.name.toUTF8.data.toList==b :: r))=[f0]):cs[i]?=some (.func (.func f0) #[] #[]):=by
 have h:=hel i hi;rw[hx] at h;obtain⟨ys,m,-,hy,-,hl,hf⟩:=DataW.trod_struct Tryz.underlying162 h;have h0:=hf 0 _ rfl;have hl:ys.length=1:=hl
 match ys,hl with
 |[y],_=>
  have aeH:Tryz.prog.cellsOf 125=1:=by kernel_rfl
  simp only[di,List.map_nil,Prod.mk.injEq,DataW.agg.injEq,List.cons.injEq,and_true] at hy
  have e:List.take 1 (List.drop 0 (List.take 1 (List.drop (i*1) cs)))=[cs[i]'(by omega)]:=by
   rw[Nat.mul_one,dW (l:=cs) (i:=i) (by omega)];rfl
  have h0':DataW.trod (funcToken aq) aq W 0 (fun _=>true) true m 125 (List.take (Tryz.prog.cellsOf 125) (List.drop 0 (List.take 1 (List.drop (i*1) cs))))=some y:=h0;rw[aeH,e] at h0';have h1:DataW.trod (funcToken aq) aq W 0 (fun _=>true) true m 125 [cs[i]'(by omega)]=some (.held (b :: r),y.2):=by rw[h0',hy.1]
  have:=func_of_trod Tryz.underlying125 Z9 h1;rw[lZ (by omega),this]
theorem TJ{W:ar}(h:laidMetH aq JQ W):Laid W:=by
 obtain⟨g,t,cs,fuel,p,hg,ht,hv,htr⟩:=laidMetH.funcs h (.head _);obtain rfl:=bt (OJ.symm.trans hg);obtain rfl:=bt (Q5.symm.trans ht);obtain⟨xs,m,-,hx,hlen,hxl,hel⟩:=DataW.trod_array Tryz.underlying163 htr;have aeF:Tryz.prog.cellsOf 163=5:=by kernel_rfl
 have aeG:Tryz.prog.cellsOf 162=1:=by kernel_rfl
 rw[aeF] at hlen;simp only[aeG] at hel;simp only[Prod.mk.injEq] at hx;have hx:=hx.1;simp only[DataW.funcsOut,DataW.funcsOutAll,DataW.agg.injEq] at hx
 match xs,hxl with
 |[x0,x1,x2,x3,x4],_=>
  simp only[di,List.map_nil,List.cons.injEq,and_true] at hx;obtain⟨y0,y1,y2,y3,y4⟩:=hx;have hc:=World.var?_cell hg hv;have hs : ∀(i:Nat) (u:ak),cs.toList[i]?=some u→W.cell? ⟨0,i,none⟩=some u:=fun i u h=>(hc i).trans (by rw[←Array.getElem?_toList];exact h);have z0:=hs 0 _ (yI (f0:=218) (q:=x0.2) hlen (by decide) hel (congrArg some (Prod.ext y0.symm rfl)) (by kernel_rfl));have z1:=hs 1 _ (yI (f0:=219) (q:=x1.2) hlen (by decide) hel (congrArg some (Prod.ext y1.symm rfl)) (by kernel_rfl));have z2:=hs 2 _ (yI (f0:=220) (q:=x2.2) hlen (by decide) hel (congrArg some (Prod.ext y2.symm rfl)) (by kernel_rfl));have z3:=hs 3 _ (yI (f0:=221) (q:=x3.2) hlen (by decide) hel (congrArg some (Prod.ext y3.symm rfl)) (by kernel_rfl));have z4:=hs 4 _ (yI (f0:=222) (q:=x4.2) hlen (by decide) hel (congrArg some (Prod.ext y4.symm rfl)) (by kernel_rfl));exact⟨z0,z1,z2,z3,z4,Nat.lt_of_not_le fun h=>by rw[dU,fX h] at z0;cases z0⟩
open Go Go.RowKit Go.Lag Go.ChangeShapes Go.WideShapes
theorem aeB:Tryz.prog.cellTypes Tryz.prog.depth 28=some [3,3,3,3,3,3,3,3,3,3,3,3,24,25,26]:=by kernel_rfl
theorem aeD:Tryz.prog.cellsOf 28=15:=by kernel_rfl
theorem aeC:Tryz.prog.cellsOf 79=3:=by kernel_rfl
def SliceAt(W:ar)(v:ak):Prop:=v=.slice none 0 0∨∃g off n c,v=.slice (some ⟨g,off,none⟩) n c∧n≤c∧g<W.heap.size
theorem Qb{W:ar}{base:Nat}{t e:bg}{v:ak}(ht:Tryz.prog.underlying t=some (.slice e))(h:Cell.okWide aq W .any base t v):SliceAt W v:=by
 unfold Cell.okWide Cell.ok at h;rw[ht] at h;cases v<;>simp only at h<;>try exact h.elim
 rename_i p n c;cases p with
 |none=>
  cases n<;>cases c<;>simp only at h<;>first|exact h.elim|exact .inl rfl
 |some a=>
  obtain⟨h1,h2,-,h3,row,cells,h4,-⟩:=h;obtain⟨b,o,s⟩:=a;cases h3;refine .inr ⟨b,o,n,c,rfl,h1,?_⟩;unfold World.shape? at h4
  by_cases hb:b<W.heap.size
  ·exact hb
  ·rw[fX (show W.heap.size≤b from Nat.le_of_not_lt hb)] at h4;simp at h4
theorem Rb{W:ar}{base:Nat}{t:bg}{k:IntKind}{v:ak}(ht:Tryz.prog.underlying t=some (.int k))(h:Cell.okWide aq W .any base t v) : ∃x,v=.int k x∧k.has x:=by
 unfold Cell.okWide Cell.ok at h;rw[ht] at h;cases v<;>simp only at h<;>try exact h.elim
 obtain⟨rfl,h⟩:=h;exact⟨_,rfl,h⟩
theorem UF{W:ar}{base:Nat}{v:ak}(h:Value.okWide aq W .any base 28 v) : ∃(b:BB) (m s k:ak),v=.agg (b.cells m s k)∧SliceAt W m∧SliceAt W s∧SliceAt W k:=by
 unfold Value.okWide at h;rw[aT] at h;obtain⟨cs,rfl,hc,ts,YD,-,hall⟩:=h;rw[aeB] at YD;cases YD;rw[aeD] at hc
 have hi : ∀i (h:i<12),∃x,cs[i]?=some (.int .i64 x):=by
  intro i h;have hl:i<cs.size:=by omega
  obtain⟨u,hu,cZ⟩:=hall i _ (aR hl)
  have h3:u=3:=by
   rw[Nat.mod_eq_of_lt (by simp;omega)] at hu
   match i,h,hu with
   |0,_,hu|1,_,hu|2,_,hu|3,_,hu|4,_,hu|5,_,hu|6,_,hu|7,_,hu|8,_,hu|9,_,hu|10,_,hu|11,_,hu=>simpa using hu.symm
  subst h3;obtain⟨x,hx,-⟩:=Rb iJ cZ;exact⟨x,(aR hl).trans (congrArg some hx)⟩
 have hs : ∀i t (h:i<15),[3,3,3,3,3,3,3,3,3,3,3,3,24,25,26][i]?=some t→∀e,Tryz.prog.underlying t=some (.slice e)→∃x,cs[i]?=some x∧SliceAt W x:=by
  intro i t h ht e he;have hl:i<cs.size:=by omega
  obtain⟨u,hu,cZ⟩:=hall i _ (aR hl);rw[Nat.mod_eq_of_lt (by simpa using h),ht] at hu;cases hu;exact⟨_,aR hl,Qb he cZ⟩
 obtain⟨x0,e0⟩:=hi 0 (by omega);obtain⟨x1,e1⟩:=hi 1 (by omega);obtain⟨x2,e2⟩:=hi 2 (by omega);obtain⟨x3,e3⟩:=hi 3 (by omega);obtain⟨x4,e4⟩:=hi 4 (by omega);obtain⟨x5,e5⟩:=hi 5 (by omega);obtain⟨x6,e6⟩:=hi 6 (by omega);obtain⟨x7,e7⟩:=hi 7 (by omega);obtain⟨x8,e8⟩:=hi 8 (by omega);obtain⟨x9,e9⟩:=hi 9 (by omega);obtain⟨nG,Io⟩:=hi 10 (by omega);obtain⟨nE,e11⟩:=hi 11 (by omega);obtain⟨m,VE,hm⟩:=hs 12 24 (by omega) rfl _ Tryz.underlying24;obtain⟨s,YP,hs'⟩:=hs 13 25 (by omega) rfl _ iR;obtain⟨k,Ee,hk⟩:=hs 14 26 (by omega) rfl _ Tryz.underlying26;refine⟨⟨x0,x1,x2,x3,x4,x5,x6,x7,x8,x9,nG,nE⟩,m,s,k,?_,hm,hs',hk⟩
 congr 1
 apply Array.ext';apply List.ext_getElem?;intro i
 by_cases h:i<15
 ·rw[Array.getElem?_toList,Array.getElem?_toList]
  match i,h with
  |0,_=>exact e0
  |1,_=>exact e1
  |2,_=>exact e2
  |3,_=>exact e3
  |4,_=>exact e4
  |5,_=>exact e5
  |6,_=>exact e6
  |7,_=>exact e7
  |8,_=>exact e8
  |9,_=>exact e9
  |10,_=>exact Io
  |11,_=>exact e11
  |12,_=>exact VE
  |13,_=>exact YP
  |14,_=>exact Ee
 ·rw[Array.getElem?_toList,Array.getElem?_toList,fX (by omega),fX (by simp;omega)]
theorem Yd{W:ar}{base:Nat}{a:Addr}{cs:List ak}(h:W.cells? base a 3=some cs) : ∃x y z,cs=[x,y,z]∧W.cell? (a.add 0)=some x∧W.cell? (a.add 1)=some y∧W.cell? (a.add 2)=some z:=by
 unfold World.cells? at h;split at h
 ·simp only[show bf 3=[0,1,2] from rfl,List.mapM_cons,List.mapM_nil] at h;cases h0:W.cell? (a.add 0)<;>rw[h0] at h<;>simp at h;cases h1:W.cell? (a.add 1)<;>rw[h1] at h<;>simp at h;cases h2:W.cell? (a.add 2)<;>rw[h2] at h<;>simp at h;exact⟨_,_,_,h.symm,rfl,rfl,rfl⟩
 ·cases h
theorem KP(g off k:Nat):(⟨g,off,none⟩:Addr).add k=⟨g,off+k,none⟩:=by
 unfold l5;split
 ·rename_i h;rw[h];rfl
 ·rfl
section
variable{H:Type}{enc:bg × ak→H}{W:ar}{sp:Nat→Bool}{hd:Bool}
theorem MC{fuel:Nat}{b:BB}{m s k:ak}{x:DataW H × List MemPlace}(h:DataW.trod enc aq W 0 sp hd fuel 28 (b.cells m s k).toList=some x) :
  (∃n y,DataW.trod enc aq W 0 sp hd n 24 [m]=some y)∧(∃n y,DataW.trod enc aq W 0 sp hd n 25 [s]=some y)∧(∃n y,DataW.trod enc aq W 0 sp hd n 26 [k]=some y):=by
 obtain⟨xs,n,-,-,-,hlen,hf⟩:=DataW.trod_struct aT h;have h10:=hf 10 _ rfl;have h11:=hf 11 _ rfl;have Ur:=hf 12 _ rfl;have hl:xs.length=13:=hlen;have NG:Tryz.prog.cellsOf 24=1:=by kernel_rfl
 have c25:Tryz.prog.cellsOf 25=1:=by kernel_rfl
 have c26:Tryz.prog.cellsOf 26=1:=by kernel_rfl
 rw[lZ (by omega)] at h10 h11 Ur;simp only[NG,c25,c26] at h10 h11 Ur;exact⟨⟨n,_,h10⟩,⟨n,_,h11⟩,⟨n,_,Ur⟩⟩
theorem QX{fuel:Nat}{g off n c:Nat}{x:DataW H × List MemPlace}(Fa:n≤c)(h:DataW.trod enc aq W 0 (fun _=>true) hd fuel 24 [.slice (some ⟨g,off,none⟩) n c]=some x) :
  ∀i,i<n→∃mn:Mn,W.cell? ⟨g,off+i*3,none⟩=some (.string mn.name)∧W.cell? ⟨g,off+i*3+1,none⟩=some (.int .i64 mn.lo)∧W.cell? ⟨g,off+i*3+2,none⟩=some (.int .i64 mn.hi):=by
 intro i hi;rcases Go.Deep.open_slice Tryz.underlying24 h with⟨h0,-⟩|⟨a,len,cap,mm,nn,D,Pl,h0,-,-,-,hm,-,hel⟩
 ·cases h0
 ·cases h0;obtain⟨cs',hc,ht⟩:=hel i (by rw[hm];simp;omega);rw[aeC] at hc;obtain⟨x,y,z,rfl,e0,e1,e2⟩:=Yd hc;rw[KP,KP] at e0 e1 e2;obtain⟨y0,y1,n1,-,-,t0,t1⟩:=trod_struct2 Tryz.underlying79 ht;have c9:Tryz.prog.cellsOf 9=1:=by kernel_rfl
  have c23:Tryz.prog.cellsOf 23=2:=by kernel_rfl
  have c3:Tryz.prog.cellsOf 3=1:=by kernel_rfl
  simp only[c9,c23] at t0 t1;obtain⟨z0,z1,n2,-,-,u0,u1⟩:=trod_struct2 Tryz.underlying23 t1;simp only[c3] at u0 u1;obtain⟨s,hs,-⟩:=DataW.trod_string Tryz.underlying9 t0;obtain⟨lo,hlo,-⟩:=DataW.trod_int iJ u0;obtain⟨hi',hhi,-⟩:=DataW.trod_int iJ u1;simp at hs hlo hhi;subst hs;subst hlo;subst hhi;exact⟨⟨s,lo,hi'⟩,e0,e1,e2⟩
end
theorem Oi{W:ar}{g off n c:Nat}(Fa:n≤c)(hg:g<W.heap.size)(hn:n≤20)(h : ∀i,i<n→∃mn:Mn,W.cell? ⟨g,off+i*3,none⟩=some (.string mn.name)∧W.cell? ⟨g,off+i*3+1,none⟩=some (.int .i64 mn.lo)∧W.cell? ⟨g,off+i*3+2,none⟩=some (.int .i64 mn.hi)) :
  ∃ml:List Mn,ml.length=n∧Reads W (.slice (some ⟨g,off,none⟩) n c) n (gu ml):=by
 obtain⟨f,hf⟩ : ∃f:Nat→Mn,∀i,i<n→W.cell? ⟨g,off+i*3,none⟩=some (.string (f i).name)∧W.cell? ⟨g,off+i*3+1,none⟩=some (.int .i64 (f i).lo)∧W.cell? ⟨g,off+i*3+2,none⟩=some (.int .i64 (f i).hi):=
  ⟨fun i=>if hi:i<n then(h i hi).choose else⟨⟨#[]⟩,0,0⟩,fun i hi=>by simp only[dif_pos hi];exact(h i hi).choose_spec⟩
 refine⟨(bf n).map f,by simp,.inr ⟨g,off,c,rfl,⟨by omega,Fa⟩,hg,fun j u hj=>?_⟩⟩;have Ud:j<(gu ((bf n).map f)).length:=(List.getElem?_eq_some_iff.1 hj).1;rw[vM] at Ud;simp at Ud;have hk:j / 3<n:=by omega
 have e:j=3*(j / 3)+j % 3:=by omega
 rw[e,rZ _ _ _ (by simpa using hk) (by omega)] at hj;obtain⟨h0,h1,h2⟩:=hf (j / 3) hk;simp only[List.getElem_map,List.getElem_range] at hj;have h3:j % 3<3:=Nat.mod_lt _ (by decide);rw[show off+j=off+(j / 3)*3+j % 3 by omega]
 match j % 3,h3,hj with
 |0,_,hj=>simp at hj;subst hj;exact h0
 |1,_,hj=>simp at hj;subst hj;exact h1
 |2,_,hj=>simp at hj;subst hj;exact h2
end Go.Proofs.YtffladgmkiimjaaGreatDoor
