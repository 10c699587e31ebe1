/- THE BELL IN PLAIN LEAN: a book's numbers, plans by bits, the air minut .. -/
import Derived.WalkKit
import Derived.Test.YtffladgmkiimjaaGreatDoorProg
import Derived.Lib.Hide
import Derived.Outline
import Derived.Deep.RegionHeld3
import Derived.RangeFuncRecord
import Derived.Maps.Own
import Derived.Maps.OwnOps
import Derived.RowKit
import Derived.Laws.StructEq
import Derived.Laws.IdiomStrings
import Derived.Test.YtffladgmkiimjaaGreatDoorRows
import Derived.LaidHandle
import Derived.LaidMore
import Derived.OpenShut
import Derived.ProofKit
set_option linter.all false
set_option maxHeartbeats 100000000
set_option maxRecDepth 1000000
open Array renaming getElem?_eq_some_iff → ak
open Bool renaming false_eq_true → bu
open Go renaming TypeId → aX,Value → aj,World → ar,Calls → bm,underlying → iG,MapEntry → tM
open Go.Addr renaming add → lG
open Go.Ending renaming returned → aF,returned → aJ
open Go.Instr renaming findKey → Cv,findAsking → jg,index → mC,mapUpdate → zQ
open Go.IntKind renaming i64 → ag
open Go.Lib renaming hid → ai
open Go.Obj renaming cells → au
open Go.Proofs.Tryz renaming prog → aq,underlying25 → fC
open Go.Result renaming andThen → F0
open Go.RowKit renaming Below → az
open Go.RowKit.Below renaming heap_alloc → aS,refl → aw
open Go.Value renaming int → aD,bool → aG,agg → aO,slice → ae,int → ah,pointer → bp
open Go.World renaming alloc_heap_new → ay,cell? → dC,ownsRow_nil → dM,cell?_alloc_lt → dY
open List renaming foldl_append → A2,eq_nil_of_length_eq_zero → aY,take_succ_eq_append_getElem → bN,range' → bS,map_cons → cK,take_of_length_le → cQ,getElem_mem → cu,drop_eq_getElem_cons → dN,mem_of_mem_take → fj,getElem?_append_left → zK
open List.cons renaming injEq → zP
open Nat renaming le_refl → ax,lt_of_lt_of_le → bz,mul_comm → qw
open Option.some renaming inj → bf
open Or renaming inl → cA
open Prod.mk renaming injEq → iq
namespace Go.Proofs.YtffladgmkiimjaaGreatDoor
open Go
theorem eX(n:Int)(h₀:0≤n)(h₁:n<2 ^ 62):IntKind.i64.wrap n=n:=by rw[IntKind.wrap_i64];omega
theorem XM(a b:Nat)(ha:a<2 ^ 62)(hb:b<2 ^ 62):bits .and ag (a:Int) (b:Int)=((a &&& b:Nat):Int):=(bits_nat ag 62 (by decide) eX a b ha hb).1
theorem abf(a b:Nat)(ha:a<2 ^ 62)(hb:b<2 ^ 62):bits .or ag (a:Int) (b:Int)=((a ||| b:Nat):Int):=(bits_nat ag 62 (by decide) eX a b ha hb).2
theorem vO(n m:Nat)(hn:n<512):(bits BinOp.and IntKind.i64 (↑n / 2 ^ m) 1==1)=n.testBit m:=by
 have e:((n:Int) / 2 ^ m)=((n / 2 ^ m:Nat):Int):=by simp
 have hlt:n / 2 ^ m<2 ^ 62:=Nat.lt_of_le_of_lt (Nat.div_le_self _ _) (by omega);rw[e,show(1:Int)=((1:Nat):Int) from rfl,XM _ 1 hlt (by decide)];rw[Nat.testBit_eq_decide_div_mod_eq,Nat.and_one_is_mod,Bool.eq_iff_iff];simp only[beq_iff_eq,decide_eq_true_eq];omega
structure BB where
 room:Int
 depth:Int
 least:Int
 minutes:Int
 cM:Int
 km:Int
 eT:Int
 j9:Int
 ll:Int
 lm:Int
 pl:Int
 pm:Int
abbrev BB.cells(b:BB)(men sent marks:aj):Array Value:=#[ah ag b.room,ah ag b.depth,ah ag b.least,ah ag b.minutes,ah ag b.cM,ah ag b.km,ah ag b.eT,ah ag b.j9,ah ag b.ll,ah ag b.lm,ah ag b.pl,ah ag b.pm,men,sent,marks]
structure BB.Ok(b:BB):Prop where
 room:1≤b.room∧b.room≤99
 depth:0≤b.depth∧b.depth≤99
 least:0≤b.least∧b.least≤99
 minutes:1≤b.minutes∧b.minutes≤8
 cM:0≤b.cM∧b.cM≤99
 km:0≤b.km∧b.km≤99
 eT:0≤b.eT∧b.eT≤3
 j9:0≤b.j9∧b.j9≤99
 leak:0≤b.ll∧b.ll≤b.lm∧b.lm≤99∧b.lm-b.ll<3
 Mm:1≤b.pl∧b.pl≤b.pm∧b.pm≤b.minutes
def BB.holds(b:BB):Int:=b.room*(33+b.depth) / 33
def BB.TK(b:BB)(n:Int):Int:=n*33 / (33+b.depth)
structure eA where
 leak:Int
 m0:Int
 m1:Int
 m2:Int
deriving DecidableEq
abbrev eA.cells(a:eA):Array Value:=#[ah ag a.leak,ah ag a.m0,ah ag a.m1,ah ag a.m2]
structure eA.Ok(a:eA):Prop where
 leak:0≤a.leak∧a.leak≤400
 m0:0≤a.m0∧a.m0≤99
 m1:0≤a.m1∧a.m1≤99
 m2:0≤a.m2∧a.m2≤99
def eA.used(a:eA):Int:=a.leak+a.m0+a.m1+a.m2
theorem BB.D6(b:BB)(h:b.Ok):b.room≤b.holds∧b.holds≤396:=by
 have h1:=h.room;have h2:=h.depth;unfold BB.holds;have h3:b.room*33≤b.room*(33+b.depth):=Int.mul_le_mul_of_nonneg_left (by omega) (by omega);have h4:b.room*(33+b.depth)≤99*132:=Int.mul_le_mul (by omega) (by omega) (by omega) (by omega);omega
theorem BB.ZP(b:BB)(h:b.Ok){n:Int}(h0:0≤n)(h1:n≤999):0≤n*33∧n*33≤32967∧0<33+b.depth∧33+b.depth≤132:=by
 have h2:=h.depth;omega
def BB.step(b:BB)(used:Int)(p:Nat)(m:Nat)(n:Int):Int:=
 max 0 (min ((n+if p.testBit m then b.km else 0)+if b.pl≤m∧m≤b.pm then b.j9 else 0) b.holds-used)
def BB.B5(b:BB)(used:Int)(p:Nat):Nat→Int
 |0=>b.room
 |m+1=>b.step used p (m+1) (b.B5 used p m)
def BB.mR(b:BB)(used:Int)(p k:Nat):List Int:=(List.range k).map fun i=>b.B5 used p (i+1)
theorem BB.PK(b:BB)(used:Int)(p k:Nat):b.mR used p (k+1)=b.mR used p k++[b.B5 used p (k+1)]:=by
 simp[BB.mR,List.range_succ]
theorem BB.uM(b:BB)(used:Int)(p k:Nat):(b.mR used p k).length=k:=by simp[BB.mR]
theorem BB.Ny(b:BB)(h:b.Ok){used:Int}(hu:0≤used)(p:Nat):∀k,0≤b.B5 used p k∧b.B5 used p k≤396:=by
 intro k;have hh:=b.D6 h;have h1:=h.room;cases k with
 |zero=>simp only[BB.B5];omega
 |succ k=>simp only[BB.B5,BB.step];omega
def upTo(p k:Nat):List Nat:=(bS 1 k).filter p.testBit
theorem F8(p k:Nat):upTo p (k+1)=upTo p k++if p.testBit (k+1) then[k+1] else[]:=by
 unfold upTo;rw[show bS 1 (k+1)=bS 1 k++[k+1] by rw[List.range'_concat];simp[Nat.add_comm]];rw[List.filter_append]
 congr 1
 by_cases h:p.testBit (k+1)<;>simp[h]
theorem vy(p k:Nat):(upTo p k).length≤k:=by
 unfold upTo;have:=List.length_filter_le p.testBit (bS 1 k);simpa using this
end Go.Proofs.YtffladgmkiimjaaGreatDoor
namespace Go.Proofs.YtffladgmkiimjaaGreatDoor
open Go.RowKit
theorem pY{a b:Bool}(h:a=b):aJ (aG a)=aF (aG b):=by rw[h]
theorem gP{k:IntKind}{a b:Int}(h:a=b):aJ (ah k a)=aF (ah k b):=by rw[h]
def aQ(n l m:Int):Bool:=decide (l≤n)&&decide (n≤m)
theorem qd(n l m:Int)(w:ar):bm aq 138 #[ah ag n,ah ag l,ah ag m] w fun e w'=>e=aF (aG (aQ n l m))∧w=w':=by
 by_cases h1:l≤n
 ·have h:aQ n l m=decide (n≤m):=by simp[aQ,h1]
  rw[h];have H:=ai h;clear h
  go_enter Tryz.func138,Tryz.ntmps138
  go_wp2
  all_goals (go_ret;first|exact⟨rfl,rfl⟩|(refine⟨pY ?_,rfl⟩;simp))
 ·have h:aQ n l m=false:=by simp[aQ,h1]
  rw[h];have H:=ai h;clear h
  go_enter Tryz.func138,Tryz.ntmps138
  go_wp2
  all_goals (go_ret;first|exact⟨rfl,rfl⟩|(refine⟨pY ?_,rfl⟩;simp))
theorem IK(n m:Nat)(hn:n<512)(hm:m<9)(w:ar):bm aq 162 #[ah ag n,ah ag m] w fun e w'=>e=aF (aG (n.testBit m))∧w=w':=by
 go_enter Tryz.func162,Tryz.ntmps162
 go_wp2
 go_ret
 exact⟨pY (vO n m hn),rfl⟩
theorem info3:(Tryz.prog.info? 3).map (fun i=>(i.zero,i.size,i.bytes))=some (some (ah ag 0),1,8):=by kernel_rfl
theorem vP{B e n size:Nat}{xs:List aj}{w wr w1:ar}{u:aj}{o:Obj}(hB:B≤wr.heap.size)(hown:wr.ownsRow B e size u n xs)(eh:az B w wr)(hgrow:(wr.alloc o).grownBy w1 u.ownBlock):az B w w1:=
 (eh.alloc hB o).grown hgrow (by simp;omega) fun j hj=>(hown.lt j hj).1
theorem Ke(p:Nat)(hp:p<512)(w:ar) :
  bm aq 99 #[ah ag p] w fun e w'=>∃v,e=aF v∧w'.ownsRow w.heap.size 3 1 v (upTo p 8).length ((upTo p 8).map fun(m:Nat)=>aD ag (m:Int))∧az w.heap.size w w':=by
 obtain⟨i0,hi,hz0,hz1,hz2⟩:=info_parts info3
 go_enter Tryz.func99,Tryz.ntmps99
 go_wp2
 go_loopw [3,4] (fun v i wr=>∃k:Nat,k≤8∧i=ah ag (k+1)∧wr.ownsRow w.heap.size 3 1 v (upTo p k).length ((upTo p k).map fun(m:Nat)=>aD ag (m:Int))∧az w.heap.size w wr)
  (fun _ i _=>9-(intOf i).toNat)
 case atStart=>exact⟨0,by omega,rfl,dM _ _ _ _,aw _ _⟩
 case round=>
  obtain⟨k,hk,rfl,hown,eh⟩:=hrel;have hle:=vy p k
  by_cases hlt:k<8
  ·cases hb:p.testBit (k+1)
   ·have e1:upTo p (k+1)=upTo p k:=by rw[F8,hb];simp
    have hc:=IK p (k+1) hp (by omega);rw[hb] at hc;have HC:=ai hc;have H1:=ai e1;clear e1 hb hc
    go_wp2_with (go_at_call 162;refine(HC.out _).mono ?_;rintro e w' ⟨rfl,rfl⟩)
    go_roundw
    case rel=>exact⟨k+1,by omega,by go_num,by rw[H1.out];exact hown,eh⟩
    case measure=>simp[intOf];omega
   ·have e1:upTo p (k+1)=upTo p k++[k+1]:=by rw[F8,hb];simp
    have hc:=IK p (k+1) hp (by omega);rw[hb] at hc;have HC:=ai hc;have H1:=ai e1;clear e1 hb hc;have hB:=eh.size
    go_wp2_with (first
     |(go_at_call 162;refine(HC.out _).mono ?_;rintro e w' ⟨rfl,rfl⟩)
     |(at_builtin;refine wpList_append_own _ rfl _ _ 25 rfl w.heap.size 3 i0 (ah ag 0) 1 8 fC hi hz0 hz1 hz2 rfl (by decide) _ _ _ rfl (hown.alloc _) ⟨wr.heap.size,0,none⟩ 1 1 [ah ag (k+1)] rfl rfl ?c1 ?c2 ?c3 ?c4 ?c5 ?_))
    case c1=>
     intro j u hj
     match j,hj with
     |0,hj=>simp at hj;subst hj;simp[lG]
    case c2=>intro u hu;simp at hu;subst hu;rfl
    case c3=>unfold maxLen;omega
    case c4=>omega
    case c5=>simp;omega
    intro v' w1 hown' hgrow _;have hb1:az w.heap.size w w1:=vP hB hown eh hgrow;clear hgrow eh hown;go_wp2;go_roundw
    case rel=>exact⟨k+1,by omega,by go_num,by rw[H1.out];simpa using hown',hb1⟩
    case measure=>simp[intOf];omega
  ·obtain rfl:k=8:=by omega
   go_wp2
   go_ret
   exact⟨_,rfl,hown,eh⟩
theorem sk(p:Nat)(hp:p<512)(w:ar):bm aq 97 #[ah ag p] w fun e w'=>e=aF (ah ag (upTo p 8).length)∧az w.heap.size w w':=by
 go_enter Tryz.func97,Tryz.ntmps97
 go_wp2_with fail
 refine(Ke p hp _).mono ?_;rintro e w1 ⟨v,rfl,hown,hb⟩;rcases hown.2 with⟨rfl,h0⟩|⟨g,cap,cur,rfl,_,_,_,_,_,_⟩
 ·have H0:=ai h0;clear h0 hown;go_wp2
  go_ret
  exact⟨gP (by rw[H0.out];rfl),hb⟩
 ·clear hown;go_wp2
  go_ret
  exact⟨rfl,hb⟩
theorem Gv(b:BB)(hb:b.Ok)(men sent marks:aj)(w:ar):bm aq 115 #[aO (b.cells men sent marks)] w fun e w'=>e=aF (ah ag b.holds)∧az w.heap.size w w':=by
 have h1:=hb.room;have h2:=hb.depth;have h3:=b.D6 hb;have h4:b.room*(33+b.depth)≤99*132:=Int.mul_le_mul (by omega) (by omega) (by omega) (by omega);have h5:0≤b.room*(33+b.depth):=Int.mul_nonneg (by omega) (by omega)
 go_enter Tryz.func115,Tryz.ntmps115
 go_wp2
 go_ret
 exact⟨gP rfl,(aw _ _).alloc (ax _) _⟩
theorem IY(b:BB)(hb:b.Ok)(men sent marks:aj)(n:Int)(hn:0≤n∧n≤999)(w:ar):bm aq 139 #[aO (b.cells men sent marks),ah ag n] w fun e w'=>e=aF (ah ag (b.TK n))∧az w.heap.size w w':=by
 have h2:=hb.depth;have h1:=b.ZP hb hn.1 hn.2
 go_enter Tryz.func139,Tryz.ntmps139
 go_wp2
 go_ret
 exact⟨gP rfl,(aw _ _).alloc (ax _) _⟩
theorem JD(a:eA)(ha:a.Ok)(w:ar):bm aq 165 #[aO a.cells] w fun e w'=>e=aF (ah ag a.used)∧az w.heap.size w w':=by
 have h1:=ha.leak;have h2:=ha.m0;have h3:=ha.m1;have h4:=ha.m2;have ix:∀(x y z:Int) w,(mC 132 (aO #[ah ag x,ah ag y,ah ag z]) (ah ag 0)).run aq w=.ok (ah ag x) w:=fun _ _ _ _=>by kernel_rfl
 have iy:∀(x y z:Int) w,(mC 132 (aO #[ah ag x,ah ag y,ah ag z]) (ah ag 1)).run aq w=.ok (ah ag y) w:=fun _ _ _ _=>by kernel_rfl
 have iz:∀(x y z:Int) w,(mC 132 (aO #[ah ag x,ah ag y,ah ag z]) (ah ag 2)).run aq w=.ok (ah ag z) w:=fun _ _ _ _=>by kernel_rfl
 go_enter Tryz.func165,Tryz.ntmps165
 go_wp2
 go_loop [3,10] (fun n i=>(i=ah ag 0∧n=ah ag a.leak)∨(i=ah ag 1∧n=ah ag (a.leak+a.m0))∨(i=ah ag 2∧n=ah ag (a.leak+a.m0+a.m1))∨(i=ah ag 3∧n=ah ag (a.leak+a.m0+a.m1+a.m2))) (fun _ i=>3-(intOf i).toNat)
 case atStart=>exact cA ⟨rfl,rfl⟩
 case round=>
  rcases hrel with⟨rfl,rfl⟩|⟨rfl,rfl⟩|⟨rfl,rfl⟩|⟨rfl,rfl⟩
  ·go_wp2
   go_round
   case rel=>exact .inr (cA ⟨rfl,rfl⟩)
   case measure=>simp[intOf]
  ·go_wp2
   go_round
   case rel=>exact .inr (.inr (cA ⟨rfl,rfl⟩))
   case measure=>simp[intOf]
  ·go_wp2
   go_round
   case rel=>exact .inr (.inr (.inr ⟨rfl,rfl⟩))
   case measure=>simp[intOf]
  ·go_wp2
   go_ret
   exact⟨gP rfl,(aw _ _).alloc (ax _) _⟩
abbrev Mp(b:BB)(men sent marks:aj)(a:eA)(w w':ar):Prop:=w'.cell? ⟨w.heap.size,0,none⟩=some (ah ag b.room)∧w'.cell? ⟨w.heap.size,4,none⟩=some (ah ag b.cM)∧w'.cell? ⟨w.heap.size+1,0,none⟩=some (ah ag a.leak)∧w'.cell? ⟨w.heap.size+1,1,none⟩=some (ah ag a.m0)∧w'.cell? ⟨w.heap.size+1,2,none⟩=some (ah ag a.m1)∧w'.cell? ⟨w.heap.size+1,3,none⟩=some (ah ag a.m2)∧az (w.heap.size+2) ((w.alloc (au (b.cells men sent marks) 119)).alloc (au a.cells 134)) w'
theorem Ht(b:BB)(men sent marks:aj)(a:eA)(w:ar):Mp b men sent marks a w ((w.alloc (au (b.cells men sent marks) 119)).alloc (au a.cells 134)).drew:=by
 refine⟨?_,?_,?_,?_,?_,?_,(aw _ _).drew⟩<;>go_simp
theorem J0{b:BB}{men sent marks:aj}{a:eA}{w w1 w2:ar}(h:Mp b men sent marks a w w1)(hb:az w1.heap.size w1 w2):Mp b men sent marks a w w2:=by
 obtain⟨h1,h2,h3,h4,h5,h6,h7⟩:=h;have hs:=h7.size;simp at hs;refine⟨(hb.cell (by simp;omega)).trans h1,(hb.cell (by simp;omega)).trans h2,(hb.cell (by simp;omega)).trans h3,(hb.cell (by simp;omega)).trans h4,(hb.cell (by simp;omega)).trans h5,(hb.cell (by simp;omega)).trans h6,h7.trans (hb.mono (by omega))⟩
theorem ownsRow_base{w:ar}{B B':Nat}{e:aX}{size:Nat}{v:aj}{n:Nat}{xs:List aj}(h:w.ownsRow B e size v n xs)(hB:B'≤B):w.ownsRow B' e size v n xs:=
 ⟨h.1,h.2.imp id fun⟨g,cap,cur,h1,h2,h3⟩=>⟨g,cap,cur,h1,Nat.le_trans hB h2,h3⟩⟩
theorem bM{w:ar}{B:Nat}{b:BB}{men sent marks:aj}{T:aX}(h:w.heap[B]?=some (au (b.cells men sent marks) T (0,0))) :
  w.cell? ⟨B,0,none⟩=some (ah ag b.room)∧w.cell? ⟨B,1,none⟩=some (ah ag b.depth)∧w.cell? ⟨B,2,none⟩=some (ah ag b.least)∧w.cell? ⟨B,3,none⟩=some (ah ag b.minutes)∧w.cell? ⟨B,4,none⟩=some (ah ag b.cM)∧w.cell? ⟨B,5,none⟩=some (ah ag b.km)∧w.cell? ⟨B,6,none⟩=some (ah ag b.eT)∧
  w.cell? ⟨B,7,none⟩=some (ah ag b.j9)∧w.cell? ⟨B,8,none⟩=some (ah ag b.ll)∧w.cell? ⟨B,9,none⟩=some (ah ag b.lm)∧w.cell? ⟨B,10,none⟩=some (ah ag b.pl)∧w.cell? ⟨B,11,none⟩=some (ah ag b.pm)∧w.cell? ⟨B,12,none⟩=some men∧w.cell? ⟨B,13,none⟩=some sent∧w.cell? ⟨B,14,none⟩=some marks:=by
 unfold dC;simp only[h];exact⟨rfl,rfl,rfl,rfl,rfl,rfl,rfl,rfl,rfl,rfl,rfl,rfl,rfl,rfl,rfl⟩
theorem tJ(w:ar)(o o':Obj):((w.alloc o).alloc o').heap[w.heap.size]?=some o:=by
 rw[aS _ _ _ (by simp)];exact ay w o
theorem BB.Ww(b:BB)(used:Int)(p k:Nat)(hk:0<k):b.B5 used p k=b.step used p k (b.B5 used p (k-1)):=by
 cases k with
 |zero=>omega
 |succ k=>rfl
theorem BB.RP(b:BB)(used:Int)(p k:Nat)(hk:0<k):b.mR used p k=b.mR used p (k-1)++[b.B5 used p k]:=by
 cases k with
 |zero=>omega
 |succ k=>exact b.PK used p k
theorem gb{n l m:Int}:aQ n l m=true↔l≤n∧n≤m:=by simp[aQ]
theorem Gr{n l m:Int}(h:aQ n l m=false):¬(l≤n∧n≤m):=fun h'=>by rw[gb.2 h'] at h;cases h
section
variable{b:BB}{used n:Int}{p k:Nat}
theorem U2(h1:p.testBit k=false)(h2:aQ k b.pl b.pm=false):b.step used p k n=max 0 (min n b.holds-used):=by
 unfold BB.step;rw[h1,if_neg (Gr h2)];simp
theorem UZ(h1:p.testBit k=true)(h2:aQ k b.pl b.pm=false):b.step used p k n=max 0 (min (n+b.km) b.holds-used):=by
 unfold BB.step;rw[h1,if_neg (Gr h2)];simp
theorem U1(h1:p.testBit k=false)(h2:aQ k b.pl b.pm=true):b.step used p k n=max 0 (min (n+b.j9) b.holds-used):=by
 unfold BB.step;rw[h1,if_pos (gb.1 h2)];simp
theorem UY(h1:p.testBit k=true)(h2:aQ k b.pl b.pm=true):b.step used p k n=max 0 (min (n+b.km+b.j9) b.holds-used):=by
 unfold BB.step;rw[h1,if_pos (gb.1 h2)];simp
end
theorem Fq{w w':ar}{B:Nat}{e:aX}{size:Nat}{v:aj}{n:Nat}{xs:List aj}(h:w.ownsRow B e size v n xs)(hb:az w.heap.size w w'):w'.ownsRow B e size v n xs:=
 ⟨h.1,h.2.imp id fun⟨g,cap,cur,h1,h2,h3,h4⟩=>⟨g,cap,cur,h1,h2,by rw[hb.block g (ak.1 h3).1];exact h3,h4⟩⟩
theorem Xa{W:ar}{ad:Addr}{v:aj}(h:W.cell? ad=some v):∀j u,[v][j]?=some u→W.cell? (ad.add j)=some u:=by
 intro j u hj
 match j,hj with
 |0,hj=>simp at hj;subst hj;simpa [lG] using h
theorem K9(w:ar)(v:aj)(T:aX):(w.alloc (au #[v] T)).cell? ⟨w.heap.size,0,none⟩=some v:=by
 rw[World.cell?_alloc_at _ _ _ _ rfl];rfl
theorem Sr{v:aj}(h:v.oneCell'=true):∀u∈[v],u.oneCell'=true:=by
 intro u hu;simp at hu;subst hu;exact h
theorem Dv(b:BB)(hb:b.Ok)(men sent marks:aj)(a:eA)(ha:a.Ok)(p:Nat)(hp:p<512)(w:ar) :
  bm aq 114 #[aO (b.cells men sent marks),aO a.cells,ah ag p] w fun e w'=>∃v,e=aF v∧w'.ownsRow w.heap.size 3 1 v b.minutes.toNat ((b.mR (b.cM+a.used) p b.minutes.toNat).map (aD ag))∧az w.heap.size w w':=by
 have YT:=hb.cM;have xq:=hb.minutes;have aiu:=hb.km;have ahZ:=hb.j9;have hroom:=hb.room;have hu:0≤a.used∧a.used≤697:=by have:=ha.leak;have:=ha.m0;have:=ha.m1;have:=ha.m2;unfold eA.used;omega
 have hw:IntKind.i64.wrap (b.cM+a.used)=b.cM+a.used:=eX _ (by omega) (by omega);obtain⟨i0,hi,hz0,hz1,hz2⟩:=info_parts info3
 go_enter Tryz.func114,Tryz.ntmps114
 go_wp2
 go_region_held3 (fun w'=>w'.cell? ⟨w.heap.size,0,none⟩=some (ah ag b.room)∧w'.cell? ⟨w.heap.size,4,none⟩=some (ah ag b.cM)∧w'.cell? ⟨w.heap.size+1,0,none⟩=some (ah ag a.leak)∧w'.cell? ⟨w.heap.size+1,1,none⟩=some (ah ag a.m0)∧w'.cell? ⟨w.heap.size+1,2,none⟩=some (ah ag a.m1)∧w'.cell? ⟨w.heap.size+1,3,none⟩=some (ah ag a.m2)∧az (w.heap.size+2) ((w.alloc (au (b.cells men sent marks) 119)).alloc (au a.cells 134)) w')
  (first|exact Ht b men sent marks a w|exact J0 (by assumption) (by assumption))
  (first|(go_at_call 165;refine(JD a ha _).mono ?_;rintro e w1 ⟨rfl,hb1⟩))
 rename _∧_=>hS;obtain⟨-,-,-,-,-,-,hB1⟩:=hS
 have mN:w1.heap[w.heap.size]?=some (au (b.cells men sent marks) 119 (0,0)):=by
  rw[hB1.block _ (by omega)];exact tJ _ _ _
 obtain⟨-,-,-,hc3,-,-,-,-,-,-,-,-,-,-,-⟩:=bM mN;clear hb1 hw;generalize Xg:b.cM+a.used=used at *;have hu2:0≤used∧used≤796:=by omega
 have HH:=ai Xg;clear Xg hu;go_wp2
 go_loopw [7,8,24] (fun v n i wr=>∃k:Nat,(k:Int)≤b.minutes+1∧i=ah ag k∧n=ah ag (b.B5 used p (k-1))∧wr.ownsRow (w.heap.size+2) 3 1 v (k-1) ((b.mR used p (k-1)).map (aD ag))∧az (w.heap.size+2) ((w.alloc (au (b.cells men sent marks) 119)).alloc (au a.cells 134)) wr)
  (fun _ _ i _=>b.minutes.toNat+1-(intOf i).toNat)
 case atStart=>exact⟨0,by omega,rfl,rfl,dM _ _ _ _,hB1⟩
 case round=>
  obtain⟨k,hk,rfl,rfl,hown,eh⟩:=hrel
  have mN:wr.heap[w.heap.size]?=some (au (b.cells men sent marks) 119 (0,0)):=by
   rw[eh.block _ (by omega)];exact tJ _ _ _
  have hcc:=bM mN;have Tk:=b.Ny hb hu2.1 p (k-1);have ak0:=b.D6 hb;have hB:=eh.size;simp at hB
  by_cases hlt:(k:Int)<b.minutes+1
  ·rcases Nat.eq_zero_or_pos k with rfl|kg
   ·obtain⟨hc0,hc1,hc2,hc3,hc4,hc5,hc6,hc7,hc8,Qm,Ec,afS,afR,Qn,Tf⟩:=hcc;go_wp2;go_roundw
    case rel=>exact⟨1,by omega,rfl,rfl,hown,eh⟩
    case measure=>simp[intOf]
   ·have hst:=b.Ww used p k kg;have hpl:=b.RP used p k kg;have hlen:(b.mR used p (k-1)).length=k-1:=b.uM used p (k-1);have hne:((k:Int)==0)=false:=by simp;omega
    generalize b.B5 used p (k-1)=n at *;obtain⟨hc0,hc1,hc2,hc3,hc4,hc5,hc6,hc7,hc8,Qm,Ec,afS,afR,Qn,Tf⟩:=hcc;have H1:=ai hst;have H2:=ai hpl;have H3:=ai hlen;clear hst hpl hlen;cases Zk:p.testBit k<;>cases hin:aQ k b.pl b.pm
    all_goals
     have HB:=ai Zk;have HI:=ai hin;have HA:=IK p k hp (by omega);rw[Zk] at HA;have HAH:=ai HA;have IA:=qd k b.pl b.pm;rw[hin] at IA;have IAH:=ai IA;clear Zk hin HA IA
     go_wp2_with (first
      |(go_at_call 162;refine(HAH.out _).mono ?_;rintro e w' ⟨rfl,rfl⟩)
      |(go_at_call 138;refine(IAH.out _).mono ?_;rintro e w' ⟨rfl,rfl⟩)
      |(go_at_call 115;refine(Gv b hb men sent marks _).mono ?_;rintro e w2 ⟨rfl,hb2⟩;have hown2:=Fq hown hb2;have akE:=hb2.size)
      |(at_builtin;refine wpList_append_own _ rfl (.tmp 59) (.tmp 61) 25 rfl (w.heap.size+2) 3 i0 (ah ag 0) 1 8 fC hi hz0 hz1 hz2 rfl (by decide) _ _ _ rfl (hown2.alloc _) ⟨w2.heap.size,0,none⟩ 1 1 [_] rfl rfl (Xa (K9 _ _ _)) (Sr rfl) ?_ ?_ ?_ ?_))
    all_goals first
     |(simp;omega;done)
     |(unfold maxLen;omega;done)
     |(omega;done)
     |skip
    all_goals
     intro v' w3 hown' hgrow _;have hb3:=((eh.trans (hb2.mono (by omega))).alloc (by have:=hb2.size;omega) _).grown hgrow (by simp;omega) (fun j hj=>(hown2.lt j hj).1);clear hgrow;go_wp2;go_roundw
     case rel=>
      have hS:b.step used p k n=max 0 (min (n+(if p.testBit k then b.km else 0)+(if aQ k b.pl b.pm then b.j9 else 0)) b.holds-used):=by
       first
        |(rw[U2 HB.out HI.out,HB.out,HI.out];simp;done)
        |(rw[UZ HB.out HI.out,HB.out,HI.out];simp;done)
        |(rw[U1 HB.out HI.out,HB.out,HI.out];simp;done)
        |(rw[UY HB.out HI.out,HB.out,HI.out];simp;done)
      rw[HB.out,HI.out] at hS;simp only[if_true,bu,if_false,Int.add_zero] at hS;refine⟨k+1,by omega,by go_num,?_,?_,hb3⟩
      ·rw[Nat.add_sub_cancel,H1.out,hS]
       congr 1
       skip
       omega
      ·rw[Nat.add_sub_cancel,H2.out,H1.out,hS];have qg:k-1+1=k:=by omega
       rw[qg] at hown';rw[List.map_append];refine(congrArg (fun y=>w3.ownsRow (w.heap.size+2) 3 1 v' k (List.map (aD ag) (b.mR used p (k-1))++[aD ag y])) ?_).mp hown';clear hown'
       skip
       omega
     case measure=>simp[intOf];omega
  ·have sI:k=b.minutes.toNat+1:=by omega
   go_wp2
   go_ret
   refine⟨_,rfl,?_,?_⟩
   ·rw[HH.out];have e:k-1=b.minutes.toNat:=by omega
    rw[e] at hown;exact ownsRow_base hown (by omega)
   ·exact(((aw _ _).alloc (ax _) _).alloc (by simp) _).trans (eh.mono (by omega))
theorem BV{w w':ar}{B:Nat}{b:BB}{men sent marks:aj}(h:w.heap[B]?=some (au (b.cells men sent marks) 119 (0,0)))(hb:az w.heap.size w w'):(w'.cell? ⟨B,0,none⟩=some (ah ag b.room)∧w'.cell? ⟨B,1,none⟩=some (ah ag b.depth)∧w'.cell? ⟨B,2,none⟩=some (ah ag b.least)∧w'.cell? ⟨B,3,none⟩=some (ah ag b.minutes)∧w'.cell? ⟨B,4,none⟩=some (ah ag b.cM)∧w'.cell? ⟨B,5,none⟩=some (ah ag b.km)∧w'.cell? ⟨B,6,none⟩=some (ah ag b.eT)∧w'.cell? ⟨B,7,none⟩=some (ah ag b.j9)∧w'.cell? ⟨B,8,none⟩=some (ah ag b.ll)∧w'.cell? ⟨B,9,none⟩=some (ah ag b.lm)∧w'.cell? ⟨B,10,none⟩=some (ah ag b.pl)∧w'.cell? ⟨B,11,none⟩=some (ah ag b.pm)∧w'.cell? ⟨B,12,none⟩=some men∧w'.cell? ⟨B,13,none⟩=some sent∧w'.cell? ⟨B,14,none⟩=some marks)∧az w.heap.size w w':=by
 have hlt:B<w.heap.size:=(ak.1 h).1;have h':w'.heap[B]?=some (au (b.cells men sent marks) 119 (0,0)):=by rw[hb.block B hlt];exact h
 exact⟨bM h',hb⟩
theorem Ns{w w1 w':ar}{B:Nat}{b:BB}{men sent marks:aj}(h:w.heap[B]?=some (au (b.cells men sent marks) 119 (0,0)))(h1:az w.heap.size w w1)(h2:az w1.heap.size w1 w'):(w'.cell? ⟨B,0,none⟩=some (ah ag b.room)∧w'.cell? ⟨B,1,none⟩=some (ah ag b.depth)∧w'.cell? ⟨B,2,none⟩=some (ah ag b.least)∧w'.cell? ⟨B,3,none⟩=some (ah ag b.minutes)∧w'.cell? ⟨B,4,none⟩=some (ah ag b.cM)∧w'.cell? ⟨B,5,none⟩=some (ah ag b.km)∧w'.cell? ⟨B,6,none⟩=some (ah ag b.eT)∧w'.cell? ⟨B,7,none⟩=some (ah ag b.j9)∧w'.cell? ⟨B,8,none⟩=some (ah ag b.ll)∧w'.cell? ⟨B,9,none⟩=some (ah ag b.lm)∧w'.cell? ⟨B,10,none⟩=some (ah ag b.pl)∧w'.cell? ⟨B,11,none⟩=some (ah ag b.pm)∧w'.cell? ⟨B,12,none⟩=some men∧w'.cell? ⟨B,13,none⟩=some sent∧w'.cell? ⟨B,14,none⟩=some marks)∧az w.heap.size w w':=
 BV h (h1.trans (h2.mono h1.size))
theorem Lm(b:BB)(hb:b.Ok)(men sent marks:aj)(n:Int)(hn:0≤n∧n≤999)(B:Nat)(w:ar)(mN:w.heap[B]?=some (au (b.cells men sent marks) 119 (0,0))) :
  bm aq 171 #[ah ag n,bp (some ⟨B,0,none⟩)] w fun e w'=>e=aF (aG (decide (b.TK n<b.least)))∧az w.heap.size w w':=by
 have HK:=ai mN;clear mN
 go_enter Tryz.func171,Tryz.ntmps171
 go_wp2
 go_region_held3 (fun w'=>(w'.cell? ⟨B,0,none⟩=some (ah ag b.room)∧w'.cell? ⟨B,1,none⟩=some (ah ag b.depth)∧w'.cell? ⟨B,2,none⟩=some (ah ag b.least)∧w'.cell? ⟨B,3,none⟩=some (ah ag b.minutes)∧w'.cell? ⟨B,4,none⟩=some (ah ag b.cM)∧w'.cell? ⟨B,5,none⟩=some (ah ag b.km)∧w'.cell? ⟨B,6,none⟩=some (ah ag b.eT)∧w'.cell? ⟨B,7,none⟩=some (ah ag b.j9)∧w'.cell? ⟨B,8,none⟩=some (ah ag b.ll)∧w'.cell? ⟨B,9,none⟩=some (ah ag b.lm)∧w'.cell? ⟨B,10,none⟩=some (ah ag b.pl)∧w'.cell? ⟨B,11,none⟩=some (ah ag b.pm)∧w'.cell? ⟨B,12,none⟩=some men∧w'.cell? ⟨B,13,none⟩=some sent∧w'.cell? ⟨B,14,none⟩=some marks)∧az w.heap.size w w')
  (first|exact BV HK.out (aw _ _).drew|exact Ns HK.out (And.right (by assumption)) (by assumption))
  (first|(go_at_call 139;refine(IY b hb men sent marks n hn _).mono ?_;rintro e w1 ⟨rfl,hb1⟩))
 rename _∧_=>hS;have hBw:=hS.2;clear hS;go_wp2
 go_ret
 exact⟨rfl,hBw⟩
end Go.Proofs.YtffladgmkiimjaaGreatDoor
namespace Go.Lag
open Go Go.ChangeMaps Go.MapKept
structure xX(P:Program)(T K E:aX)(key:Int→aj):Prop where
 map:P.underlying T=some (.map K E)
 plain:∃d,P.underlying K=some d∧∀a b,Instr.sameNow d a b=none
 check:∀(e:Bool) (u:Int) (w:ar),(Instr.checkKey e 10000 K (key u)).run P w=.ok () w
 eql:∀(u v:Int) (w:ar),(Op.equal K (key u) (key v)).run P w=.ok (decide (u=v)) w
 zero:∀w,(zeroValue E).run P w=.ok (aG false) w
def lU(w:ar)(b:Nat)(key:Int→aj)(us:List Int):Prop:=
 ∃es clock,w.heap[b]?=some (.map es clock)∧es.toList.map (fun e:tM=>(e.key,e.val))=us.map fun u=>(key u,aG true)
section
variable{P:Program}{T K E:aX}{key:Int→aj}
theorem uX(L:xX P T K E key)(u:Int)(w:ar):∀(us:List Int) (es:List tM) (i:Nat),es.map (fun e:tM=>(e.key,e.val))=us.map (fun u=>(key u,Value.bool true))→
  ∃r,(jg K (key u) es i).run P w=.ok r w∧(u∈us→∃j,r=some (j,aG true))∧(u ∉ us→r=none)
 |[],es,i,h=>by
  have:es=[]:=by simpa using h
  subst this;exact⟨none,rfl,by simp,by simp⟩
 |v::us,[],i,h=>by simp at h
 |v::us,e::es,i,h=>by
  simp only[cK,zP,iq] at h;obtain⟨⟨hk,hv⟩,ht⟩:=h;obtain⟨r,hr,h1,h2⟩:=uX L u w us es (i+1) ht;have hq:=L.eql u v w;rw[←hk] at hq
  have e1:(jg K (key u) (e::es) i).run P w=if decide (u=v)=true then .ok (some (i,e.val)) w else(jg K (key u) es (i+1)).run P w:=by
   show((Op.equal K (key u) e.key).bind fun c=>if c=true then Sem.pure (some (i,e.val)) else jg K (key u) es (i+1)).run P w=_;rw[Sem.run_bind',hq]
   by_cases h:u=v<;>simp[h,Sem.run,F0]
  by_cases huv:u=v
  ·subst huv;refine⟨some (i,aG true),?_,fun _=>⟨i,rfl⟩,fun h=>absurd (List.mem_cons_self ..) h⟩;rw[e1,if_pos (by simp),hv]
  ·refine⟨r,?_,fun h=>h1 ((List.mem_cons.1 h).resolve_left huv),fun h=>h2 fun h'=>h (List.mem_cons_of_mem _ h')⟩;rw[e1,if_neg (by simpa using huv),hr]
theorem BK(L:xX P T K E key)(u:Int)(w:ar){us:List Int}{es:List tM}(h:es.map (fun e:tM=>(e.key,e.val))=us.map (fun u=>(key u,Value.bool true))) :
  ∃r,(Cv K (key u) es).run P w=.ok r w∧(u∈us→∃j,r=some (j,aG true))∧(u ∉ us→r=none):=by
 obtain⟨d,hd,hs⟩:=L.plain;obtain⟨r,hr,h1,h2⟩:=uX L u w us es 0 h
 have hu:(iG K).run P w=.ok d w:=by
  exact run_underlying hd w
 have e1:(Cv K (key u) es).run P w=(match Instr.findNow d (key u) es 0 with|some r=>Sem.pure r|none=>jg K (key u) es 0).run P w:=by
  show((iG K).bind _).run P w=_;rw[Sem.run_bind',hu];rfl
 cases es with
 |nil=>
  have:us=[]:=by simpa using h.symm
  subst this;exact⟨none,by rw[e1];rfl,by simp,by simp⟩
 |cons e es=>
  refine⟨r,?_,h1,h2⟩;rw[e1]
  have:Instr.findNow d (key u) (e::es) 0=none:=by
   simp only[Instr.findNow,hs]
  rw[this];exact hr
theorem Di(L:xX P T K E key){w:ar}{b:Nat}{us:List Int}(h:lU w b key us)(u:Int) :
  (Instr.lookup T (.map (some b)) (key u) false).run P w=.ok (aG (decide (u∈us))) w:=by
 obtain⟨es,clock,hb,he⟩:=h;obtain⟨r,hr,h1,h2⟩:=BK L u w he
 have hu:(iG T).run P w=.ok (.map K E) w:=by
  exact run_underlying L.map w
 have hck:=L.check es.isEmpty u w;have hz:=L.zero w;have hg:(getObj b).run P w=.ok (.map es clock) w:=by simp only[getObj,Sem.run,hb]
 unfold Instr.lookup;show((iG T).bind _).run P w=_;rw[Sem.run_bind',hu]
 by_cases hm:u∈us
 ·obtain⟨j,rfl⟩:=h1 hm;simp[F0,hg,hck,hr,hm]
 ·obtain rfl:=h2 hm;simp[F0,hg,hck,hr,hm,hz]
theorem Dh(L:xX P T K E key){w:ar}{b:Nat}{us:List Int}(h:lU w b key us)(u:Int)(hu':u ∉ us) :
  ∃es clock,(zQ T (.map (some b)) (key u) (aG true)).run P w=.ok () (setBlock w b (.map es clock))∧lU (setBlock w b (.map es clock)) b key (us++[u]):=by
 obtain⟨es,clock,hb,he⟩:=h;obtain⟨r,hr,h1,h2⟩:=BK L u w he;obtain rfl:=h2 hu'
 have hu:(iG T).run P w=.ok (.map K E) w:=by
  exact run_underlying L.map w
 have hck:=L.check false u w;refine⟨es.push { key:=key u,val:=aG true,born:=clock },clock+1,?_,?_⟩
 ·unfold zQ;show((iG T).bind _).run P w=_;rw[Sem.run_bind',hu];have hg:(getObj b).run P w=.ok (.map es clock) w:=by simp only[getObj,Sem.run,hb]
  simp[F0,hg,hck,hr,setObj,Sem.run,hb,setBlock]
 ·refine⟨es.push { key:=key u,val:=aG true,born:=clock },clock+1,?_,by simp[he]⟩;have hlt:b<w.heap.size:=(ak.1 hb).1;simp[setBlock,hlt]
theorem lU.keep{w w':ar}{b:Nat}{us:List Int}(h:lU w b key us)(hk:w'.heap[b]?=w.heap[b]?):lU w' b key us:=by
 obtain⟨es,clock,hb,he⟩:=h;exact⟨es,clock,hk.trans hb,he⟩
theorem lU.lt{w:ar}{b:Nat}{us:List Int}(h:lU w b key us):b<w.heap.size:=by
 obtain⟨es,clock,hb,he⟩:=h;exact(ak.1 hb).1
theorem lU.below{w w':ar}{b:Nat}{us:List Int}(h:lU w b key us)(hb:RowKit.Below w.heap.size w w'):lU w' b key us:=h.keep (hb.block b h.lt)
theorem lU.made(w:ar)(key:Int→aj):lU (w.alloc (.map #[] 0)) w.heap.size key []:=⟨#[],0,(MapKept.heap_alloc w _).1,rfl⟩
theorem mQ(w:ar){ops:Array Oper}{rest:List Oper}{o:Oper}{a:Act}{Q:Exit→Act→ar→Prop}(hg:o.guard=none)(m x:Operand)(t:aX)(hop:o.op=Op.lookup t m x false)
  (L:xX P t K E key) (b:Nat) {us:List Int} (hm:a.eval m=.map (some b)) (hown:lU w b key us) (u:Int) (hx:a.eval x=key u)
  (hK:wpList P ops Q rest (a.put o.dst (aG (decide (u∈us)))) w):wpList P ops Q (o::rest) a w:=by
 refine wpList_plain hg fun K' hK'=>?_;have hrun:=Di L hown u;unfold Oper.wp;simp[execOp,hop,hm,hx,hrun,F0];exact hK' _ _ (by simpa using hK)
theorem qH(w:ar){ops:Array Oper}{rest:List Oper}{o:Oper}{a:Act}{Q:Exit→Act→ar→Prop}(hg:o.guard=none)(m x v:Operand)(t:aX)(hop:o.op=Op.mapUpdate t m x v)
  (L:xX P t K E key) (b:Nat) {us:List Int} (hm:a.eval m=.map (some b)) (hown:lU w b key us) (u:Int) (hx:a.eval x=key u) (hv:a.eval v=aG true) (hu:u ∉ us)
  (hK:∀w',lU w' b key (us++[u])→w.grownBy w' (some b)→wpList P ops Q rest (a.put o.dst undef) w'):wpList P ops Q (o::rest) a w:=by
 refine wpList_plain hg fun K' hK'=>?_;obtain⟨es,clock,hrun,ui⟩:=Dh L hown u hu;obtain⟨es0,agG,hb,_⟩:=hown;unfold Oper.wp;simp[execOp,hop,hm,hx,hv,hrun,F0];exact hK' _ _ (hK _ ui ⟨rfl,rfl,rfl,by simp[setBlock],fun i _ hi=>heap_setBlock_other hb _ (fun e=>hi (by rw[e]))⟩)
end
end Go.Lag
namespace Go.Proofs.YtffladgmkiimjaaGreatDoor
open Go.RowKit Go.Lag
def Reads(w:ar)(v:aj)(n:Nat)(xs:List aj):Prop:=
 (v=ae none 0 0∧n=0∧xs=[])∨∃g off cap,v=ae (some ⟨g,off,none⟩) n cap∧(n≤4294967296∧n≤cap)∧g<w.heap.size∧∀j u,xs[j]?=some u→w.cell? ⟨g,off+j,none⟩=some u
theorem Reads.below{w w':ar}{v:aj}{n:Nat}{xs:List aj}(h:Reads w v n xs)(hb:az w.heap.size w w'):Reads w' v n xs:=by
 rcases h with h|⟨g,off,cap,h1,h2,h3,h4⟩
 ·exact cA h
 ·exact .inr ⟨g,off,cap,h1,h2,bz h3 hb.size,fun j u hj=>(hb.cell (p:=⟨g,off+j,none⟩) h3).trans (h4 j u hj)⟩
theorem Reads.iT{w:ar}{B:Nat}{e:aX}{size:Nat}{v:aj}{n:Nat}{xs:List aj}(h:w.ownsRow B e size v n xs)(hn:n≤4294967296)(hs:xs.length=n*size):Reads w v n xs:=by
 have hc:=fun g hg=>h.cells (g:=g) hg;have hl:=h.lt;rcases h.2 with⟨rfl,rfl⟩|⟨g,cap,cur,rfl,h2⟩
 ·refine cA ⟨rfl,rfl,by simpa using hs⟩
 ·refine .inr ⟨g,0,cap,rfl,⟨hn,h2.2.2.1⟩,(hl g rfl).2,fun j u hj=>?_⟩;have:=hc g rfl j u hj;cases j<;>simpa [lG] using this
def kI(b:BB):List Int→Nat→Int
 |[],_=>-1
 |n::r,k=>if b.TK n<b.least then k else kI b r (k+1)
theorem Jb(b:BB)(xs:List Int)(k:Nat)(hk:k<xs.length):kI b (xs.drop k) k=if b.TK xs[k]<b.least then(k:Int) else kI b (xs.drop (k+1)) (k+1):=by
 rw[dN hk];rfl
theorem Ln(b:BB)(xs:List Int):kI b (xs.drop xs.length) xs.length = -1:=by simp[kI]
theorem Nw(b:BB):∀(xs:List Int) (k:Nat),-1≤kI b xs k∧kI b xs k≤k+xs.length:=by
 intro xs
 induction xs with
 |nil=>intro k;simp only[kI];constructor<;>simp<;>omega
 |cons n r ih=>
  intro k;simp only[kI];have:=ih (k+1);split
  ·simp;omega
  ·simp at this ⊢;omega
theorem Iq(b:BB)(hb:b.Ok)(men sent marks:aj)(xs:List Int)(LH:∀x∈xs,0≤x∧x≤999)(hlen:xs.length≤1000)(v:aj)(B:Nat)(w:ar)(hv:Reads w v xs.length (xs.map (aD ag)))
  (mN:w.heap[B]?=some (au (b.cells men sent marks) 119 (0,0))) :
  bm aq 170 #[v,.func (.func 171) #[] #[bp (some ⟨B,0,none⟩)]] w fun e w'=>e=aF (ah ag (kI b xs 0))∧az w.heap.size w w':=by
 have HK:=ai mN;clear mN;rcases hv with⟨rfl,hn,hx0⟩|⟨g,off,cap,rfl,hn,hg,hc⟩
 ·obtain rfl:xs=[]:=by simpa using hx0
  clear hx0 hn
  go_enter Tryz.func170,Tryz.ntmps170
  go_wp2
  go_loopw [8] (fun i wr=>i=ah ag 0∧az w.heap.size w wr) (fun _ _=>0)
  case atStart=>exact⟨rfl,aw _ _⟩
  case round=>
   obtain⟨rfl,eh⟩:=hrel;go_wp2
   go_ret
   exact⟨rfl,eh⟩
 ·have HC:=ai hc;clear hc;generalize hL:xs.length=L at *;have HL:=ai hL;clear hL
  go_enter Tryz.func170,Tryz.ntmps170
  go_wp2
  go_loopw [5,8] (fun _ i wr=>∃k:Nat,k≤L∧i=ah ag k∧kI b xs 0=kI b (xs.drop k) k∧az w.heap.size w wr) (fun _ i _=>L-(intOf i).toNat)
  case atStart=>exact⟨0,by omega,rfl,rfl,aw _ _⟩
  case round=>
   obtain⟨k,hk,rfl,kJ,eh⟩:=hrel;have hB1:=eh.size
   by_cases hlt:k<L
   ·have kh:k<xs.length:=by rw[HL.out];exact hlt
    have hcell:wr.cell? ⟨g,off+k,none⟩=some (ah ag xs[k]):=(eh.cell (p:=⟨g,off+k,none⟩) hg).trans (HC.out k _ (by simp[kh]))
    have mN:wr.heap[B]?=some (au (b.cells men sent marks) 119 (0,0)):=by
     rw[eh.block B (ak.1 HK.out).1];exact HK.out
    have hx:=LH xs[k] (cu kh);have hT:=Lm b hb men sent marks xs[k] hx B wr mN;have hst:=Jb b xs k kh;rw[hst] at kJ;clear hst;generalize xs[k]=x at *
    by_cases hd:b.TK x<b.least
    ·rw[if_pos hd] at kJ;rw[decide_eq_true hd] at hT;have HB:=ai kJ;have HT:=ai hT;clear kJ hT hd mN
     go_wp2_with (go_at_call 171;refine HT.out.mono ?_;rintro e w2 ⟨rfl,hb2⟩)
     go_ret
     exact⟨gP HB.out.symm,eh.trans (hb2.mono hB1)⟩
    ·rw[if_neg hd] at kJ;rw[decide_eq_false hd] at hT;have HB:=ai kJ;have HT:=ai hT;clear kJ hT hd mN
     go_wp2_with (go_at_call 171;refine HT.out.mono ?_;rintro e w2 ⟨rfl,hb2⟩)
     go_roundw
     case rel=>exact⟨k+1,by omega,by go_num,HB.out,eh.trans (hb2.mono hB1)⟩
     case measure=>simp[intOf];omega
   ·obtain rfl:k=L:=by omega
    have e1:kI b xs 0 = -1:=by rw[kJ,←HL.out];exact Ln b xs
    have HE:=ai e1;clear e1 kJ;go_wp2
    go_ret
    exact⟨gP HE.out.symm,eh⟩
def BB.bad(b:BB)(used:Int)(p:Nat):Int:=1+kI b (b.mR used p b.minutes.toNat) 0
theorem Ja(b:BB)(hb:b.Ok)(men sent marks:aj)(a:eA)(ha:a.Ok)(p:Nat)(hp:p<512)(w:ar) :
  bm aq 118 #[aO (b.cells men sent marks),aO a.cells,ah ag p] w fun e w'=>e=aF (ah ag (b.bad (b.cM+a.used) p))∧az w.heap.size w w':=by
 have xq:=hb.minutes;have YT:=hb.cM;have hu:0≤b.cM+a.used:=by have:=ha.leak;have:=ha.m0;have:=ha.m1;have:=ha.m2;unfold eA.used;omega
 have yZ:=Nw b (b.mR (b.cM+a.used) p b.minutes.toNat) 0;rw[b.uM] at yZ;have Tk:=b.Ny hb hu p
 go_enter Tryz.func118,Tryz.ntmps118
 go_wp2_with fail
 refine(Dv b hb men sent marks a ha p hp _).mono ?_;rintro e w1 ⟨v,rfl,hown,hb1⟩
 have mN:w1.heap[w.heap.size]?=some (au (b.cells men sent marks) 119 (0,0)):=by
  rw[hb1.block _ (by simp;omega)];exact tJ _ _ _
 have BH:=Reads.iT hown (by omega) (by simp[b.uM])
 have hI:=Iq b hb men sent marks (b.mR (b.cM+a.used) p b.minutes.toNat) (fun x hx=>by
  obtain⟨i,_,rfl⟩:=List.mem_map.1 hx
  have:=Tk (i+1);omega) (by rw[b.uM];omega) v w.heap.size w1 (by rw[b.uM];exact BH) mN
 have HI:=ai hI;have hs1:=hb1.size;simp at hs1;clear hI mN BH hown Tk
 go_wp2_with (go_at_call 170;refine HI.out.mono ?_;rintro e w2 ⟨rfl,hb2⟩)
 go_ret
 exact⟨gP rfl,((((aw _ _).alloc (ax _) _).alloc (by simp) _).trans (hb1.mono (by simp;omega))).trans (hb2.mono (by omega))⟩
def Ag(u:Int):Value:=aO #[ah ag u,ah ag 0,ah ag 0,ah ag 0]
theorem ZN(u v:Int)(w:ar):(Op.equal 134 (Ag u) (Ag v)).run aq w=.ok (decide (u=v)) w:=by
 have ht:Tryz.prog.underlying 134=some (.struct (Tryz.prog.fieldsOf 134)):=by kernel_rfl
 have hp:Tryz.prog.stoodInHeld 134=false:=by kernel_rfl
 have hf:(Tryz.prog.fieldsOf 134).toList=[{ name:= "leak",type:=3,offset:=0,embedded:=false,tag:= "",pkgPath:= "lagan/bell",byteOffset:=0 },{ name:= "men",type:=132,offset:=1,embedded:=false,tag:= "",pkgPath:= "lagan/bell",byteOffset:=8 }]:=by kernel_rfl
 have p1:∀x w,(part 3 #[ah ag x,ah ag 0,ah ag 0,ah ag 0] 0).run aq w=.ok (ah ag x) w:=fun _ _=>by kernel_rfl
 have p2:∀x w,(part 132 #[ah ag x,ah ag 0,ah ag 0,ah ag 0] 1).run aq w=.ok (aO #[ah ag 0,ah ag 0,ah ag 0]) w:=fun _ _=>by kernel_rfl
 have e1:(Op.equalIn 9999 3 (ah ag u) (ah ag v)).run aq w=.ok (u==v) w:=by kernel_rfl
 have e2:(Op.equalIn 9999 132 (aO #[ah ag 0,ah ag 0,ah ag 0]) (aO #[ah ag 0,ah ag 0,ah ag 0])).run aq w=.ok true w:=by kernel_rfl
 unfold Op.equal Ag;rw[show Op.maxDepth=9999+1 from rfl,run_equalIn_struct w 9999 134 _ _ ht hp,hf]
 have n1:("leak" : String)≠ "_":=by decide
 have n2:("men" : String)≠ "_":=by decide
 simp only[Op.eqFields,n1,n2,ne_eq,not_false_eq_true,if_true,Sem.run_bind,p1,p2,e1,Result.andThen_ok]
 by_cases h:u=v
 ·subst h;simp only[beq_self_eq_true,Bool.not_true,bu,if_false];simp[p2 u w,e2]
 ·simp[h]
theorem C7:xX aq 177 134 4 Ag:=
 ⟨Tryz.underlying177,⟨_,Tryz.underlying134,fun _ _=>rfl⟩,fun _ _ _=>by kernel_rfl,ZN,fun _=>by kernel_rfl⟩
abbrev BB.open(b:BB)(men sent marks all:aj):Array Value:=b.cells men sent marks++#[all]
def rowOf(l:List eA):List Value:=l.flatMap fun a=>a.cells.toList
theorem PB(l:List eA):(rowOf l).length=4*l.length:=by
 induction l with
 |nil=>rfl
 |cons a l ih=>simp[rowOf,eA.cells] at ih ⊢;omega
theorem rR:∀(l:List eA) (k j:Nat) (hk:k<l.length),j<4→(rowOf l)[4*k+j]?=l[k].cells[j]?
 |[],k,j,hk,_=>by simp at hk
 |a::l,0,j,_,hj=>by
  have:rowOf (a::l)=a.cells.toList++rowOf l:=rfl;rw[this,zK (by simp;omega)];simp
 |a::l,k+1,j,hk,hj=>by
  have e:rowOf (a::l)=a.cells.toList++rowOf l:=rfl;rw[e,List.getElem?_append_right (by simp;omega)];have:=rR l k j (by simpa using hk) hj;simp only[List.getElem_cons_succ];rw[←this]
  congr 1
  simp;omega
def BB.sure(b:BB)(all:List eA)(p:Nat):Bool:=all.all fun a=>decide (b.bad (b.cM+a.used) p≤0)
theorem Pg(b:BB)(all:List eA)(p k:Nat)(hk:k<all.length):b.sure (all.drop k) p=(decide (b.bad (b.cM+all[k].used) p≤0)&&b.sure (all.drop (k+1)) p):=by
 rw[dN hk];rfl
theorem Reads.cell{w:ar}{g off n cap:Nat}{l:List eA}(hc:∀j u,(rowOf l)[j]?=some u→w.cell? ⟨g,off+j,none⟩=some u)(k:Nat)(hk:k<l.length) :
  w.cell? ⟨g,off+k*4,none⟩=some (ah ag l[k].leak)∧w.cell? ⟨g,off+k*4+1,none⟩=some (ah ag l[k].m0)∧w.cell? ⟨g,off+k*4+2,none⟩=some (ah ag l[k].m1)∧w.cell? ⟨g,off+k*4+3,none⟩=some (ah ag l[k].m2):=
 ⟨hc (k*4) _ (by have:=rR l k 0 hk (by omega);rw[qw];simpa using this),hc (k*4+1) _ (by rw[qw,rR l k 1 hk (by omega)];rfl),hc (k*4+2) _ (by rw[qw,rR l k 2 hk (by omega)];rfl),hc (k*4+3) _ (by rw[qw,rR l k 3 hk (by omega)];rfl)⟩
theorem jo{w:ar}{B:Nat}{b:BB}{men sent marks all:aj}{T:aX}(h:w.heap[B]?=some (au (b.open men sent marks all) T (0,0))) :
  w.cell? ⟨B,0,none⟩=some (ah ag b.room)∧w.cell? ⟨B,1,none⟩=some (ah ag b.depth)∧w.cell? ⟨B,2,none⟩=some (ah ag b.least)∧w.cell? ⟨B,3,none⟩=some (ah ag b.minutes)∧w.cell? ⟨B,4,none⟩=some (ah ag b.cM)∧w.cell? ⟨B,5,none⟩=some (ah ag b.km)∧w.cell? ⟨B,6,none⟩=some (ah ag b.eT)∧
  w.cell? ⟨B,7,none⟩=some (ah ag b.j9)∧w.cell? ⟨B,8,none⟩=some (ah ag b.ll)∧w.cell? ⟨B,9,none⟩=some (ah ag b.lm)∧w.cell? ⟨B,10,none⟩=some (ah ag b.pl)∧w.cell? ⟨B,11,none⟩=some (ah ag b.pm)∧w.cell? ⟨B,12,none⟩=some men∧w.cell? ⟨B,13,none⟩=some sent∧w.cell? ⟨B,14,none⟩=some marks∧w.cell? ⟨B,15,none⟩=some all:=by
 unfold dC;simp only[h];exact⟨rfl,rfl,rfl,rfl,rfl,rfl,rfl,rfl,rfl,rfl,rfl,rfl,rfl,rfl,rfl,rfl⟩
theorem pQ{w:ar}{B:Nat}{a:eA}{T:aX}(h:w.heap[B]?=some (au a.cells T (0,0))) :
  w.cell? ⟨B,0,none⟩=some (ah ag a.leak)∧w.cell? ⟨B,1,none⟩=some (ah ag a.m0)∧w.cell? ⟨B,2,none⟩=some (ah ag a.m1)∧w.cell? ⟨B,3,none⟩=some (ah ag a.m2):=by
 unfold dC;simp only[h];exact⟨rfl,rfl,rfl,rfl⟩
theorem C0{w wr w2 w3:ar}{X O O2:Obj}(h0:wr.heap[w.heap.size]?=some X)(hsz:w.heap.size+1<wr.heap.size)(hb2:az (wr.alloc O).heap.size (wr.alloc O) w2)(hg:(w2.alloc O2).grownBy w3 (some (w.heap.size+1))) :
  w3.heap[w.heap.size]?=some X∧w3.heap[wr.heap.size]?=some O:=by
 have hs2:=hb2.size;simp at hs2;constructor
 ·rw[hg.block _ (by simp;omega) (by simp),aS _ _ _ (by omega),hb2.block _ (by simp;omega),aS _ _ _ (by omega)];exact h0
 ·rw[hg.block _ (by simp;omega) (by simp;omega),aS _ _ _ (by omega),hb2.block _ (by simp)];exact ay wr O
end Go.Proofs.YtffladgmkiimjaaGreatDoor
namespace Go.Lag
open Go Go.RowKit
theorem lU.alloc{w:ar}{b:Nat}{key:Int→aj}{us:List Int}(h:lU w b key us)(o:Obj):lU (w.alloc o) b key us:=h.keep (by
 have:=(MapKept.heap_alloc w o).2 b;exact aS _ _ _ h.lt)
end Go.Lag
namespace Go.Proofs.YtffladgmkiimjaaGreatDoor
open Go.RowKit Go.Lag
theorem wZ(b:BB)(hb:b.Ok)(men sent marks v:aj)(l:List eA)(hl:∀a∈l,a.Ok)(p:Nat)(hp:p<512)(w:ar)(hv:Reads w v l.length (rowOf l)) :
  bm aq 105 #[aO (b.open men sent marks v),ah ag p] w fun e w'=>e=aF (aG (b.sure l p))∧az w.heap.size w w':=by
 rcases hv with⟨rfl,hn,hx0⟩|⟨g,off,cap,rfl,hn,hg,hc⟩
 ·obtain rfl:l=[]:=aY hn;clear hn hx0;have hmm:=@run_makeMap aq
  go_enter Tryz.func105,Tryz.ntmps105
  go_wp2
  go_loopw [13] (fun i wr=>i=ah ag 0∧az w.heap.size w wr) (fun _ _=>0)
  case atStart=>exact⟨rfl,((aw _ _).alloc (ax _) _).alloc (by simp) _⟩
  case round=>
   obtain⟨rfl,eh⟩:=hrel;go_wp2
   go_ret
   exact⟨rfl,eh⟩
 ·have HC:=ai hc;clear hc;generalize hL:l.length=L at *;have HL:=ai hL;clear hL;have hmm:=@run_makeMap aq
  go_enter Tryz.func105,Tryz.ntmps105
  go_wp2;clear hmm
  go_loopw [7,8,13] (fun _ _ i wr=>∃(k:Nat) (us:List Int),k≤L∧i=ah ag k∧lU wr (w.heap.size+1) Ag us∧(∀u∈us,b.bad (b.cM+u) p≤0)∧b.sure l p=b.sure (l.drop k) p∧az (w.heap.size+1) (w.alloc (au (b.open men sent marks (ae (some ⟨g,off,none⟩) L cap)) 122)) wr) (fun _ _ i _=>L-(intOf i).toNat)
  case atStart=>exact⟨0,[],by omega,rfl,by have:=lU.made (w.alloc (au (b.open men sent marks (ae (some ⟨g,off,none⟩) L cap)) 122)) Ag;simpa using this,by simp,rfl,(aw _ _).alloc (by simp) _⟩
  case round=>
   obtain⟨k,us,hk,rfl,ui,hus,Kk,eh⟩:=hrel
   by_cases hlt:k<L
   ·have kh:k<l.length:=by rw[HL.out];exact hlt
    have CJ:∀o,wr.cell? ⟨g,o,none⟩=w.cell? ⟨g,o,none⟩:=fun o=>(eh.cell (p:=⟨g,o,none⟩) (by show g<_;omega)).trans (dY _ _ _ hg);obtain⟨hc0,hc1,hc2,hc3⟩:=Reads.cell (w:=wr) (cap:=cap) (n:=L) (fun j u hj=>(CJ _).trans (HC.out j u hj)) k kh;clear CJ;have ha:=hl l[k] (cu kh);have OC:=Pg b l p k kh;rw[OC] at Kk;clear OC;generalize l[k]=a at *
    have mN:wr.heap[w.heap.size]?=some (au (b.open men sent marks (ae (some ⟨g,off,none⟩) L cap)) 122 (0,0)):=by
     rw[eh.block _ (by omega)];exact ay w _
    have hsz:=eh.size;simp at hsz;have HS:=ai Kk;have HU:=ai hus;clear Kk hus;have hU:=JD a ha
    by_cases hm:a.used∈us
    ·have kJ:=HU.out a.used hm
     go_wp2_with (first
      |(go_at_call 165;refine(hU _).mono ?_;rintro e w2 ⟨rfl,hb2⟩;have BG:=(ui.alloc _).below hb2)
      |(at_lookup;refine mQ _ rfl _ _ 177 rfl C7 (w.heap.size+1) rfl (BG.alloc _) a.used rfl ?_))
     have hs2:=hb2.size;simp at hs2;go_roundw
     case rel=>
      exact⟨k+1,us,by omega,by go_num,BG.alloc _,HU.out,by rw[HS.out,decide_eq_true kJ];rfl,((eh.alloc (by omega) _).trans (hb2.mono (by simp;omega))).alloc (by omega) _⟩
     case measure=>simp[intOf];omega
    ·have hB:=Ja b hb men sent marks a ha p hp;obtain⟨bd,yZ⟩:∃bd,b.bad (b.cM+a.used) p=bd:=⟨_,rfl⟩
     simp only[yZ] at hB;have HBD:=ai yZ;clear yZ
     by_cases kJ:bd≤0
     ·have uB:decide (0<bd)=false:=by simp;omega
      have HB:=ai kJ;clear kJ
      go_wp2_with (first
       |(go_at_call 165;refine(hU _).mono ?_;rintro e w2 ⟨rfl,hb2⟩;have BG:=(ui.alloc _).below hb2)
       |(at_lookup;refine mQ _ rfl _ _ 177 rfl C7 (w.heap.size+1) rfl (BG.alloc _) a.used rfl ?_)
       |(at_mapUpdate;refine qH _ rfl _ _ _ 177 rfl C7 (w.heap.size+1) rfl (BG.alloc _) a.used rfl rfl hm ?_;intro w3 Ox IG;obtain⟨hxx,hyy⟩:=C0 mN ui.lt hb2 IG;have hx3:=jo hxx;have Zm:=pQ (a:=a) hyy;obtain⟨x0,x1,x2,x3,x4,x5,x6,x7,x8,x9,nS,nR,oO,n4,oK,x15⟩:=hx3;obtain⟨y0,y1,y2,y3⟩:=Zm)
       |(go_at_call 118;refine(hB _).mono ?_;rintro e w4 ⟨rfl,hb4⟩))
      have hlt3:=ui.lt;have hs2:=hb2.size;have hs4:=hb4.size;have hs3:=Ox.lt;have hg3:=IG.size;simp at hs2 hg3;have OH:=(((eh.alloc (by omega) _).trans (hb2.mono (by simp;omega))).alloc (by omega) _).grown IG (by simp;omega) (fun j e=>by cases e;exact ax _);have hB4:=OH.trans (hb4.mono (by omega));clear OH IG;go_roundw
      case rel=>
       refine⟨k+1,us++[a.used],by omega,by go_num,Ox.below hb4,fun u hu=>?_,?_,hB4⟩
       ·rcases List.mem_append.1 hu with h|h
        ·exact HU.out u h
        ·rw[List.mem_singleton.1 h,HBD.out];exact HB.out
       ·rw[HS.out,HBD.out,decide_eq_true HB.out];rfl
      case measure=>simp[intOf];omega
     ·have uB:decide (0<bd)=true:=by simp;omega
      have HB:=ai kJ;clear kJ
      go_wp2_with (first
       |(go_at_call 165;refine(hU _).mono ?_;rintro e w2 ⟨rfl,hb2⟩;have BG:=(ui.alloc _).below hb2)
       |(at_lookup;refine mQ _ rfl _ _ 177 rfl C7 (w.heap.size+1) rfl (BG.alloc _) a.used rfl ?_)
       |(at_mapUpdate;refine qH _ rfl _ _ _ 177 rfl C7 (w.heap.size+1) rfl (BG.alloc _) a.used rfl rfl hm ?_;intro w3 Ox IG;obtain⟨hxx,hyy⟩:=C0 mN ui.lt hb2 IG;have hx3:=jo hxx;have Zm:=pQ (a:=a) hyy;obtain⟨x0,x1,x2,x3,x4,x5,x6,x7,x8,x9,nS,nR,oO,n4,oK,x15⟩:=hx3;obtain⟨y0,y1,y2,y3⟩:=Zm)
       |(go_at_call 118;refine(hB _).mono ?_;rintro e w4 ⟨rfl,hb4⟩))
      have hlt3:=ui.lt;have hs2:=hb2.size;have hs4:=hb4.size;have hs3:=Ox.lt;have hg3:=IG.size;simp at hs2 hg3;have OH:=(((eh.alloc (by omega) _).trans (hb2.mono (by simp;omega))).alloc (by omega) _).grown IG (by simp;omega) (fun j e=>by cases e;exact ax _);have hB4:=OH.trans (hb4.mono (by omega));clear OH IG
      go_ret
      exact⟨pY (by rw[HS.out,HBD.out,decide_eq_false (by have:=HB.out;omega)];rfl),((aw _ _).alloc (ax _) _).trans (hB4.mono (by omega))⟩
   ·obtain rfl:k=L:=by omega
    have e1:b.sure l p=true:=by rw[Kk,←HL.out,List.drop_length];rfl
    have HE:=ai e1;clear e1 Kk;go_wp2
    go_ret
    exact⟨pY HE.out.symm,((aw _ _).alloc (ax _) _).trans (eh.mono (by omega))⟩
structure Mk where
 minute:Int
 lo:Int
 hi:Int
deriving DecidableEq
abbrev Mk.cells(m:Mk):Array Value:=#[ah ag m.minute,ah ag m.lo,ah ag m.hi]
def dm(l:List Mk):List Value:=l.flatMap fun m=>m.cells.toList
theorem nH(l:List Mk):(dm l).length=3*l.length:=by
 induction l with
 |nil=>rfl
 |cons a l ih=>simp[dm] at ih ⊢;omega
theorem pF:∀(l:List Mk) (k j:Nat) (hk:k<l.length),j<3→(dm l)[3*k+j]?=l[k].cells[j]?
 |[],k,j,hk,_=>by simp at hk
 |a::l,0,j,_,hj=>by
  have:dm (a::l)=a.cells.toList++dm l:=rfl;rw[this,zK (by simp;omega)];simp
 |a::l,k+1,j,hk,hj=>by
  have e:dm (a::l)=a.cells.toList++dm l:=rfl;rw[e,List.getElem?_append_right (by simp;omega)];have:=pF l k j (by simpa using hk) hj;simp only[List.getElem_cons_succ];rw[←this]
  congr 1
  simp;omega
theorem vH{w:ar}{g off:Nat}{l:List Mk}(hc:∀j u,(dm l)[j]?=some u→w.cell? ⟨g,off+j,none⟩=some u)(k:Nat)(hk:k<l.length) :
  w.cell? ⟨g,off+k*3,none⟩=some (ah ag l[k].minute)∧w.cell? ⟨g,off+k*3+1,none⟩=some (ah ag l[k].lo)∧w.cell? ⟨g,off+k*3+2,none⟩=some (ah ag l[k].hi):=
 ⟨hc (k*3) _ (by have:=pF l k 0 hk (by omega);rw[qw];simpa using this),hc (k*3+1) _ (by rw[qw,pF l k 1 hk (by omega)];rfl),hc (k*3+2) _ (by rw[qw,pF l k 2 hk (by omega)];rfl)⟩
theorem Ie(n m:Int):(if n<m then m else n)=max n m:=by omega
def xW(ss:List Int):Int:=ss.foldl (fun n k=>max n (k+1)) 1
def Cq(n:Int)(ms:List Mk):Int:=ms.foldl (fun n m=>max n (m.minute+1)) n
def dp(ss:List Int)(ms:List Mk):Int:=Cq (xW ss) ms
theorem GV(ss:List Int)(k:Nat)(hk:k<ss.length):xW (ss.take (k+1))=max (xW (ss.take k)) (ss[k]+1):=by
 unfold xW;rw[bN hk,A2];rfl
theorem GY(n:Int)(ms:List Mk)(k:Nat)(hk:k<ms.length):Cq n (ms.take (k+1))=max (Cq n (ms.take k)) (ms[k].minute+1):=by
 unfold Cq;rw[bN hk,A2];rfl
theorem Eh{α:Type}(f:α→Int)(hi:Int):∀(l:List α) (n:Int),(∀a∈l,f a+1≤hi)→n≤hi→n≤l.foldl (fun n k=>max n (f k+1)) n∧l.foldl (fun n k=>max n (f k+1)) n≤hi
 |[],n,_,h=>⟨Int.le_refl _,h⟩
 |a::l,n,h,hn=>by
  have h1:=Eh f hi l (max n (f a+1)) (fun b hb=>h b (by simp[hb])) (by have:=h a (by simp);omega);simp only[List.foldl_cons];omega
theorem zF(ss:List Int)(h:∀s∈ss,s≤8):1≤xW ss∧xW ss≤9:=Eh (fun k:Int=>k) 9 ss 1 (fun a ha=>by have:=h a ha;omega) (by omega)
theorem I9(n:Int)(hn:n≤9)(ms:List Mk)(h:∀s∈ms,s.minute≤8):n≤Cq n ms∧Cq n ms≤9:=Eh Mk.minute 9 ms n (fun a ha=>by have:=h a ha;omega) hn
theorem QZ(ss:List Int)(ms:List Mk)(hs:∀s∈ss,s≤8)(hm:∀s∈ms,s.minute≤8):1≤dp ss ms∧dp ss ms≤9:=by
 have h1:=zF ss hs;have h2:=I9 (xW ss) h1.2 ms hm;unfold dp;omega
theorem QY(b:BB)(men:aj)(w:ar) :
  bm aq 155 #[aO (b.cells men (ae none 0 0) (ae none 0 0))] w fun e w'=>e=aF (ah ag (dp [] []))∧az w.heap.size w w':=by
 have HK:Hid ((w.alloc (au (b.cells men (ae none 0 0) (ae none 0 0)) 119)).heap[w.heap.size]?=some (au (b.cells men (ae none 0 0) (ae none 0 0)) 119 (0,0))):=ai (ay w _)
 go_enter Tryz.func155,Tryz.ntmps155
 go_wp2
 go_loopw [3,5,12] (fun n _ i wr=>i=ah ag 0∧n=ah ag 1∧az (w.heap.size+1) (w.alloc (au (b.cells men (ae none 0 0) (ae none 0 0)) 119)) wr) (fun _ _ _ _=>0)
 case atStart=>exact⟨rfl,rfl,aw _ _⟩
 case round=>
  obtain⟨rfl,rfl,tW⟩:=hrel;obtain⟨nb,IB⟩:∃nb:Int,xW []=nb:=⟨_,rfl⟩
  have YQ:nb=1:=IB.symm;subst YQ;have HNB:=ai IB;clear IB;have S3:(1:Int)≤9:=by omega
  obtain⟨x0,x1,x2,x3,x4,x5,x6,x7,x8,x9,nS,nR,oO,n4,oK⟩:=bM ((tW.block w.heap.size (by omega)).trans HK.out);have hw1:=tW.size;simp at hw1;go_wp2;obtain⟨wo,Ow⟩:∃wo:ar,wo=wr:=⟨_,rfl⟩
  rw[←Ow] at tW ⊢;clear Ow
  go_loopw [3,7,25] (fun n _ i wq=>i=ah ag 0∧n=ah ag 1∧az (w.heap.size+1) (w.alloc (au (b.cells men (ae none 0 0) (ae none 0 0)) 119)) wq) (fun _ _ _ _=>0)
  case atStart=>exact⟨rfl,rfl,tW⟩
  case round=>
   obtain⟨rfl,rfl,ye⟩:=hrel;go_wp2
   go_ret
   exact⟨gP (by rw[dp,HNB.out];rfl),((aw _ _).alloc (ax _) _).trans (ye.mono (by omega))⟩
theorem QW(b:BB)(men:aj)(w:ar)(ss:List Int)(oW:∀s∈ss,1≤s∧s≤8)(gs os S cs:Nat)(hS:ss.length=S)(Qs:S≤4294967296)(qh:gs<w.heap.size)(hcs:∀j u,(ss.map (aD ag))[j]?=some u→w.cell? ⟨gs,os+j,none⟩=some u) :
  bm aq 155 #[aO (b.cells men (ae (some ⟨gs,os,none⟩) S cs) (ae none 0 0))] w fun e w'=>e=aF (ah ag (dp ss []))∧az w.heap.size w w':=by
 have HS:=ai hS;have HCS:=ai hcs;have Ro:=ai oW;clear hS hcs oW;have HK:Hid ((w.alloc (au (b.cells men (ae (some ⟨gs,os,none⟩) S cs) (ae none 0 0)) 119)).heap[w.heap.size]?=some (au (b.cells men (ae (some ⟨gs,os,none⟩) S cs) (ae none 0 0)) 119 (0,0))):=ai (ay w _)
 go_enter Tryz.func155,Tryz.ntmps155
 go_wp2
 go_loopw [3,5,12] (fun n _ i wr=>∃k:Nat,k≤S∧i=ah ag k∧n=ah ag (xW (ss.take k))∧az (w.heap.size+1) (w.alloc (au (b.cells men (ae (some ⟨gs,os,none⟩) S cs) (ae none 0 0)) 119)) wr) (fun _ _ i _=>S-(intOf i).toNat)
 case atStart=>exact⟨0,by omega,rfl,rfl,aw _ _⟩
 case round=>
  obtain⟨k,hk,rfl,rfl,tW⟩:=hrel
  by_cases hlt:k<S
  ·have kh:k<ss.length:=by rw[HS.out];exact hlt
   have hcell:wr.cell? ⟨gs,os+k,none⟩=some (ah ag ss[k]):=(tW.cell (p:=⟨gs,os+k,none⟩) (by show gs<_;omega)).trans ((dY _ _ _ qh).trans (HCS.out k _ (by simp[kh])));have hx:=Ro.out ss[k] (cu kh);have hst:=GV ss k kh;have yZ:=zF (ss.take k) (fun s hs=>(Ro.out s (fj hs)).2);generalize ss[k]=x at *;generalize xW (ss.take k)=n at *;have HST:=ai hst;clear hst;go_wp2;go_roundw
   case rel=>exact⟨k+1,by omega,by go_num,by rw[HST.out,Ie],tW⟩
   case measure=>simp[intOf];omega
  obtain rfl:S=k:=by omega
  have yZ:=zF (ss.take S) (fun s hs=>(Ro.out s (fj hs)).2);have sX:ss.take S=ss:=cQ (by rw[HS.out];exact ax _);rw[sX] at yZ ⊢;clear sX;obtain⟨nb,IB⟩:∃nb:Int,xW ss=nb:=⟨_,rfl⟩
  rw[IB] at yZ ⊢;have HNB:=ai IB;clear IB;have S3:nb≤9:=yZ.2;have afi:1≤nb:=yZ.1;clear yZ;obtain⟨x0,x1,x2,x3,x4,x5,x6,x7,x8,x9,nS,nR,oO,n4,oK⟩:=bM ((tW.block w.heap.size (by omega)).trans HK.out);have hw1:=tW.size;simp at hw1;go_wp2;obtain⟨wo,Ow⟩:∃wo:ar,wo=wr:=⟨_,rfl⟩
  rw[←Ow] at tW ⊢;clear Ow
  go_loopw [3,7,25] (fun n _ i wq=>i=ah ag 0∧n=ah ag nb∧az (w.heap.size+1) (w.alloc (au (b.cells men (ae (some ⟨gs,os,none⟩) S cs) (ae none 0 0)) 119)) wq) (fun _ _ _ _=>0)
  case atStart=>exact⟨rfl,rfl,tW⟩
  case round=>
   obtain⟨rfl,rfl,ye⟩:=hrel;go_wp2
   go_ret
   exact⟨gP (by rw[dp,HNB.out];rfl),((aw _ _).alloc (ax _) _).trans (ye.mono (by omega))⟩
theorem QX(b:BB)(men:aj)(w:ar)(ms:List Mk)(Kr:∀m∈ms,1≤m.minute∧m.minute≤8)(gm om M cm:Nat)(hM:ms.length=M)(Zp:M≤4294967296)(VO:gm<w.heap.size)(hcm:∀j u,(dm ms)[j]?=some u→w.cell? ⟨gm,om+j,none⟩=some u) :
  bm aq 155 #[aO (b.cells men (ae none 0 0) (ae (some ⟨gm,om,none⟩) M cm))] w fun e w'=>e=aF (ah ag (dp [] ms))∧az w.heap.size w w':=by
 have HM:=ai hM;have O7:=ai hcm;have HMM:=ai Kr;clear hM hcm Kr;have HK:Hid ((w.alloc (au (b.cells men (ae none 0 0) (ae (some ⟨gm,om,none⟩) M cm)) 119)).heap[w.heap.size]?=some (au (b.cells men (ae none 0 0) (ae (some ⟨gm,om,none⟩) M cm)) 119 (0,0))):=ai (ay w _)
 go_enter Tryz.func155,Tryz.ntmps155
 go_wp2
 go_loopw [3,5,12] (fun n _ i wr=>i=ah ag 0∧n=ah ag 1∧az (w.heap.size+1) (w.alloc (au (b.cells men (ae none 0 0) (ae (some ⟨gm,om,none⟩) M cm)) 119)) wr) (fun _ _ _ _=>0)
 case atStart=>exact⟨rfl,rfl,aw _ _⟩
 case round=>
  obtain⟨rfl,rfl,tW⟩:=hrel;obtain⟨nb,IB⟩:∃nb:Int,xW []=nb:=⟨_,rfl⟩
  have YQ:nb=1:=IB.symm;subst YQ;have HNB:=ai IB;clear IB;have S3:(1:Int)≤9:=by omega
  obtain⟨x0,x1,x2,x3,x4,x5,x6,x7,x8,x9,nS,nR,oO,n4,oK⟩:=bM ((tW.block w.heap.size (by omega)).trans HK.out);have hw1:=tW.size;simp at hw1;go_wp2;obtain⟨wo,Ow⟩:∃wo:ar,wo=wr:=⟨_,rfl⟩
  rw[←Ow] at tW ⊢;clear Ow
  go_loopw [3,7,25] (fun n _ i wq=>∃k:Nat,k≤M∧i=ah ag k∧n=ah ag (Cq 1 (ms.take k))∧az (w.heap.size+1) (w.alloc (au (b.cells men (ae none 0 0) (ae (some ⟨gm,om,none⟩) M cm)) 119)) wq) (fun _ _ i _=>M-(intOf i).toNat)
  case atStart=>exact⟨0,by omega,rfl,rfl,tW⟩
  case round=>
   obtain⟨k,hk,rfl,rfl,ye⟩:=hrel
   by_cases hlt:k<M
   ·have kh:k<ms.length:=by rw[HM.out];exact hlt
    have CJ:∀o,wr.cell? ⟨gm,o,none⟩=w.cell? ⟨gm,o,none⟩:=fun o=>(ye.cell (p:=⟨gm,o,none⟩) (by show gm<_;omega)).trans (dY _ _ _ VO);obtain⟨hc0,hc1,hc2⟩:=vH (w:=wr) (fun j u hj=>(CJ _).trans (O7.out j u hj)) k kh;clear CJ;have hx:=HMM.out ms[k] (cu kh);have hst:=GY 1 ms k kh;have yZ:=I9 1 S3 (ms.take k) (fun s hs=>(HMM.out s (fj hs)).2);generalize ms[k]=x at *;generalize Cq 1 (ms.take k)=n at *;have HST:=ai hst;clear hst;have hw2:=ye.size;simp at hw2;go_wp2;go_roundw
    case rel=>exact⟨k+1,by omega,by go_num,by rw[HST.out,Ie],ye.alloc (by omega) _⟩
    case measure=>simp[intOf];omega
   obtain rfl:M=k:=by omega
   have sX:ms.take M=ms:=cQ (by rw[HM.out];exact ax _);rw[sX];clear sX;obtain⟨nc,vT⟩:∃nc:Int,Cq 1 ms=nc:=⟨_,rfl⟩
   rw[vT];have HNC:=ai vT;clear vT;go_wp2
   go_ret
   exact⟨gP (by rw[dp,HNB.out,HNC.out]),((aw _ _).alloc (ax _) _).trans (ye.mono (by omega))⟩
theorem QV(b:BB)(men:aj)(w:ar)(ss:List Int)(oW:∀s∈ss,1≤s∧s≤8)(gs os S cs:Nat)(hS:ss.length=S)(Qs:S≤4294967296)(qh:gs<w.heap.size)(hcs:∀j u,(ss.map (aD ag))[j]?=some u→w.cell? ⟨gs,os+j,none⟩=some u)(ms:List Mk)(Kr:∀m∈ms,1≤m.minute∧m.minute≤8)(gm om M cm:Nat)(hM:ms.length=M)(Zp:M≤4294967296)(VO:gm<w.heap.size)(hcm:∀j u,(dm ms)[j]?=some u→w.cell? ⟨gm,om+j,none⟩=some u) :
  bm aq 155 #[aO (b.cells men (ae (some ⟨gs,os,none⟩) S cs) (ae (some ⟨gm,om,none⟩) M cm))] w fun e w'=>e=aF (ah ag (dp ss ms))∧az w.heap.size w w':=by
 have HS:=ai hS;have HCS:=ai hcs;have Ro:=ai oW;clear hS hcs oW;have HM:=ai hM;have O7:=ai hcm;have HMM:=ai Kr;clear hM hcm Kr;have HK:Hid ((w.alloc (au (b.cells men (ae (some ⟨gs,os,none⟩) S cs) (ae (some ⟨gm,om,none⟩) M cm)) 119)).heap[w.heap.size]?=some (au (b.cells men (ae (some ⟨gs,os,none⟩) S cs) (ae (some ⟨gm,om,none⟩) M cm)) 119 (0,0))):=ai (ay w _)
 go_enter Tryz.func155,Tryz.ntmps155
 go_wp2
 go_loopw [3,5,12] (fun n _ i wr=>∃k:Nat,k≤S∧i=ah ag k∧n=ah ag (xW (ss.take k))∧az (w.heap.size+1) (w.alloc (au (b.cells men (ae (some ⟨gs,os,none⟩) S cs) (ae (some ⟨gm,om,none⟩) M cm)) 119)) wr) (fun _ _ i _=>S-(intOf i).toNat)
 case atStart=>exact⟨0,by omega,rfl,rfl,aw _ _⟩
 case round=>
  obtain⟨k,hk,rfl,rfl,tW⟩:=hrel
  by_cases hlt:k<S
  ·have kh:k<ss.length:=by rw[HS.out];exact hlt
   have hcell:wr.cell? ⟨gs,os+k,none⟩=some (ah ag ss[k]):=(tW.cell (p:=⟨gs,os+k,none⟩) (by show gs<_;omega)).trans ((dY _ _ _ qh).trans (HCS.out k _ (by simp[kh])));have hx:=Ro.out ss[k] (cu kh);have hst:=GV ss k kh;have yZ:=zF (ss.take k) (fun s hs=>(Ro.out s (fj hs)).2);generalize ss[k]=x at *;generalize xW (ss.take k)=n at *;have HST:=ai hst;clear hst;go_wp2;go_roundw
   case rel=>exact⟨k+1,by omega,by go_num,by rw[HST.out,Ie],tW⟩
   case measure=>simp[intOf];omega
  obtain rfl:S=k:=by omega
  have yZ:=zF (ss.take S) (fun s hs=>(Ro.out s (fj hs)).2);have sX:ss.take S=ss:=cQ (by rw[HS.out];exact ax _);rw[sX] at yZ ⊢;clear sX;obtain⟨nb,IB⟩:∃nb:Int,xW ss=nb:=⟨_,rfl⟩
  rw[IB] at yZ ⊢;have HNB:=ai IB;clear IB;have S3:nb≤9:=yZ.2;have afi:1≤nb:=yZ.1;clear yZ;obtain⟨x0,x1,x2,x3,x4,x5,x6,x7,x8,x9,nS,nR,oO,n4,oK⟩:=bM ((tW.block w.heap.size (by omega)).trans HK.out);have hw1:=tW.size;simp at hw1;go_wp2;obtain⟨wo,Ow⟩:∃wo:ar,wo=wr:=⟨_,rfl⟩
  rw[←Ow] at tW ⊢;clear Ow
  go_loopw [3,7,25] (fun n _ i wq=>∃k:Nat,k≤M∧i=ah ag k∧n=ah ag (Cq nb (ms.take k))∧az (w.heap.size+1) (w.alloc (au (b.cells men (ae (some ⟨gs,os,none⟩) S cs) (ae (some ⟨gm,om,none⟩) M cm)) 119)) wq) (fun _ _ i _=>M-(intOf i).toNat)
  case atStart=>exact⟨0,by omega,rfl,rfl,tW⟩
  case round=>
   obtain⟨k,hk,rfl,rfl,ye⟩:=hrel
   by_cases hlt:k<M
   ·have kh:k<ms.length:=by rw[HM.out];exact hlt
    have CJ:∀o,wr.cell? ⟨gm,o,none⟩=w.cell? ⟨gm,o,none⟩:=fun o=>(ye.cell (p:=⟨gm,o,none⟩) (by show gm<_;omega)).trans (dY _ _ _ VO);obtain⟨hc0,hc1,hc2⟩:=vH (w:=wr) (fun j u hj=>(CJ _).trans (O7.out j u hj)) k kh;clear CJ;have hx:=HMM.out ms[k] (cu kh);have hst:=GY nb ms k kh;have yZ:=I9 nb S3 (ms.take k) (fun s hs=>(HMM.out s (fj hs)).2);generalize ms[k]=x at *;generalize Cq nb (ms.take k)=n at *;have HST:=ai hst;clear hst;have hw2:=ye.size;simp at hw2;go_wp2;go_roundw
    case rel=>exact⟨k+1,by omega,by go_num,by rw[HST.out,Ie],ye.alloc (by omega) _⟩
    case measure=>simp[intOf];omega
   obtain rfl:M=k:=by omega
   have sX:ms.take M=ms:=cQ (by rw[HM.out];exact ax _);rw[sX];clear sX;obtain⟨nc,vT⟩:∃nc:Int,Cq nb ms=nc:=⟨_,rfl⟩
   rw[vT];have HNC:=ai vT;clear vT;go_wp2
   go_ret
   exact⟨gP (by rw[dp,HNB.out,HNC.out]),((aw _ _).alloc (ax _) _).trans (ye.mono (by omega))⟩
theorem ES(b:BB)(men sent marks:aj)(ss:List Int)(ms:List Mk)(oW:∀s∈ss,1≤s∧s≤8)(Kr:∀m∈ms,1≤m.minute∧m.minute≤8)(w:ar)(hs:Reads w sent ss.length (ss.map (aD ag)))(hm:Reads w marks ms.length (dm ms)) :
  bm aq 155 #[aO (b.cells men sent marks)] w fun e w'=>e=aF (ah ag (dp ss ms))∧az w.heap.size w w':=by
 rcases hs with⟨rfl,hn,_⟩|⟨gs,os,cs,rfl,Qs,qh,hcs⟩
 ·obtain rfl:=aY hn;rcases hm with⟨rfl,hn,_⟩|⟨gm,om,cm,rfl,Zp,VO,hcm⟩
  ·obtain rfl:=aY hn;exact QY b men w
  ·exact QX b men w ms Kr gm om _ cm rfl Zp.1 VO hcm
 ·rcases hm with⟨rfl,hn,_⟩|⟨gm,om,cm,rfl,Zp,VO,hcm⟩
  ·obtain rfl:=aY hn;exact QW b men w ss oW gs os _ cs rfl Qs.1 qh hcs
  ·exact QV b men w ss oW gs os _ cs rfl Qs.1 qh hcs ms Kr gm om _ cm rfl Zp.1 VO hcm
def bG(ss:List Int):Nat:=ss.foldl (fun p s=>p ||| 2 ^ s.toNat) 0
theorem Mq(ss:List Int)(k:Nat)(hk:k<ss.length):bG (ss.take (k+1))=bG (ss.take k) ||| 2 ^ ss[k].toNat:=by
 unfold bG;rw[bN hk,A2];rfl
theorem Dy:∀(l:List Int) (n:Nat),(∀s∈l,1≤s∧s≤8)→n<512→l.foldl (fun p s=>p ||| 2 ^ s.toNat) n<512
 |[],n,_,h=>h
 |a::l,n,h,hn=>by
  refine Dy l _ (fun s hs=>h s (by simp[hs])) ?_;have ha:=h a (by simp);have:2 ^ a.toNat<2 ^ 9:=Nat.pow_lt_pow_right (by omega) (by omega);exact Nat.or_lt_two_pow (n:=9) hn this
theorem mS(ss:List Int)(h:∀s∈ss,1≤s∧s≤8):bG ss<512:=Dy ss 0 h (by omega)
theorem kV(ss:List Int)(oW:∀s∈ss,1≤s∧s≤8)(v:aj)(w:ar)(hv:Reads w v ss.length (ss.map (aD ag))) :
  bm aq 106 #[v] w fun e w'=>e=aF (ah ag (bG ss))∧w=w':=by
 rcases hv with⟨rfl,hn,_⟩|⟨g,off,cap,rfl,hn,hg,hc⟩
 ·obtain rfl:=aY hn;clear hn
  go_enter Tryz.func106,Tryz.ntmps106
  go_wp2
  go_loop [3,8] (fun p i=>i=ah ag 0∧p=ah ag 0) (fun _ _=>0)
  case atStart=>exact⟨rfl,rfl⟩
  case round=>
   obtain⟨rfl,rfl⟩:=hrel;go_wp2
   go_ret
   exact⟨rfl,rfl⟩
 ·have HC:=ai hc;have Ro:=ai oW;clear hc oW;generalize hL:ss.length=L at *;have HL:=ai hL;clear hL
  go_enter Tryz.func106,Tryz.ntmps106
  go_wp2
  go_loop [3,5,8] (fun p _ i=>∃k:Nat,k≤L∧i=ah ag k∧p=ah ag (bG (ss.take k))) (fun _ _ i=>L-(intOf i).toNat)
  case atStart=>exact⟨0,by omega,rfl,rfl⟩
  case round=>
   obtain⟨k,hk,rfl,rfl⟩:=hrel
   by_cases hlt:k<L
   ·have kh:k<ss.length:=by rw[HL.out];exact hlt
    have hcell:w.cell? ⟨g,off+k,none⟩=some (ah ag ss[k]):=HC.out k _ (by simp[kh]);have hx:=Ro.out ss[k] (cu kh);have hst:=Mq ss k kh;have yZ:=mS (ss.take k) (fun s hs=>Ro.out s (fj hs));obtain⟨x,hxn⟩:∃x:Nat,ss[k]=(x:Int):=⟨ss[k].toNat,by omega⟩
    rw[hxn] at hx hst hcell;clear hxn;generalize bG (ss.take k)=n at *;have HST:=ai hst;clear hst;go_wp2
    go_round
    case rel=>
     refine⟨k+1,by omega,by go_num,?_⟩;rw[HST.out];have h1:(2:Nat) ^ x<512:=Nat.pow_lt_pow_right (m:=x) (n:=9) (by omega) (by omega)
     have h2:wrap64 (2 ^ x)=((2 ^ x:Nat):Int):=by
      have e:(2:Int) ^ x=((2 ^ x:Nat):Int):=by simp
      rw[e,←IntWalk.i64_left];exact eX _ (Int.natCast_nonneg _) (Int.lt_trans (Int.ofNat_lt.2 h1) (by decide))
     rw[h2,abf n (2 ^ x) (by omega) (by omega),Int.toNat_natCast]
    case measure=>simp[intOf];omega
   ·obtain rfl:k=L:=by omega
    have sX:ss.take k=ss:=cQ (by rw[HL.out];exact ax _);rw[sX];clear sX;go_wp2
    go_ret
    exact⟨rfl,rfl⟩
theorem rU(lo hi l m:Int)(w:ar)(h1:l≤lo)(h2:lo≤hi)(h3:hi≤m):bm aq 152 #[aO #[ah ag lo,ah ag hi],ah ag l,ah ag m] w fun e w'=>e=aF (aG true)∧az w.heap.size w w':=by
 go_enter Tryz.func152,Tryz.ntmps152
 go_wp2
 go_ret
 exact⟨rfl,(aw _ _).alloc (ax _) _⟩
theorem iM(n l m:Int)(h1:l≤n)(h2:n≤m)(w:ar):bm aq 138 #[ah ag n,ah ag l,ah ag m] w fun e w'=>e=aF (aG true)∧w=w':=by
 have:=qd n l m w;rw[gb.2 ⟨h1,h2⟩] at this;exact this
theorem mZ(b:BB)(men sent marks:aj)(n:Int)(h1:1≤n)(h2:n≤b.minutes)(w:ar):bm aq 132 #[aO (b.cells men sent marks),ah ag n] w fun e w'=>e=aF (aG true)∧az w.heap.size w w':=by
 go_enter Tryz.func132,Tryz.ntmps132
 go_wp2_with (go_at_call 138;refine(iM _ _ _ (by omega) (by omega) _).mono ?_;rintro e w' ⟨rfl,rfl⟩)
 go_ret
 exact⟨rfl,(aw _ _).alloc (ax _) _⟩
theorem Np(b:BB)(hb:b.Ok)(men sent marks:aj)(w:ar):bm aq 218 #[aO (b.cells men sent marks)] w fun e w'=>e=aF (ah ag 0)∧az w.heap.size w w':=by
 have h1:=hb.room;have h2:=hb.depth;have h3:=hb.least;have h4:=hb.minutes
 go_enter Tryz.func218,Tryz.ntmps218
 go_wp2_with (go_at_call 138;refine(iM _ _ _ (by omega) (by omega) _).mono ?_;rintro e w' ⟨rfl,rfl⟩)
 go_ret
 exact⟨rfl,(aw _ _).alloc (ax _) _⟩
theorem Nl(b:BB)(hb:b.Ok)(men sent marks:aj)(w:ar):bm aq 219 #[aO (b.cells men sent marks)] w fun e w'=>e=aF (ah ag 0)∧az w.heap.size w w':=by
 have h1:=hb.cM;have h2:=hb.km;have h3:=hb.j9;have h4:=hb.eT;have h5:=hb.leak;have h6:=hb.Mm;have h7:=hb.minutes;have HK:Hid ((w.alloc (au (b.cells men sent marks) 119)).heap[w.heap.size]?=some (au (b.cells men sent marks) 119 (0,0))):=ai (ay w _)
 go_enter Tryz.func219,Tryz.ntmps219
 go_wp2
 go_loopw [4,16] (fun _ i wr=>((i=ah ag 0∨i=ah ag 1)∨(i=ah ag 2∨i=ah ag 3))∧wr=(w.alloc (au (b.cells men sent marks) 119)).alloc (au #[ah ag b.cM,ah ag b.km,ah ag b.j9] 3)) (fun _ i _=>3-(intOf i).toNat)
 case atStart=>exact⟨cA (cA rfl),rfl⟩
 case round=>
  obtain⟨hi,rfl⟩:=hrel;rcases hi with(rfl|rfl)|(rfl|rfl)
  ·go_wp2_with (go_at_call 138;refine(iM _ _ _ (by omega) (by omega) _).mono ?_;rintro e w' ⟨rfl,rfl⟩)
   go_roundw
   case rel=>exact⟨cA (.inr rfl),trivial⟩
   case measure=>simp[intOf]
  ·go_wp2_with (go_at_call 138;refine(iM _ _ _ (by omega) (by omega) _).mono ?_;rintro e w' ⟨rfl,rfl⟩)
   go_roundw
   case rel=>exact⟨.inr (cA rfl),trivial⟩
   case measure=>simp[intOf]
  ·go_wp2_with (go_at_call 138;refine(iM _ _ _ (by omega) (by omega) _).mono ?_;rintro e w' ⟨rfl,rfl⟩)
   go_roundw
   case rel=>exact⟨.inr (.inr rfl),trivial⟩
   case measure=>simp[intOf]
  ·go_wp2_with (go_at_call 138;refine(iM _ _ _ (by omega) (by omega) _).mono ?_;rintro e w' ⟨rfl,rfl⟩)
   go_at_call 152
   refine(rU _ _ _ _ _ (by omega) (by omega) (by omega)).mono ?_;rintro e w2 ⟨rfl,hb2⟩;have hk2:w2.heap[w.heap.size]?=some (au (b.cells men sent marks) 119 (0,0)):=(hb2.block _ (by simp;omega)).trans ((aS _ _ _ (by simp)).trans HK.out);have hs2:=hb2.size;simp at hs2;obtain⟨x0,x1,x2,x3,x4,x5,x6,x7,x8,x9,nS,nR,oO,n4,oK⟩:=bM hk2
   go_wp2_with fail
   refine(rU _ _ _ _ _ (by omega) (by omega) (by omega)).mono ?_;rintro e w3 ⟨rfl,hb3⟩;clear x0 x1 x2 x3 x4 x5 x6 x7 x8 x9 nS nR oO n4 oK;obtain⟨x0,x1,x2,x3,x4,x5,x6,x7,x8,x9,nS,nR,oO,n4,oK⟩:=bM ((hb3.block _ (by omega)).trans hk2);go_wp2
   go_ret
   exact⟨rfl,((((aw _ _).alloc (ax _) _).alloc (by simp) _).trans (hb2.mono (by simp;omega))).trans (hb3.mono (by omega))⟩
structure js(b:BB)(pl:List Int):Prop where
 mem:∀p∈pl,1≤p∧p≤b.minutes
 asc:∀(k:Nat) (h:k+1<pl.length),pl[k]<pl[k+1]
 len:(pl.length:Int)≤b.eT
theorem sS(b:BB)(hb:b.Ok)(men sent marks v:aj)(pl:List Int)(hp:js b pl)(w:ar)(hv:Reads w v pl.length (pl.map (aD ag))) :
  bm aq 113 #[aO (b.cells men sent marks),v] w fun e w'=>e=aF (ah ag 0)∧az w.heap.size w w':=by
 have hc3:=hb.eT;have xq:=hb.minutes;have HP:=ai hp;rcases hv with⟨rfl,hn,_⟩|⟨g,off,cap,rfl,hn,hg,hc⟩
 ·obtain rfl:=aY hn;clear hn hp;have HK:Hid ((w.alloc (au (b.cells men sent marks) 119)).heap[w.heap.size]?=some (au (b.cells men sent marks) 119 (0,0))):=ai (ay w _)
  go_enter Tryz.func113,Tryz.ntmps113
  go_wp2
  go_loopw [9] (fun i wr=>i=ah ag 0∧az (w.heap.size+1) (w.alloc (au (b.cells men sent marks) 119)) wr) (fun _ _=>0)
  case atStart=>exact⟨rfl,aw _ _⟩
  case round=>
   obtain⟨rfl,eh⟩:=hrel;obtain⟨x0,x1,x2,x3,x4,x5,x6,x7,x8,x9,nS,nR,oO,n4,oK⟩:=bM ((eh.block w.heap.size (by omega)).trans HK.out);go_wp2
   go_ret
   exact⟨rfl,((aw _ _).alloc (ax _) _).trans (eh.mono (by omega))⟩
 ·have HC:=ai hc;have hlen:=hp.len;clear hc hp;generalize hL:pl.length=L at *;have HL:=ai hL;clear hL;have HK:Hid ((w.alloc (au (b.cells men sent marks) 119)).heap[w.heap.size]?=some (au (b.cells men sent marks) 119 (0,0))):=ai (ay w _)
  go_enter Tryz.func113,Tryz.ntmps113
  go_wp2
  go_loopw [5,6,9,14,19] (fun _ _ i _ _ wr=>∃k:Nat,k≤L∧i=ah ag k∧az (w.heap.size+1) (w.alloc (au (b.cells men sent marks) 119)) wr) (fun _ _ i _ _ _=>L-(intOf i).toNat)
  case atStart=>exact⟨0,by omega,rfl,aw _ _⟩
  case round=>
   obtain⟨k,hk,rfl,eh⟩:=hrel;have hsz:=eh.size;simp at hsz;have Vz:w.heap.size<wr.heap.size:=by omega
   have hk2:wr.heap[w.heap.size]?=some (au (b.cells men sent marks) 119 (0,0)):=(eh.block w.heap.size (by omega)).trans HK.out;obtain⟨x0,x1,x2,x3,x4,x5,x6,x7,x8,x9,nS,nR,oO,n4,oK⟩:=bM hk2
   by_cases hlt:k<L
   ·have kh:k<pl.length:=by rw[HL.out];exact hlt
    have CJ:∀o,wr.cell? ⟨g,o,none⟩=w.cell? ⟨g,o,none⟩:=fun o=>(eh.cell (p:=⟨g,o,none⟩) (by show g<_;omega)).trans (dY _ _ _ hg);have hcell:wr.cell? ⟨g,off+k,none⟩=some (ah ag pl[k]):=(CJ _).trans (HC.out k _ (by simp[kh]));have hx:=HP.out.mem pl[k] (cu kh)
    by_cases h0:k=0
    ·have uB:decide ((0:Int)<(k:Int))=false:=decide_eq_false (by omega);have ak2:decide (0<k)=false:=decide_eq_false (by omega);have H0:=ai h0;clear h0;clear CJ;generalize pl[k]=x at *;have FX:=ai hk2;clear hk2
     go_wp2_with fail
     refine(mZ b men sent marks x hx.1 hx.2 _).mono ?_;rintro e w2 ⟨rfl,hb2⟩;go_wp2;go_roundw
     case rel=>exact⟨k+1,by omega,by go_num,eh.trans (hb2.mono (by omega))⟩
     case measure=>simp[intOf];omega
    ·obtain⟨j,rfl⟩:∃j,k=j+1:=⟨k-1,by omega⟩
     have hcj:wr.cell? ⟨g,off+j,none⟩=some (ah ag pl[j]):=(CJ _).trans (HC.out j _ (by simp[show j<pl.length by omega]));have has:=HP.out.asc j kh;have HGW:=ai CJ;clear CJ;generalize pl[j+1]=x at *;generalize pl[j]=y at *;have FX:=ai hk2;clear hk2;have uB:decide ((0:Int)<((j+1:Nat):Int))=true:=decide_eq_true (by omega);have hjj:IntKind.i64.wrap (((j+1:Nat):Int)-1)=(j:Int):=by rw[show((j+1:Nat):Int)-1=(j:Int) by omega];exact eX _ (by omega) (by omega)
     go_wp2_with fail
     refine(mZ b men sent marks x hx.1 hx.2 _).mono ?_;rintro e w2 ⟨rfl,hb2⟩;have hc2:w2.cell? ⟨g,off+j,none⟩=some (ah ag y):=(hb2.cell (p:=⟨g,off+j,none⟩) (by show g<_;omega)).trans hcj;go_wp2;go_roundw
     case rel=>exact⟨j+1+1,by omega,by go_num,eh.trans (hb2.mono (by omega))⟩
     case measure=>simp[intOf];omega
   ·obtain rfl:L=k:=by omega
    go_wp2
    go_ret
    exact⟨rfl,((aw _ _).alloc (ax _) _).trans (eh.mono (by omega))⟩
theorem Nn(b:BB)(hb:b.Ok)(men sent marks:aj)(pl:List Int)(hp:js b pl)(w:ar)(hv:Reads w sent pl.length (pl.map (aD ag))) :
  bm aq 221 #[aO (b.cells men sent marks)] w fun e w'=>e=aF (ah ag 0)∧az w.heap.size w w':=by
 have hv1:Reads (w.alloc (au (b.cells men sent marks) 119)) sent pl.length (pl.map (aD ag)):=hv.below ((aw _ _).alloc (ax _) _);have hP:=sS b hb men sent marks sent pl hp _ hv1;clear hv hv1
 go_enter Tryz.func221,Tryz.ntmps221
 go_wp2_with (go_at_call 113;refine hP.mono ?_;rintro e w2 ⟨rfl,hb2⟩)
 go_ret
 exact⟨rfl,((aw _ _).alloc (ax _) _).trans (hb2.mono (by simp))⟩
structure jF(b:BB)(ms:List Mk):Prop where
 mem:∀m∈ms,1≤m.minute∧m.minute≤b.minutes∧0≤m.lo∧m.lo≤m.hi∧m.hi≤99
 len:ms.length≤3
theorem K7(b:BB)(hb:b.Ok)(men sent marks:aj)(ms:List Mk)(hm:jF b ms)(w:ar)(hv:Reads w marks ms.length (dm ms)) :
  bm aq 222 #[aO (b.cells men sent marks)] w fun e w'=>e=aF (ah ag 0)∧az w.heap.size w w':=by
 have xq:=hb.minutes;have HM:=ai hm;have h3:=hm.len;rcases hv with⟨rfl,hn,_⟩|⟨g,off,cap,rfl,hn,hg,hc⟩
 ·obtain rfl:=aY hn;clear hn hm h3;have HK:Hid ((w.alloc (au (b.cells men sent (ae none 0 0)) 119)).heap[w.heap.size]?=some (au (b.cells men sent (ae none 0 0)) 119 (0,0))):=ai (ay w _)
  go_enter Tryz.func222,Tryz.ntmps222
  go_wp2
  go_loopw [14] (fun i wr=>i=ah ag 0∧az (w.heap.size+1) (w.alloc (au (b.cells men sent (ae none 0 0)) 119)) wr) (fun _ _=>0)
  case atStart=>exact⟨rfl,aw _ _⟩
  case round=>
   obtain⟨rfl,eh⟩:=hrel;go_wp2
   go_ret
   exact⟨rfl,((aw _ _).alloc (ax _) _).trans (eh.mono (by omega))⟩
 ·have HC:=ai hc;clear hc hm;generalize hL:ms.length=L at *;have HL:=ai hL;clear hL;have HK:Hid ((w.alloc (au (b.cells men sent (ae (some ⟨g,off,none⟩) L cap)) 119)).heap[w.heap.size]?=some (au (b.cells men sent (ae (some ⟨g,off,none⟩) L cap)) 119 (0,0))):=ai (ay w _)
  go_enter Tryz.func222,Tryz.ntmps222
  go_wp2
  go_loopw [4,14,18,24] (fun _ i _ _ wr=>∃k:Nat,k≤L∧i=ah ag k∧az (w.heap.size+1) (w.alloc (au (b.cells men sent (ae (some ⟨g,off,none⟩) L cap)) 119)) wr) (fun _ i _ _ _=>L-(intOf i).toNat)
  case atStart=>exact⟨0,by omega,rfl,aw _ _⟩
  case round=>
   obtain⟨k,hk,rfl,eh⟩:=hrel;have hsz:=eh.size;simp at hsz;have Vz:w.heap.size<wr.heap.size:=by omega
   have hk2:wr.heap[w.heap.size]?=some (au (b.cells men sent (ae (some ⟨g,off,none⟩) L cap)) 119 (0,0)):=(eh.block w.heap.size (by omega)).trans HK.out;obtain⟨x0,x1,x2,x3,x4,x5,x6,x7,x8,x9,nS,nR,oO,n4,oK⟩:=bM hk2
   by_cases hlt:k<L
   ·have kh:k<ms.length:=by rw[HL.out];exact hlt
    have CJ:∀o,wr.cell? ⟨g,o,none⟩=w.cell? ⟨g,o,none⟩:=fun o=>(eh.cell (p:=⟨g,o,none⟩) (by show g<_;omega)).trans (dY _ _ _ hg);obtain⟨y0,y1,y2⟩:=vH (w:=wr) (fun j u hj=>(CJ _).trans (HC.out j u hj)) k kh;have hx:=HM.out.mem ms[k] (cu kh);clear CJ;generalize ms[k]=x at *;have FX:=ai hk2;clear hk2
    go_wp2_with fail
    refine(mZ b men sent _ x.minute (by omega) (by omega) _).mono ?_;rintro e w2 ⟨rfl,hb2⟩;have SS:w2.heap[wr.heap.size]?=some (au x.cells 81 (0,0)):=(hb2.block _ (by simp)).trans (ay wr _);have z0:w2.cell? ⟨wr.heap.size,0,none⟩=some (ah ag x.minute):=by unfold dC;rw[SS];rfl
    have z1:w2.cell? ⟨wr.heap.size,1,none⟩=some (ah ag x.lo):=by unfold dC;rw[SS];rfl
    have z2:w2.cell? ⟨wr.heap.size,2,none⟩=some (ah ag x.hi):=by unfold dC;rw[SS];rfl
    clear SS;have hs2:=hb2.size;simp at hs2
    go_wp2_with (go_at_call 152;refine(rU _ _ _ _ _ (by omega) (by omega) (by omega)).mono ?_;rintro e w3 ⟨rfl,hb3⟩)
    go_roundw
    case rel=>exact⟨k+1,by omega,by go_num,((eh.alloc (by omega) _).trans (hb2.mono (by simp;omega))).trans (hb3.mono (by omega))⟩
    case measure=>simp[intOf];omega
   ·obtain rfl:L=k:=by omega
    go_wp2
    go_ret
    exact⟨rfl,((aw _ _).alloc (ax _) _).trans (eh.mono (by omega))⟩
structure Ji(s:ByteArray):Prop where
 size:1≤s.size∧s.size≤12
 chr:∀(k:Nat) (h:k<s.size),(97≤s[k].toNat∧s[k].toNat≤122)∨(k≠0∧48≤s[k].toNat∧s[k].toNat≤57)
theorem I7(s:ByteArray)(cap k:Nat)(h:k<s.size):(bytesRow s cap)[k]?=some (ah .u8 (s[k].toNat:Int)):=by
 unfold bytesRow;have hd:k<s.data.size:=h;rw[Array.getElem?_append_left (by simpa using hd),Array.getElem?_map,Array.getElem?_eq_getElem hd];rfl
theorem SH(s:ByteArray)(hs:Ji s)(w:ar):bm aq 223 #[.string s] w fun e w'=>e=aF (aG true)∧az w.heap.size w w':=by
 have Xw:=run_bytes_of_string (P:=aq) w 9 234 5 s Tryz.underlying9 Tryz.underlying234 Tryz.underlying5;have h1:=hs.size;have HS:=ai hs;generalize grownCap w s.size 0 5=cap at *;have hC:=I7 s cap;generalize bytesRow s cap=C at *;obtain⟨n,hn⟩:∃n,s.size=n:=⟨_,rfl⟩
 rw[hn] at Xw h1;have HN:=ai hn;have HC:=ai hC;clear hn hC hs;have hB1:az w.heap.size w (w.drew.alloc (au C 5 (C.size,C.size+1))):=(aw _ _).drew.alloc (by simp) _
 go_enter Tryz.func223,Tryz.ntmps223
 go_wp2;clear Xw
 go_loopw [3,4,8] (fun _ _ i wr=>∃k:Nat,k≤n∧i=ah ag k∧wr=(w.alloc (au C 5 (C.size,C.size+1))).drew) (fun _ _ i _=>n-(intOf i).toNat)
 case atStart=>exact⟨0,by omega,rfl,rfl⟩
 case round=>
  obtain⟨k,hk,rfl,rfl⟩:=hrel
  by_cases hlt:k<n
  ·have kh:k<s.size:=by rw[HN.out];exact hlt
   have hck:=HC.out k kh
   have hcell:(w.alloc (au C 5 (C.size,C.size+1))).cell? ⟨w.heap.size,k,none⟩=some (ah .u8 (s[k].toNat:Int)):=by
    unfold dC;rw[ay];exact hck
   have hch:=HS.out.chr k kh;have akW:s[k].toNat<256:=s[k].toNat_lt;generalize s[k].toNat=c at *;clear hck;have hI:=qd (c:Int) 97 122;have hD:=qd (c:Int) 48 57;have hcv:IntKind.i64.wrap (c:Int)=c:=eX _ (by omega) (by omega);rcases hch with hch|⟨hk0,hch⟩
   ·have e1:aQ (c:Int) 97 122=true:=gb.2 ⟨by omega,by omega⟩;rw[e1] at hI;clear hD e1;have HCH:=ai hch;clear hch
    go_wp2_with (go_at_call 138;refine(hI _).mono ?_;rintro e w' ⟨rfl,rfl⟩)
    go_roundw
    case rel=>exact⟨k+1,by omega,by go_num,trivial⟩
    case measure=>simp[intOf];omega
   ·have e1:aQ (c:Int) 97 122=false:=by unfold aQ;rw[decide_eq_false (by omega)];rfl
    have e2:aQ (c:Int) 48 57=true:=gb.2 ⟨by omega,by omega⟩;rw[e1] at hI;rw[e2] at hD;have e3:((k:Int)==0)=false:=by simp;omega
    have e4:(k==0)=false:=by simp;omega
    clear e1 e2;have HCH:=ai hch;have HK0:=ai hk0;clear hch hk0
    go_wp2_with fail
    refine(hI _).mono ?_;rintro e w' ⟨rfl,rfl⟩
    go_wp2_with fail
    refine(hD _).mono ?_;rintro e w' ⟨rfl,rfl⟩;go_wp2;go_roundw
    case rel=>exact⟨k+1,by omega,by go_num,trivial⟩
    case measure=>simp[intOf];omega
  ·obtain rfl:n=k:=by omega
   have hs1:=HS.out.size
   go_wp2_with (go_at_call 138;refine(iM _ _ _ (by omega) (by omega) _).mono ?_;rintro e w' ⟨rfl,rfl⟩)
   go_ret
   exact⟨rfl,((aw _ _).alloc (ax _) _).drew⟩
structure Mn where
 name:ByteArray
 lo:Int
 hi:Int
abbrev Mn.cells(m:Mn):Array Value:=#[.string m.name,ah ag m.lo,ah ag m.hi]
def fF(l:List Mn):List Value:=l.flatMap fun m=>m.cells.toList
theorem vD(l:List Mn):(fF l).length=3*l.length:=by
 induction l with
 |nil=>rfl
 |cons a l ih=>simp[fF] at ih ⊢;omega
theorem rS:∀(l:List Mn) (k j:Nat) (hk:k<l.length),j<3→(fF l)[3*k+j]?=l[k].cells[j]?
 |[],k,j,hk,_=>by simp at hk
 |a::l,0,j,_,hj=>by
  have:fF (a::l)=a.cells.toList++fF l:=rfl;rw[this,zK (by simp;omega)];simp
 |a::l,k+1,j,hk,hj=>by
  have e:fF (a::l)=a.cells.toList++fF l:=rfl;rw[e,List.getElem?_append_right (by simp;omega)];have:=rS l k j (by simpa using hk) hj;simp only[List.getElem_cons_succ];rw[←this]
  congr 1
  simp;omega
theorem CH{w:ar}{g off:Nat}{l:List Mn}(hc:∀j u,(fF l)[j]?=some u→w.cell? ⟨g,off+j,none⟩=some u)(k:Nat)(hk:k<l.length) :
  w.cell? ⟨g,off+k*3,none⟩=some (.string l[k].name)∧w.cell? ⟨g,off+k*3+1,none⟩=some (ah ag l[k].lo)∧w.cell? ⟨g,off+k*3+2,none⟩=some (ah ag l[k].hi):=
 ⟨hc (k*3) _ (by have:=rS l k 0 hk (by omega);rw[qw];simpa using this),hc (k*3+1) _ (by rw[qw,rS l k 1 hk (by omega)];rfl),hc (k*3+2) _ (by rw[qw,rS l k 2 hk (by omega)];rfl)⟩
structure wQ(l:List Mn):Prop where
 mem:∀m∈l,Ji m.name∧1≤m.lo∧m.lo≤m.hi∧m.hi≤99∧m.hi-m.lo<3
 apart:∀(i k:Nat) (hi:i<l.length) (hk:k<l.length),i<k→l[i].name≠l[k].name
 len:l.length≤3
theorem Ll{a b:ByteArray}(h:a≠b):¬a.toList=b.toList:=by
 intro e;rw[ByteArray.toList_eq,ByteArray.toList_eq] at e;obtain⟨⟨x⟩⟩:=a;obtain⟨⟨y⟩⟩:=b;have:x=y:=e;subst this;exact h rfl
theorem Ho(m:Mn)(o:ByteArray)(hne:m.name≠o)(B:Nat)(w:ar)(hB:w.cell? ⟨B,0,none⟩=some (.string o))(hBl:B<w.heap.size):bm aq 225 #[aO m.cells,bp (some ⟨B,0,none⟩)] w fun e w'=>e=aF (aG false)∧az w.heap.size w w':=by
 have H:=ai (Ll hne);clear hne
 go_enter Tryz.func225,Tryz.ntmps225
 go_wp2
 go_ret
 exact⟨pY (by simpa using H.out),(aw _ _).alloc (ax _) _⟩
theorem Kj(l:List Mn)(o:ByteArray)(hne:∀m∈l,m.name≠o)(g off L cap B:Nat)(w:ar)(hL:l.length=L)(hL2:L≤4294967296)(hg:g<w.heap.size)(hc:∀j u,(fF l)[j]?=some u→w.cell? ⟨g,off+j,none⟩=some u)
  (hB:w.cell? ⟨B,0,none⟩=some (.string o)) (hBl:B<w.heap.size) :
  bm aq 226 #[ae (some ⟨g,off,none⟩) L cap,.func (.func 225) #[] #[bp (some ⟨B,0,none⟩)]] w fun e w'=>e=aF (ah ag (-1))∧az w.heap.size w w':=by
 have HC:=ai hc;have HN:=ai hne;have HL:=ai hL;have HB:=ai hB;clear hc hne hL hB
 go_enter Tryz.func226,Tryz.ntmps226
 go_wp2
 go_loopw [5,8] (fun _ i wr=>∃k:Nat,k≤L∧i=ah ag k∧az w.heap.size w wr) (fun _ i _=>L-(intOf i).toNat)
 case atStart=>exact⟨0,by omega,rfl,aw _ _⟩
 case round=>
  obtain⟨k,hk,rfl,eh⟩:=hrel
  by_cases hlt:k<L
  ·have kh:k<l.length:=by rw[HL.out];exact hlt
   have CJ:∀o,wr.cell? ⟨g,o,none⟩=w.cell? ⟨g,o,none⟩:=fun o=>eh.cell (p:=⟨g,o,none⟩) hg;obtain⟨y0,y1,y2⟩:=CH (w:=wr) (fun j u hj=>(CJ _).trans (HC.out j u hj)) k kh;have hS:=Ho l[k] o (HN.out _ (cu kh)) B wr ((eh.cell (p:=⟨B,0,none⟩) hBl).trans HB.out) (bz hBl eh.size);clear CJ;have hsz:=eh.size;generalize l[k]=x at *
   go_wp2_with (go_at_call 225;refine hS.mono ?_;rintro e w2 ⟨rfl,hb2⟩)
   go_roundw
   case rel=>exact⟨k+1,by omega,by go_num,eh.trans (hb2.mono hsz)⟩
   case measure=>simp[intOf];omega
  ·obtain rfl:L=k:=by omega
   go_wp2
   go_ret
   exact⟨rfl,eh⟩
theorem Ex(l:List Mn)(o:ByteArray)(hne:∀m∈l,m.name≠o)(g off L cap B:Nat)(w:ar)(hL:l.length=L)(hL2:L≤4294967296)(hg:g<w.heap.size)(hc:∀j u,(fF l)[j]?=some u→w.cell? ⟨g,off+j,none⟩=some u)
  (hB:w.cell? ⟨B,0,none⟩=some (.string o)) (hBl:B<w.heap.size) :
  bm aq 224 #[ae (some ⟨g,off,none⟩) L cap,.func (.func 225) #[] #[bp (some ⟨B,0,none⟩)]] w fun e w'=>e=aF (aG false)∧az w.heap.size w w':=by
 have hI:=Kj l o hne g off L cap B w hL hL2 hg hc hB hBl;clear hne hL hc hB
 go_enter Tryz.func224,Tryz.ntmps224
 go_wp2_with (go_at_call 226;refine hI.mono ?_;rintro e w2 ⟨rfl,hb2⟩)
 go_ret
 exact⟨rfl,hb2⟩
theorem QO(b:BB)(men sent marks:aj)(l:List Mn)(hl:wQ l)(w:ar)(hv:Reads w men l.length (fF l)) :
  bm aq 220 #[aO (b.cells men sent marks)] w fun e w'=>e=aF (ah ag 0)∧az w.heap.size w w':=by
 have HM:=ai hl;have h3:=hl.len;rcases hv with⟨rfl,hn,_⟩|⟨g,off,cap,rfl,hn,hg,hc⟩
 ·obtain rfl:=aY hn;clear hn hl h3
  go_enter Tryz.func220,Tryz.ntmps220
  go_wp2
  go_loopw [14] (fun i wr=>i=ah ag 0∧az (w.heap.size+1) (w.alloc (au (b.cells (ae none 0 0) sent marks) 119)) wr) (fun _ _=>0)
  case atStart=>exact⟨rfl,aw _ _⟩
  case round=>
   obtain⟨rfl,eh⟩:=hrel;go_wp2
   go_ret
   exact⟨rfl,((aw _ _).alloc (ax _) _).trans (eh.mono (by omega))⟩
 ·have HC:=ai hc;clear hc hl;generalize hL:l.length=L at *;have HL:=ai hL;clear hL;have HK:Hid ((w.alloc (au (b.cells (ae (some ⟨g,off,none⟩) L cap) sent marks) 119)).heap[w.heap.size]?=some (au (b.cells (ae (some ⟨g,off,none⟩) L cap) sent marks) 119 (0,0))):=ai (ay w _)
  go_enter Tryz.func220,Tryz.ntmps220
  go_wp2
  go_loopw [3,4,14,19,24,32] (fun _ _ i _ _ _ wr=>∃k:Nat,k≤L∧i=ah ag k∧az (w.heap.size+1) (w.alloc (au (b.cells (ae (some ⟨g,off,none⟩) L cap) sent marks) 119)) wr) (fun _ _ i _ _ _ _=>L-(intOf i).toNat)
  case atStart=>exact⟨0,by omega,rfl,aw _ _⟩
  case round=>
   obtain⟨k,hk,rfl,eh⟩:=hrel;have hsz:=eh.size;simp at hsz;have Vz:w.heap.size<wr.heap.size:=by omega
   by_cases hlt:k<L
   ·have kh:k<l.length:=by rw[HL.out];exact hlt
    have CJ:∀o,wr.cell? ⟨g,o,none⟩=w.cell? ⟨g,o,none⟩:=fun o=>(eh.cell (p:=⟨g,o,none⟩) (by show g<_;omega)).trans (dY _ _ _ hg);obtain⟨y0,y1,y2⟩:=CH (w:=wr) (fun j u hj=>(CJ _).trans (HC.out j u hj)) k kh;obtain⟨Qk,hx⟩:=HM.out.mem l[k] (cu kh)
    have hne:∀m∈l.take k,m.name≠l[k].name:=by
     intro m hm;obtain⟨i,hi,rfl⟩:=List.mem_iff_getElem.1 hm;have hik:i<k:=by simp at hi;omega
     rw[List.getElem_take];exact HM.out.apart i k (by omega) kh hik
    have hrow:∀(j:Nat) (u:aj),(fF (l.take k))[j]?=some u→(fF l)[j]?=some u:=by
     intro j u hj
     have e:fF l=fF (l.take k)++fF (l.drop k):=by
      unfold fF;rw[←List.flatMap_append,List.take_append_drop]
     rw[e,zK (List.getElem?_eq_some_iff.1 hj).1];exact hj
    have HGW:=ai CJ;have HNE:=ai hne;have ag6:=ai hrow;have hlk:(l.take k).length=k:=by simp;omega
    have HLK:=ai hlk;have af1:=SH l[k].name Qk;clear CJ hne hrow hlk Qk;generalize l.take k=lk at *;generalize l[k]=x at *;have sI:wr.heap[w.heap.size]?=some (au (b.cells (ae (some ⟨g,off,none⟩) L cap) sent marks) 119 (0,0)):=(eh.block w.heap.size (by omega)).trans HK.out;have HKK:=ai sI;clear sI
    go_wp2_with fail
    refine(af1 _).mono ?_;rintro e w2 ⟨rfl,hb2⟩;have SS:w2.heap[wr.heap.size]?=some (au x.cells 79 (0,0)):=(hb2.block _ (by simp)).trans (ay wr _);have z0:w2.cell? ⟨wr.heap.size,0,none⟩=some (.string x.name):=by unfold dC;rw[SS];rfl
    have hs2:=hb2.size;simp at hs2;have acx:w2.heap[w.heap.size]?=some (au (b.cells (ae (some ⟨g,off,none⟩) L cap) sent marks) 119 (0,0)):=(hb2.block _ (by simp;omega)).trans ((aS _ _ _ Vz).trans HKK.out);have aci:∀o,w2.cell? ⟨g,o,none⟩=w.cell? ⟨g,o,none⟩:=fun o=>((hb2.cell (p:=⟨g,o,none⟩) (by show g<_;simp;omega)).trans (dY _ _ _ (by show g<_;omega))).trans (HGW.out o);have Zr:=Ex lk x.name HNE.out g off k cap wr.heap.size w2 HLK.out (by omega) (by omega) (fun j u hj=>(aci _).trans (HC.out j u (ag6.out j u hj))) z0 (by omega);obtain⟨x0,x1,x2,x3,x4,x5,x6,x7,x8,x9,nS,nR,oO,n4,oK⟩:=bM acx;have HXK:=ai SS;clear SS aci acx
    go_wp2_with fail
    refine Zr.mono ?_;rintro e w3 ⟨rfl,hb3⟩;have Vx:w3.heap[wr.heap.size]?=some (au x.cells 79 (0,0)):=(hb3.block _ (by omega)).trans HXK.out;have u1:w3.cell? ⟨wr.heap.size,1,none⟩=some (ah ag x.lo):=by unfold dC;rw[Vx];rfl
    have u2:w3.cell? ⟨wr.heap.size,2,none⟩=some (ah ag x.hi):=by unfold dC;rw[Vx];rfl
    have alW:=ai Vx;have hs3:=hb3.size;clear Vx x0 x1 x2 x3 x4 x5 x6 x7 x8 x9 nS nR oO n4 oK z0
    go_wp2_with fail
    refine(rU _ _ _ _ _ (by omega) (by omega) (by omega)).mono ?_;rintro e w4 ⟨rfl,hb4⟩;have v1:w4.cell? ⟨wr.heap.size,1,none⟩=some (ah ag x.lo):=(hb4.cell (p:=⟨wr.heap.size,1,none⟩) (by show wr.heap.size<_;omega)).trans u1;have v2:w4.cell? ⟨wr.heap.size,2,none⟩=some (ah ag x.hi):=(hb4.cell (p:=⟨wr.heap.size,2,none⟩) (by show wr.heap.size<_;omega)).trans u2;go_wp2;go_roundw
    case rel=>exact⟨k+1,by omega,by go_num,(((eh.alloc (by omega) _).trans (hb2.mono (by simp;omega))).trans (hb3.mono (by omega))).trans (hb4.mono (by omega))⟩
    case measure=>simp[intOf];omega
   ·obtain rfl:L=k:=by omega
    go_wp2
    go_ret
    exact⟨rfl,((aw _ _).alloc (ax _) _).trans (eh.mono (by omega))⟩
section
variable(P:Program)(w:ar)(a:Addr)(m:Mode)
@[go_sem] theorem RL (f:Fn) (c d:Array aj):(store a (.func f c d) m).run P w=stored P w a (.func f c d) m:=run_store P w a _ m rfl
end
structure Laid(w:ar):Prop where
 c0:w.cell? ⟨0,0,none⟩=some (.func (.func 218) #[] #[])
 c1:w.cell? ⟨0,1,none⟩=some (.func (.func 219) #[] #[])
 c2:w.cell? ⟨0,2,none⟩=some (.func (.func 220) #[] #[])
 c3:w.cell? ⟨0,3,none⟩=some (.func (.func 221) #[] #[])
 c4:w.cell? ⟨0,4,none⟩=some (.func (.func 222) #[] #[])
 lt:0<w.heap.size
theorem Laid.below{w w':ar}(h:Laid w)(hb:az w.heap.size w w'):Laid w':=
 ⟨(hb.cell (p:=⟨0,0,none⟩) h.lt).trans h.c0,(hb.cell (p:=⟨0,1,none⟩) h.lt).trans h.c1,(hb.cell (p:=⟨0,2,none⟩) h.lt).trans h.c2,(hb.cell (p:=⟨0,3,none⟩) h.lt).trans h.c3,(hb.cell (p:=⟨0,4,none⟩) h.lt).trans h.c4,bz h.lt hb.size⟩
structure cH(b:BB)(men sent marks:aj)(ml:List Mn)(ss:List Int)(ms:List Mk)(w:ar):Prop where
 ok:b.Ok
 gV:wQ ml
 l5:js b ss
 kG:jF b ms
 rm:Reads w men ml.length (fF ml)
 rs:Reads w sent ss.length (ss.map (aD ag))
 rk:Reads w marks ms.length (dm ms)
theorem cH.below{b:BB}{men sent marks:aj}{ml:List Mn}{ss:List Int}{ms:List Mk}{w w':ar}(h:cH b men sent marks ml ss ms w)(hb:az w.heap.size w w'):cH b men sent marks ml ss ms w':=
 ⟨h.ok,h.gV,h.l5,h.kG,h.rm.below hb,h.rs.below hb,h.rk.below hb⟩
theorem eY(b:BB)(men sent marks:aj)(ml:List Mn)(ss:List Int)(ms:List Mk)(w:ar)(hL:Laid w)(hB:cH b men sent marks ml ss ms w) :
  bm aq 71 #[aO (b.cells men sent marks)] w fun e w'=>e=aF (ah ag 0)∧az w.heap.size w w':=by
 obtain⟨l0,l1,l2,l3,l4,llt⟩:=hL;have i0:∀w,(mC 163 (aO #[.func (.func 218) #[] #[],.func (.func 219) #[] #[],.func (.func 220) #[] #[],.func (.func 221) #[] #[],.func (.func 222) #[] #[]]) (ah ag 0)).run aq w=.ok (aO #[.func (.func 218) #[] #[]]) w:=fun _=>by kernel_rfl
 have i1:∀w,(mC 163 (aO #[.func (.func 218) #[] #[],.func (.func 219) #[] #[],.func (.func 220) #[] #[],.func (.func 221) #[] #[],.func (.func 222) #[] #[]]) (ah ag 1)).run aq w=.ok (aO #[.func (.func 219) #[] #[]]) w:=fun _=>by kernel_rfl
 have i2:∀w,(mC 163 (aO #[.func (.func 218) #[] #[],.func (.func 219) #[] #[],.func (.func 220) #[] #[],.func (.func 221) #[] #[],.func (.func 222) #[] #[]]) (ah ag 2)).run aq w=.ok (aO #[.func (.func 220) #[] #[]]) w:=fun _=>by kernel_rfl
 have i3:∀w,(mC 163 (aO #[.func (.func 218) #[] #[],.func (.func 219) #[] #[],.func (.func 220) #[] #[],.func (.func 221) #[] #[],.func (.func 222) #[] #[]]) (ah ag 3)).run aq w=.ok (aO #[.func (.func 221) #[] #[]]) w:=fun _=>by kernel_rfl
 have i4:∀w,(mC 163 (aO #[.func (.func 218) #[] #[],.func (.func 219) #[] #[],.func (.func 220) #[] #[],.func (.func 221) #[] #[],.func (.func 222) #[] #[]]) (ah ag 4)).run aq w=.ok (aO #[.func (.func 222) #[] #[]]) w:=fun _=>by kernel_rfl
 have HK:Hid ((w.alloc (au (b.cells men sent marks) 28)).heap[w.heap.size]?=some (au (b.cells men sent marks) 28 (0,0))):=ai (ay w _)
 go_enter Tryz.func71,Tryz.ntmps71
 go_wp2
 go_loopw [4,5,7] (fun _ _ i wr=>((i=ah ag 0∨i=ah ag 1)∨(i=ah ag 2∨i=ah ag 3)∨(i=ah ag 4∨i=ah ag 5))∧az (w.heap.size+1) (w.alloc (au (b.cells men sent marks) 28)) wr) (fun _ _ i _=>5-(intOf i).toNat)
 case atStart=>exact⟨cA (cA rfl),aw _ _⟩
 case round=>
  obtain⟨hi,eh⟩:=hrel;have hsz:=eh.size;simp at hsz;have Vz:w.heap.size<wr.heap.size:=by omega
  have uo:az w.heap.size w wr:=((aw _ _).alloc (ax _) _).trans (eh.mono (by omega));have hB2:=hB.below uo;obtain⟨x0,x1,x2,x3,x4,x5,x6,x7,x8,x9,nS,nR,oO,n4,oK⟩:=bM ((eh.block w.heap.size (by omega)).trans HK.out);clear uo l0 l1 l2 l3 l4;rcases hi with(rfl|rfl)|(rfl|rfl)|(rfl|rfl)
  ·go_wp2_with (go_at_call 218;refine(Np b hB2.ok men sent marks _).mono ?_;rintro e w2 ⟨rfl,hb2⟩)
   have hs2:=hb2.size;simp at hs2;go_roundw
   case rel=>exact⟨cA (.inr rfl),(eh.alloc (by omega) _).trans (hb2.mono (by simp;omega))⟩
   case measure=>simp[intOf]
  ·go_wp2_with (go_at_call 219;refine(Nl b hB2.ok men sent marks _).mono ?_;rintro e w2 ⟨rfl,hb2⟩)
   have hs2:=hb2.size;simp at hs2;go_roundw
   case rel=>exact⟨.inr (cA (cA rfl)),(eh.alloc (by omega) _).trans (hb2.mono (by simp;omega))⟩
   case measure=>simp[intOf]
  ·go_wp2_with (go_at_call 220;refine(QO b men sent marks ml hB2.gV _ (hB2.rm.below ((aw _ _).alloc (ax _) _))).mono ?_;rintro e w2 ⟨rfl,hb2⟩)
   have hs2:=hb2.size;simp at hs2;go_roundw
   case rel=>exact⟨.inr (cA (.inr rfl)),(eh.alloc (by omega) _).trans (hb2.mono (by simp;omega))⟩
   case measure=>simp[intOf]
  ·go_wp2_with (go_at_call 221;refine(Nn b hB2.ok men sent marks ss hB2.l5 _ (hB2.rs.below ((aw _ _).alloc (ax _) _))).mono ?_;rintro e w2 ⟨rfl,hb2⟩)
   have hs2:=hb2.size;simp at hs2;go_roundw
   case rel=>exact⟨.inr (.inr (cA rfl)),(eh.alloc (by omega) _).trans (hb2.mono (by simp;omega))⟩
   case measure=>simp[intOf]
  ·go_wp2_with (go_at_call 222;refine(K7 b hB2.ok men sent marks ms hB2.kG _ (hB2.rk.below ((aw _ _).alloc (ax _) _))).mono ?_;rintro e w2 ⟨rfl,hb2⟩)
   have hs2:=hb2.size;simp at hs2;go_roundw
   case rel=>exact⟨.inr (.inr (.inr rfl)),(eh.alloc (by omega) _).trans (hb2.mono (by simp;omega))⟩
   case measure=>simp[intOf]
  ·go_wp2
   go_ret
   exact⟨rfl,((aw _ _).alloc (ax _) _).trans (eh.mono (by omega))⟩
end Go.Proofs.YtffladgmkiimjaaGreatDoor
namespace Go.Proofs.YtffladgmkiimjaaGreatDoor
open Go Go.RowKit Go.Lag Go.ChangeShapes
abbrev Kh:List (String × DataW Unit):=[("lagan/bell.checks",Rows.laid_lagan_bell_checks)]
theorem P9:Tryz.prog.globalNamed "lagan/bell.checks" = some 0:=by kernel_rfl
theorem SE:(Tryz.prog.globals[0]?).map (·.type)=some 163:=by kernel_rfl
theorem yS{W:ar}{n:Nat}{cs:List aj}{i:Nat}{f0:FuncId}{b:UInt8}{r:List UInt8}{xs:List (DataW (List UInt8) × List MemPlace)}(hlen:cs.length=5)(hi:i<5)
  (hel:∀(i:Nat),i<5→DataW.trod (funcToken aq) aq W 0 (fun _=>true) true n 162 ((cs.drop (i*1)).take 1)=xs[i]?) {q:List MemPlace} (hx:xs[i]?=some (.agg [.held (b::r)],q))
  (ab2:((List.range Tryz.prog.funcs.size).filter fun f=>(Tryz.prog.funcs[f]?).any (·.name.toUTF8.data.toList==b::r))=[f0]):cs[i]?=some (.func (.func f0) #[] #[]):=by
 have h:=hel i hi;rw[hx] at h;obtain⟨ys,m,-,hy,-,hl,hf⟩:=DataW.trod_struct Tryz.underlying162 h;have h0:=hf 0 _ rfl;have hl:ys.length=1:=hl
 match ys,hl with
 |[y],_=>
  have agL:Tryz.prog.cellsOf 125=1:=by kernel_rfl
  simp only[cK,List.map_nil,iq,DataW.agg.injEq,zP,and_true] at hy
  have e:List.take 1 (List.drop 0 (List.take 1 (List.drop (i*1) cs)))=[cs[i]'(by omega)]:=by
   rw[Nat.mul_one,dN (l:=cs) (i:=i) (by omega)];rfl
  have h0':DataW.trod (funcToken aq) aq W 0 (fun _=>true) true m 125 (List.take (Tryz.prog.cellsOf 125) (List.drop 0 (List.take 1 (List.drop (i*1) cs))))=some y:=h0;rw[agL,e] at h0';have h1:DataW.trod (funcToken aq) aq W 0 (fun _=>true) true m 125 [cs[i]'(by omega)]=some (.held (b::r),y.2):=by rw[h0',hy.1]
  have:=func_of_trod Tryz.underlying125 ab2 h1;rw[List.getElem?_eq_getElem (by omega),this]
theorem Vh{W:ar}(h:laidMetH aq Kh W):Laid W:=by
 obtain⟨g,t,cs,fuel,p,hg,ht,hv,htr⟩:=laidMetH.funcs h (.head _);obtain rfl:=bf (P9.symm.trans hg);obtain rfl:=bf (SE.symm.trans ht);obtain⟨xs,m,-,hx,hlen,hxl,hel⟩:=DataW.trod_array Tryz.underlying163 htr;have agJ:Tryz.prog.cellsOf 163=5:=by kernel_rfl
 have agK:Tryz.prog.cellsOf 162=1:=by kernel_rfl
 rw[agJ] at hlen;simp only[agK] at hel;simp only[iq] at hx;have hx:=hx.1;simp only[DataW.funcsOut,DataW.funcsOutAll,DataW.agg.injEq] at hx
 match xs,hxl with
 |[x0,x1,x2,x3,x4],_=>
  simp only[cK,List.map_nil,zP,and_true] at hx;obtain⟨y0,y1,y2,y3,y4⟩:=hx;have hc:=World.var?_cell hg hv;have hs:∀(i:Nat) (u:aj),cs.toList[i]?=some u→W.cell? ⟨0,i,none⟩=some u:=fun i u h=>(hc i).trans (by rw[←Array.getElem?_toList];exact h);have z0:=hs 0 _ (yS (f0:=218) (q:=x0.2) hlen (by decide) hel (congrArg some (Prod.ext y0.symm rfl)) (by kernel_rfl));have z1:=hs 1 _ (yS (f0:=219) (q:=x1.2) hlen (by decide) hel (congrArg some (Prod.ext y1.symm rfl)) (by kernel_rfl));have z2:=hs 2 _ (yS (f0:=220) (q:=x2.2) hlen (by decide) hel (congrArg some (Prod.ext y2.symm rfl)) (by kernel_rfl));have z3:=hs 3 _ (yS (f0:=221) (q:=x3.2) hlen (by decide) hel (congrArg some (Prod.ext y3.symm rfl)) (by kernel_rfl));have z4:=hs 4 _ (yS (f0:=222) (q:=x4.2) hlen (by decide) hel (congrArg some (Prod.ext y4.symm rfl)) (by kernel_rfl));exact⟨z0,z1,z2,z3,z4,Nat.lt_of_not_le fun h=>by rw[dC,Array.getElem?_eq_none h] at z0;cases z0⟩
end Go.Proofs.YtffladgmkiimjaaGreatDoor
