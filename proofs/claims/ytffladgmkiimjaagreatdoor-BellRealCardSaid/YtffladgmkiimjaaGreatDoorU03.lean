/- LONE WALKS: the reference's checks: Between (35), Inside (147), isMinu .. -/
import Derived.Test.YtffladgmkiimjaaGreatDoorU02
set_option linter.all false
set_option maxHeartbeats 0
set_option maxRecDepth 1000000
open Go.Lag.Yields renaming value -> Gw
open Array renaming getElem?_eq_some_iff -> ah
open Bool renaming and_eq_true -> aJ
open Classical renaming byContradiction -> fG
open Go renaming Value -> aj,World -> ak,wp_cond_split -> bW,results_tmp -> bZ,bodyPost_ret -> bj,Calls -> bm,wp_seq -> dR,wp_skip -> ej,wp_ret -> fA,wpList_store_row -> fY,wp_block -> jv,run_loadVar_row -> jw,wpList_load_row -> mH
open Go.Code renaming wp -> Gz
open Go.Ending renaming returned -> aY,returned -> bA
open Go.Instr renaming indexAt -> fp
open Go.IntKind renaming i64 -> af,wrap_i64 -> bg
open Go.Lib renaming hid -> ai
open Go.Obj renaming cells -> au
open Go.Operand renaming tmp -> aL
open Go.Proofs.Tryz renaming prog -> aq,underlying28 -> cM,underlying122 -> jl
open Go.RowKit renaming Hid -> mU
open Go.RowKit.Below renaming refl -> aB,heap_alloc -> aZ,heap_setCell -> bu
open Go.Value renaming int -> aD,bool -> aI,agg -> aR,slice -> ae,int -> ag,oneCell' -> cD,tuple -> cH,pointer -> eX,ownBlock -> jy
open Go.World renaming alloc_heap_new -> az
open List renaming any_eq_true -> H4,range -> aS,all_eq_true -> aX,mem_range -> bV,mem_map -> dn,getElem_of_mem -> iG,range_eq_range' -> ng
open Nat renaming le_trans -> aF,le_refl -> aO,lt_of_lt_of_le -> bw,reduceEqDiff -> bz
open Option.some renaming inj -> bp
open Or renaming inl -> cJ
namespace Go.Proofs.YtffladgmkiimjaaGreatDoor
open Go.RowKit Go.Lag
def fW(n l m:Int)(w:ak):bm aq 35 #[ag af n,ag af l,ag af m] w (Rt w (aI (aV n l m))):=by
 refine kZ Tryz.func35 rfl rfl [(2,ag af m),(1,ag af l),(0,ag af n)] ⟨jg rfl,jg rfl,jg rfl,trivial⟩ fun a hF=>?_;refine(fun h:∀W,Bw w W->Gz aq _ _ a W=>h w (aB _ _)) ?_;intro W HB;refine fP [(6,aI false)] hF ?_;intro a W ho hF;replace HB:=HB.tr ho;replace hF:=hF.tl;refine fP [(6,aI ((decide (l<=n))&&(decide (n<=m))))] hF ?_;intro a W ho hF;replace HB:=HB.tr ho;refine fA ?_;exact bj (bZ rfl _ _ _) hF.defers ⟨congrArg bA (((hF.g 0 rfl):a.eval (aL 6)=aI ((decide (l<=n))&&(decide (n<=m)))).trans (rfl)),HB⟩
def cG(lo hi l m:Int):Bool:=(decide (l<=lo)&&decide (lo<=hi))&&decide (hi<=m)
def rQ(lo hi l m:Int)(w:ak):bm aq 147 #[aR #[ag af lo,ag af hi],ag af l,ag af m] w (Rt w (aI (cG lo hi l m))):=by
 refine kZ Tryz.func147 rfl rfl [(2,ag af m),(1,ag af l),(0,aR #[ag af lo,ag af hi])] ⟨jg rfl,jg rfl,jg rfl,trivial⟩ fun a hF=>?_;refine(fun h:∀W,Bw w W->Gz aq _ _ a W=>h w (aB _ _)) ?_;intro W HB
 refine nY [fun v ds w9=>∃B,v=pv B 0/\w9.heap[B]?=some (au #[ag af lo,ag af hi] 23 (0,0)),pV (aI false)]
  _ kQ hF.size hF.base ?_ ?_ ?_
 .refine⟨?_,sV,trivial⟩
  .rintro v ds w1 w2 hS ⟨B,h1,h2⟩ hb;exact⟨B,h1,aA h2 hb⟩
 .refine⟨?_,?_,trivial⟩<;>rintro ev w1 hS hc hg hf ⟨-,-,b0,-⟩ hd
  .refine Gw (v:=pv w1.heap.size 0) (w':=w1.alloc (au #[ag af lo,ag af hi] 23)) ?_ ⟨⟨_,rfl,az _ _⟩,cJ dx⟩;go_simp
  exact tV
 intro a W hR;have ho:=hR.s;obtain⟨B3,e3,K3⟩:=hR.val 0;replace e3:a.eval (aL 3)=pv B3 0:=e3;replace HB:=HB.tr ho;replace hF:=((hR.fr hF).cons (t:=3) e3).cons (t:=6) (hR.val 1);clear hR ho e3;replace hF:=hF.tl;refine wF ⟨[],[],[(B3,#[ag af lo,ag af hi])],[]⟩ [(6,aI (((decide (l<=lo))&&(decide (lo<=hi)))&&(decide (hi<=m))))] hF hF ⟨fun w1 hS=>⟨_,_,aA K3 hS⟩,trivial⟩ trivial ?_;intro a W ho hF;replace HB:=HB.tr ho;replace K3:=aA K3 ho;refine fA ?_;exact bj (bZ rfl _ _ _) hF.defers ⟨congrArg bA (((hF.g 0 rfl):a.eval (aL 6)=aI (((decide (l<=lo))&&(decide (lo<=hi)))&&(decide (hi<=m)))).trans (rfl)),HB⟩
def sk(b:BB)(bq aM aC:aj)(n:Int)(w:ak):bm aq 134 #[aR (b.cells bq aM aC),ag af n] w (Rt w (aI (aV n 1 b.minutes))):=by
 refine kZ Tryz.func134 rfl rfl [(1,ag af n),(0,aR (b.cells bq aM aC))] ⟨jg rfl,jg rfl,trivial⟩ fun a hF=>?_;refine(fun h:∀W,Bw w W->Gz aq _ _ a W=>h w (aB _ _)) ?_;intro W HB
 refine nY [fun v ds w9=>∃B,v=pv B 0/\w9.heap[B]?=some (au (b.cells bq aM aC) 28 (0,0)),pV (aI false)]
  _ kQ hF.size hF.base ?_ ?_ ?_
 .refine⟨?_,sV,trivial⟩
  .rintro v ds w1 w2 hS ⟨B,h1,h2⟩ hb;exact⟨B,h1,aA h2 hb⟩
 .refine⟨?_,?_,trivial⟩<;>rintro ev w1 hS hc hg hf ⟨-,b0,-⟩ hd
  .refine Gw (v:=pv w1.heap.size 0) (w':=w1.alloc (au (b.cells bq aM aC) 28)) ?_ ⟨⟨_,rfl,az _ _⟩,cJ dx⟩;go_simp
  exact tV
 intro a W hR;have ho:=hR.s;obtain⟨B2,e2,K2⟩:=hR.val 0;replace e2:a.eval (aL 2)=pv B2 0:=e2;replace HB:=HB.tr ho;replace hF:=((hR.fr hF).cons (t:=2) e2).cons (t:=4) (hR.val 1);clear hR ho e2;replace hF:=hF.tl;refine wF ⟨[],[(3,aI (aV n 1 b.minutes))],[(B2,(b.cells bq aM aC))],[]⟩ [(4,aI (aV n 1 b.minutes))] hF hF ⟨fun w1 hS=>⟨_,_,aA K2 hS⟩,trivial⟩ ⟨fun w1 hS _=>gc (fW n 1 b.minutes w1),trivial⟩ ?_;intro a W ho hF;replace HB:=HB.tr ho;replace K2:=aA K2 ho;refine fA ?_;exact bj (bZ rfl _ _ _) hF.defers ⟨congrArg bA (((hF.g 0 rfl):a.eval (aL 4)=aI (aV n 1 b.minutes)).trans (rfl)),HB⟩
def TU{lo hi:Int}(h:cG lo hi 0 99=true):IntKind.i64.wrap (hi-lo)=hi-lo:=by
 unfold cG at h;simp at h;rw[bg];omega
def Df(b:BB):Bool:=(((!(aV b.room 1 99))||(!(aV b.depth 0 99)))||(!(aV b.least 0 99)))||(!(aV b.minutes 1 8))
def F6(b:BB):Bool:=(((!(aV b.bS 0 99))||(!(aV b.iU 0 99)))||(!(aV b.iO 0 99)))||(!(aV b.eI 0 3))
def I3(b:BB):Bool:=((!(cG b.pl b.pm 1 b.minutes))||(!(cG b.ll b.lm 0 99)))||decide (b.lm-b.ll≥3)
def px(b:BB):Int:=if Df b then 1 else if F6 b then 1 else if I3 b then 1 else 0
def Hj(b:BB)(bq aM aC:aj)(w:ak):bm aq 145 #[aR (b.cells bq aM aC)] w (Rt w (ag af (px b))):=by
 refine kZ Tryz.func145 rfl rfl [(0,aR (b.cells bq aM aC))] ⟨jg rfl,trivial⟩ fun a hF=>?_;refine(fun h:∀W,Bw w W->Gz aq _ _ a W=>h w (aB _ _)) ?_;intro W HB
 refine nY [fun v ds w9=>∃B,v=pv B 0/\w9.heap[B]?=some (au (b.cells bq aM aC) 28 (0,0)),pV (ag af 0)]
  _ kQ hF.size hF.base ?_ ?_ ?_
 .refine⟨?_,sV,trivial⟩
  .rintro v ds w1 w2 hS ⟨B,h1,h2⟩ hb;exact⟨B,h1,aA h2 hb⟩
 .refine⟨?_,?_,trivial⟩<;>rintro ev w1 hS hc hg hf ⟨b0,-⟩ hd
  .refine Gw (v:=pv w1.heap.size 0) (w':=w1.alloc (au (b.cells bq aM aC) 28)) ?_ ⟨⟨_,rfl,az _ _⟩,cJ dx⟩;go_simp
  exact tV
 intro a W hR;have ho:=hR.s;obtain⟨B1,e1,K1⟩:=hR.val 0;replace e1:a.eval (aL 1)=pv B1 0:=e1;replace HB:=HB.tr ho;replace hF:=((hR.fr hF).cons (t:=1) e1).cons (t:=2) (hR.val 1);clear hR ho e1;refine dR ?_;refine wF ⟨[],[(2,aI (aV b.room 1 99)),(7,aI (aV b.depth 0 99)),(13,aI (aV b.least 0 99)),(19,aI (aV b.minutes 1 8))],[(B1,(b.cells bq aM aC))],[]⟩ [(24,aI ((((!(aV b.room 1 99))||(!(aV b.depth 0 99)))||(!(aV b.least 0 99)))||(!(aV b.minutes 1 8))))] hF hF ⟨fun w1 hS=>⟨_,_,aA K1 hS⟩,trivial⟩ ⟨fun w1 hS _=>gc (fW b.room 1 99 w1),fun w1 hS _=>gc (fW b.depth 0 99 w1),fun w1 hS _=>gc (fW b.least 0 99 w1),fun w1 hS _=>gc (fW b.minutes 1 8 w1),trivial⟩ ?_;intro a W ho hF;replace HB:=HB.tr ho;replace K1:=aA K1 ho;refine bW (t:=((((!(aV b.room 1 99))||(!(aV b.depth 0 99)))||(!(aV b.least 0 99)))||(!(aV b.minutes 1 8)))) (hF.g 0 rfl) (fun Kb=>?_) (fun Kb=>?_)
 .replace hF:=hF.tl;replace hF:=hF.tl;refine fP [(2,ag af 1)] hF ?_;intro a W ho hF;replace HB:=HB.tr ho;replace K1:=aA K1 ho;refine fA ?_;exact bj (bZ rfl _ _ _) hF.defers ⟨congrArg bA (((hF.g 0 rfl):a.eval (aL 2)=ag af 1).trans (by unfold px;rw[if_pos (show Df b=true from Kb)])),HB⟩
 replace hF:=hF.tl;refine ej ?_;refine dR ?_;refine wF ⟨[],[(2,aI (aV b.bS 0 99)),(7,aI (aV b.iU 0 99)),(13,aI (aV b.iO 0 99)),(19,aI (aV b.eI 0 3))],[(B1,(b.cells bq aM aC))],[]⟩ [(46,aI ((((!(aV b.bS 0 99))||(!(aV b.iU 0 99)))||(!(aV b.iO 0 99)))||(!(aV b.eI 0 3))))] hF hF ⟨fun w1 hS=>⟨_,_,aA K1 hS⟩,trivial⟩ ⟨fun w1 hS _=>gc (fW b.bS 0 99 w1),fun w1 hS _=>gc (fW b.iU 0 99 w1),fun w1 hS _=>gc (fW b.iO 0 99 w1),fun w1 hS _=>gc (fW b.eI 0 3 w1),trivial⟩ ?_;intro a W ho hF;replace HB:=HB.tr ho;replace K1:=aA K1 ho;refine bW (t:=((((!(aV b.bS 0 99))||(!(aV b.iU 0 99)))||(!(aV b.iO 0 99)))||(!(aV b.eI 0 3)))) (hF.g 0 rfl) (fun YE=>?_) (fun YE=>?_)
 .replace hF:=hF.tl;replace hF:=hF.tl;refine fP [(2,ag af 1)] hF ?_;intro a W ho hF;replace HB:=HB.tr ho;replace K1:=aA K1 ho;refine fA ?_;exact bj (bZ rfl _ _ _) hF.defers ⟨congrArg bA (((hF.g 0 rfl):a.eval (aL 2)=ag af 1).trans (by unfold px;rw[if_neg (by rw[show Df b=_ from Kb];simp),if_pos (show F6 b=true from YE)])),HB⟩
 replace hF:=hF.tl;refine ej ?_;refine dR ?_
 refine nY [pV (pv B1 10),pV (aR #[ag af b.pl,ag af b.pm]),pV (pv B1 3),pV (ag af b.minutes),pV (aI (cG b.pl b.pm 1 b.minutes)),pV (aI (!(cG b.pl b.pm 1 b.minutes))),pV (aI (!(cG b.pl b.pm 1 b.minutes))),pC (!(!(cG b.pl b.pm 1 b.minutes))) (pv B1 8),pC (!(!(cG b.pl b.pm 1 b.minutes))) (aR #[ag af b.ll,ag af b.lm]),pC (!(!(cG b.pl b.pm 1 b.minutes))) (aI (cG b.ll b.lm 0 99)),pC (!(!(cG b.pl b.pm 1 b.minutes))) (aI (!(cG b.ll b.lm 0 99))),pV (aI ((!(cG b.pl b.pm 1 b.minutes))||(!(cG b.ll b.lm 0 99)))),pV (aI ((!(cG b.pl b.pm 1 b.minutes))||(!(cG b.ll b.lm 0 99)))),pC (!((!(cG b.pl b.pm 1 b.minutes))||(!(cG b.ll b.lm 0 99)))) (pv B1 8),pC (!((!(cG b.pl b.pm 1 b.minutes))||(!(cG b.ll b.lm 0 99)))) (pv B1 9),pC (!((!(cG b.pl b.pm 1 b.minutes))||(!(cG b.ll b.lm 0 99)))) (ag af b.lm),pC (!((!(cG b.pl b.pm 1 b.minutes))||(!(cG b.ll b.lm 0 99)))) (pv B1 8),pC (!((!(cG b.pl b.pm 1 b.minutes))||(!(cG b.ll b.lm 0 99)))) (pv B1 8),pC (!((!(cG b.pl b.pm 1 b.minutes))||(!(cG b.ll b.lm 0 99)))) (ag af b.ll),pC (!((!(cG b.pl b.pm 1 b.minutes))||(!(cG b.ll b.lm 0 99)))) (ag af (b.lm-b.ll)),pC (!((!(cG b.pl b.pm 1 b.minutes))||(!(cG b.ll b.lm 0 99)))) (aI (decide ((b.lm-b.ll)≥3))),pV (aI (((!(cG b.pl b.pm 1 b.minutes))||(!(cG b.ll b.lm 0 99)))||(decide ((b.lm-b.ll)≥3))))]
  _ kQ hF.size hF.base ?_ ?_ ?_
 .exact⟨sV,sV,sV,sV,sV,sV,sV,sC,sC,sC,sC,sV,sV,sC,sC,sC,sC,sC,sC,sC,sC,sV,trivial⟩
 .refine⟨?_,?_,?_,?_,?_,?_,?_,?_,?_,?_,?_,?_,?_,?_,?_,?_,?_,?_,?_,?_,?_,?_,trivial⟩<;>rintro ev w1 hS hc hg hf ⟨-,b1,-,-⟩ hd
  all_goals try
   try have d0:ev (aL _)=_:=hd.1 rfl
   refine yw rfl ?_ rfl;go_simp;done
  all_goals try
   try have d0:ev (aL _)=_:=hd.1 rfl
   try have c0:_->ev (aL _)=_:=hd.1 rfl
   try have d1:ev (aL _)=_:=hd.2.1 rfl
   first|refine gC d0 mG fun hA=>?_|refine gC d1 mG fun hA=>?_
   try replace c0:=c0 hA
   refine yw rfl ?_ (fun _=>rfl);go_simp;done
  .have d0:ev (aL 47)=_:=hd.1 rfl;have z10:=aK (aA K1 hS) 10 _ rfl;have z11:=aK (aA K1 hS) 11 _ rfl;exact tV
  .have d2:ev (aL 49)=_:=hd.1 rfl;have z:=aK (aA K1 hS) 3 _ rfl;exact tV
  .have d1:ev (aL 48)=_:=hd.1 rfl;have d3:ev (aL 50)=_:=hd.2.1 rfl;refine yc (rQ b.pl b.pm 1 b.minutes w1) ?_ (fun _=>rfl);go_simp
  .have d7:_->ev (aL 54)=_:=hd.1 rfl;have d6:ev (aL 53)=_:=hd.2.1 rfl;refine gC d6 mG fun hA=>?_;have y7:=d7 hA;have z8:=aK (aA K1 hS) 8 _ rfl;have z9:=aK (aA K1 hS) 9 _ rfl;refine yv ?_ (fun _=>rfl);go_simp
  .have d8:_->ev (aL 55)=_:=hd.1 rfl;have d6:ev (aL 53)=_:=hd.2.1 rfl;refine gC d6 mG fun hA=>?_;have y8:=d8 hA;refine yc (rQ b.ll b.lm 0 99 w1) ?_ (fun _=>fun _=>rfl);go_simp
  .have d6:ev (aL 53)=_:=hd.1 rfl;have d10:_->ev (aL 57)=_:=hd.2.1 rfl;exact yO rfl hc d6 (fun hq=>d10 (by simp[hq])) (rfl)
  .have d14:_->ev (aL 61)=_:=hd.1 rfl;have d12:ev (aL 59)=_:=hd.2.1 rfl;refine gC d12 mG fun hA=>?_;have KX:=d14 hA;have z:=aK (aA K1 hS) 9 _ rfl;refine yv ?_ (fun _=>rfl);go_simp
  .have d17:_->ev (aL 64)=_:=hd.1 rfl;have d12:ev (aL 59)=_:=hd.2.1 rfl;refine gC d12 mG fun hA=>?_;have y17:=d17 hA;have z:=aK (aA K1 hS) 8 _ rfl;refine yv ?_ (fun _=>rfl);go_simp
  .have d15:_->ev (aL 62)=_:=hd.1 rfl;have d18:_->ev (aL 65)=_:=hd.2.1 rfl;have d12:ev (aL 59)=_:=hd.2.2.1 rfl;refine gC d12 mG fun hA=>?_;have Jd:=d15 hA;have y18:=d18 hA;have hw:=TU (lo:=b.ll) (hi:=b.lm) (by revert hA;cases cG b.ll b.lm 0 99<;>simp);refine yv ?_ (fun _=>rfl);go_simp
  have d12:ev (aL 59)=_:=hd.1 rfl;have d20:_->ev (aL 67)=_:=hd.2.1 rfl;exact yO rfl hc d12 (fun hq=>d20 (by simp[hq])) (rfl)
 intro a W hR;have ho:=hR.s;replace HB:=HB.tr ho;replace K1:=aA K1 ho;replace hF:=(hR.fr hF).cons (t:=68) (hR.val 21);clear hR ho;refine bW (t:=(((!(cG b.pl b.pm 1 b.minutes))||(!(cG b.ll b.lm 0 99)))||(decide ((b.lm-b.ll)≥3)))) (hF.g 0 rfl) (fun abH=>?_) (fun abH=>?_)
 .replace hF:=hF.tl;replace hF:=hF.tl;refine fP [(2,ag af 1)] hF ?_;intro a W ho hF;replace HB:=HB.tr ho;replace K1:=aA K1 ho;refine fA ?_;exact bj (bZ rfl _ _ _) hF.defers ⟨congrArg bA (((hF.g 0 rfl):a.eval (aL 2)=ag af 1).trans (by unfold px;rw[if_neg (by rw[show Df b=_ from Kb];simp),if_neg (by rw[show F6 b=_ from YE];simp),if_pos (show I3 b=true from abH)])),HB⟩
 replace hF:=hF.tl;refine ej ?_;replace hF:=hF.tl;refine fP [(2,ag af 0)] hF ?_;intro a W ho hF;replace HB:=HB.tr ho;replace K1:=aA K1 ho;refine fA ?_;exact bj (bZ rfl _ _ _) hF.defers ⟨congrArg bA (((hF.g 0 rfl):a.eval (aL 2)=ag af 0).trans (by unfold px;rw[if_neg (by rw[show Df b=_ from Kb];simp),if_neg (by rw[show F6 b=_ from YE];simp),if_neg (by rw[show I3 b=_ from abH];simp)])),HB⟩
def og(b:BB)(pl:List Int)(i:Nat):Int:=if !(aV (pl.getD i 0) 1 b.minutes) then 6 else if 0<i/\pl.getD i 0<=pl.getD (i-1) 0 then 7 else 0
def lR(b:BB)(pl:List Int):Int:=(((aS pl.length).map (og b pl)).find? fun h=>h !=0).getD (if (pl.length:Int)>b.eI then 8 else 0)
def tU(f:Nat->Int):∀(n:Nat),(∀i,i<n->f i=0)->((aS n).map f).find? (fun h=>h !=0)=none:=by
 intro n h;rw[List.find?_eq_none];intro x hx;obtain⟨i,hi,rfl⟩:=dn.1 hx;simp[h i (bV.1 hi)]
def Ah(f:Nat->Int)(n k:Nat)(hk:k<n)(h:∀i,i<k->f i=0)(h0:f k≠0):((aS n).map f).find? (fun h=>h !=0)=some (f k):=by
 have e:aS n=aS k++k::List.range' (k+1) (n-k-1):=by
  rw[ng,ng,show n=k+(1+(n-k-1)) by omega,<-List.range'_append_1,Nat.zero_add,Nat.add_comm 1,List.range'_succ]
  congr 3
  omega
 have h1:(f k !=0)=true:=by simpa using h0
 rw[e,List.map_append,List.find?_append,tU f k h,List.map_cons,List.find?_cons,h1];rfl
def Reads.atK{w:ak}{p:Option Addr}{n c:Nat}{zs:List Int}(h:Reads w (ae p n c) n (zs.map (aD af)))(k:Nat)(hk:k<zs.length):∃g off,p=some ⟨g,off,none⟩/\g<w.heap.size/\∀j (hj:j<zs.length),w.cell? ⟨g,off+j,none⟩=some (ag af (zs.getD j 0)):=by
 rcases h with⟨_,_,h⟩|⟨g,off,cap,h,_,hg,hc⟩
 .rw[List.map_eq_nil_iff.1 h] at hk;simp at hk
 cases h;refine⟨g,off,rfl,hg,fun j hj=>hc j _ ?_⟩;simp[hj]
def Hi(b:BB)(bq aM aC:aj)(p1:Option Addr)(c1:Nat)(pl:List Int)(hlen:pl.length<=1000)(w:ak)(hv:Reads w (ae p1 pl.length c1) pl.length (pl.map (aD af))):bm aq 107 #[aR (b.cells bq aM aC),ae p1 pl.length c1] w (Rt w (ag af (lR b pl))):=by
 refine kZ Tryz.func107 rfl rfl [(1,ae p1 pl.length c1),(0,aR (b.cells bq aM aC))] ⟨jg rfl,jg rfl,trivial⟩ fun a hF=>?_;refine(fun h:∀W,Bw w W->Gz aq _ _ a W=>h w (aB _ _)) ?_;intro W HB;have HC:mU (∀k,k<pl.length->∃g off,p1=some ⟨g,off,none⟩/\g<w.heap.size/\∀j (hj:j<pl.length),w.cell? ⟨g,off+j,none⟩=some (ag af (pl.getD j 0))):=ai fun k hk=>hv.atK k hk;clear hv
 refine nY [fun v ds w9=>∃B,v=pv B 0/\w9.heap[B]?=some (au (b.cells bq aM aC) 28 (0,0)),pV (ag af 0)]
  _ kQ hF.size hF.base ?_ ?_ ?_
 .refine⟨?_,sV,trivial⟩
  .rintro v ds w1 w2 hS ⟨B,h1,h2⟩ hb;exact⟨B,h1,aA h2 hb⟩
 .refine⟨?_,?_,trivial⟩<;>rintro ev w1 hS hc hg hf ⟨-,b0,-⟩ hd
  .refine Gw (v:=pv w1.heap.size 0) (w':=w1.alloc (au (b.cells bq aM aC) 28)) ?_ ⟨⟨_,rfl,az _ _⟩,cJ dx⟩;go_simp
  exact tV
 intro a W hR;have ho:=hR.s;obtain⟨B2,e2,K2⟩:=hR.val 0;replace e2:a.eval (aL 2)=pv B2 0:=e2;replace HB:=HB.tr ho;replace hF:=((hR.fr hF).cons (t:=2) e2).cons (t:=4) (hR.val 1);clear hR ho e2;refine dR ?_;refine fP [(5,ag af 0)] hF ?_;intro a W ho hF;replace HB:=HB.tr ho;replace K2:=aA K2 ho;refine jv ?_;refine wp_loop (fun a W=>∃k:Nat,k<=pl.length/\(∀i,i<k->og b pl i=0)/\gw 38 a [(5,ag af (k:Nat)),(2,pv B2 0),(1,ae p1 pl.length c1),(0,aR (b.cells bq aM aC))]/\W.heap[B2]?=some (au (b.cells bq aM aC) 28 (0,0))/\Bw w W) (fun a _=>pl.length-(intOf (a.eval (aL 5))).toNat) ⟨0,Nat.zero_le _,fun i hi=>by omega,⟨hF.size,hF.defers,(by obtain⟨b5,-,b2,b1,b0,-⟩:=hF.base;exact⟨b5,b2,b1,b0,trivial⟩)⟩,K2,HB⟩ ?_;clear hF K2 HB
 try clear a
 try clear W
 rintro a W ⟨k,hk,hpre,hF,K2,HB⟩;have hk5:a.eval (aL 5)=ag af (k:Nat):=(hF.g 0 rfl)
 refine dR ?_;refine fP [(9,aI (decide ((k:Int)<(pl.length:Int))))] hF ?_;intro a W ho hF;replace HB:=HB.tr ho;replace K2:=aA K2 ho;refine bW (t:=(decide ((k:Int)<(pl.length:Int)))) (hF.g 0 rfl) (fun Sv=>?_) (fun Sv=>?_)
 .replace hF:=hF.tl;have hlt:k<pl.length:=by simpa using Sv
  obtain⟨g,off,rfl,hg,hcell⟩:=HC.out k hlt;have hW:w.heap.size<=W.heap.size:=HB.size;obtain⟨x,hx⟩:∃x,pl.getD k 0=x:=⟨_,rfl⟩
  have CX:∀w9,Bw w w9->w9.cell? ⟨g,off+k,none⟩=some (ag af x):=fun w9 h9=>(h9.cell (p:=⟨g,off+k,none⟩) hg).trans (by rw[<-hx];exact hcell k hlt);rcases k with _|j
  .have Cx:mU (∀w9,Bw W w9->w9.cell? ⟨g,off,none⟩=some (ag af x)):=ai fun w9 h9=>CX w9 (HB.trans (h9.mono hW));refine ej ?_;refine dR ?_;refine jv ?_;refine dR ?_;refine I1 kQ ⟨[],[(3,pv g off),(4,ag af x),(5,aI (aV x 1 b.minutes))],[(B2,(b.cells bq aM aC))],[]⟩ [(18,aI (!(aV x 1 b.minutes)))] hF ⟨fun w1 hS=>⟨_,_,aA K2 hS⟩,trivial⟩ ⟨fun w1 hS _=>gs (fp 25 (ae (some ⟨g,off,none⟩) pl.length c1) (ag af ((0:Nat):Int))) (by go_simp),fun w1 hS _=>gl (Cx.out w1 hS),fun w1 hS _=>gc (sk b bq aM aC x w1),trivial⟩ ?_;intro a W ho hF;replace HB:=HB.tr ho;replace K2:=aA K2 ho;replace hW:=aF hW ho.size;replace Cx:=ai fun w9 (h9:Bw W w9)=>Cx.out w9 (ho.trans (h9.mono ho.size));refine bW (t:=(!(aV x 1 b.minutes))) (hF.g 0 rfl) (fun Bp=>?_) (fun Bp=>?_)
   .replace hF:=hF.tl
    have hres:lR b pl=6:=by
     have h6:og b pl 0=6:=by unfold og;rw[hx];simp at Bp;simp[Bp]
     unfold lR;rw[Ah _ _ 0 hlt hpre (by rw[h6];decide),h6];rfl
    refine fP [(4,ag af 6)] hF ?_;intro a W ho hF;replace HB:=HB.tr ho;replace K2:=aA K2 ho;replace hW:=aF hW ho.size;replace Cx:=ai fun w9 (h9:Bw W w9)=>Cx.out w9 (ho.trans (h9.mono ho.size));refine fA ?_;exact bj (bZ rfl _ _ _) hF.defers ⟨congrArg bA (((hF.g 0 rfl):a.eval (aL 4)=ag af 6).trans (congrArg _ hres.symm)),HB⟩
   replace hF:=hF.tl;refine ej ?_;refine I1 kQ ⟨[(2,false)],[(1,aI false)],[],[]⟩ [(32,aI false)] hF trivial ⟨fun w1 hS _=>ge (congrArg Value.bool (show(decide ((((0:Nat):Int):Int)>(0:Int)))=false from decide_eq_false oM)),trivial⟩ ?_;intro a W ho hF;replace HB:=HB.tr ho;replace K2:=aA K2 ho;replace hW:=aF hW ho.size;replace Cx:=ai fun w9 (h9:Bw W w9)=>Cx.out w9 (ho.trans (h9.mono ho.size));refine wp_cond (t:=false) (hF.g 0 rfl) ?_;replace hF:=hF.tl;have hz:og b pl 0=0:=by unfold og;rw[hx];simp at Bp;simp[Bp]
   refine ej ?_;have ov:=hF;replace hF:=hF.tl;refine KS ⟨[],[(1,ag af (((0:Nat):Int)+1))],[],[]⟩ [(5,ag af (((0:Nat):Int)+1))] ov hF trivial ⟨fun w1 hS _=>ge (congrArg (aD af) (show IntKind.i64.wrap (((0:Nat):Int)+1)=(((0:Nat):Int)+1) by rw[bg];omega)),trivial⟩ ?_;intro a W ho hF;clear ov;replace HB:=HB.tr ho;replace K2:=aA K2 ho;replace hW:=aF hW ho.size;replace Cx:=ai fun w9 (h9:Bw W w9)=>Cx.out w9 (ho.trans (h9.mono ho.size));refine⟨⟨0+1,oM,?_,⟨hF.size,hF.defers,hF.base⟩,K2,HB⟩,?_⟩
   .intro i hi
    by_cases hik:i<0
    .exact hpre i hik
    obtain rfl:i=0:=oM;exact hz
   rw[show a.eval (aL 5)=ag af (((0:Nat):Int)+1) from(hF.g 0 rfl)];simp only[hk5];simp[intOf];omega
  have Cx:mU (∀w9,Bw W w9->w9.cell? ⟨g,off+(j+1),none⟩=some (ag af x)):=ai fun w9 h9=>CX w9 (HB.trans (h9.mono hW));obtain⟨y,hy⟩:∃y,pl.getD j 0=y:=⟨_,rfl⟩
  have Cy:mU (∀w9,Bw W w9->w9.cell? ⟨g,off+j,none⟩=some (ag af y)):=ai fun w9 h9=>((HB.trans (h9.mono hW)).cell (p:=⟨g,off+j,none⟩) hg).trans (by rw[<-hy];exact hcell j oM);refine ej ?_;refine dR ?_;refine jv ?_;refine dR ?_;refine I1 kQ ⟨[],[(3,eX (some ⟨g,off+(j+1),none⟩)),(4,ag af x),(5,aI (aV x 1 b.minutes))],[(B2,(b.cells bq aM aC))],[]⟩ [(18,aI (!(aV x 1 b.minutes)))] hF ⟨fun w1 hS=>⟨_,_,aA K2 hS⟩,trivial⟩ ⟨fun w1 hS _=>gs (fp 25 (ae (some ⟨g,off,none⟩) pl.length c1) (ag af ((j+1:Nat):Int))) (by have AY:¬((pl.length:Int)<=(j:Int)+1):=(by omega);have hi2:0<=(j:Int)+1:=(by omega);go_simp),fun w1 hS _=>gl (Cx.out w1 hS),fun w1 hS _=>gc (sk b bq aM aC x w1),trivial⟩ ?_;intro a W ho hF;replace HB:=HB.tr ho;replace K2:=aA K2 ho;replace hW:=aF hW ho.size;replace Cx:=ai fun w9 (h9:Bw W w9)=>Cx.out w9 (ho.trans (h9.mono ho.size));replace Cy:=ai fun w9 (h9:Bw W w9)=>Cy.out w9 (ho.trans (h9.mono ho.size));refine bW (t:=(!(aV x 1 b.minutes))) (hF.g 0 rfl) (fun Bp=>?_) (fun Bp=>?_)
  .replace hF:=hF.tl
   have hres:lR b pl=6:=by
    have h6:og b pl (j+1)=6:=by unfold og;rw[hx];simp at Bp;simp[Bp]
    unfold lR;rw[Ah _ _ (j+1) hlt hpre (by rw[h6];decide),h6];rfl
   refine fP [(4,ag af 6)] hF ?_;intro a W ho hF;replace HB:=HB.tr ho;replace K2:=aA K2 ho;replace hW:=aF hW ho.size;replace Cx:=ai fun w9 (h9:Bw W w9)=>Cx.out w9 (ho.trans (h9.mono ho.size));replace Cy:=ai fun w9 (h9:Bw W w9)=>Cy.out w9 (ho.trans (h9.mono ho.size));refine fA ?_;exact bj (bZ rfl _ _ _) hF.defers ⟨congrArg bA (((hF.g 0 rfl):a.eval (aL 4)=ag af 6).trans (congrArg _ hres.symm)),HB⟩
  replace hF:=hF.tl;refine ej ?_;refine I1 kQ ⟨[(2,true)],[(1,aI true),(5,eX (some ⟨g,off+(j+1),none⟩)),(6,ag af x),(9,ag af (j:Int)),(10,pv g (off+j)),(11,ag af y)],[],[]⟩ [(32,aI (decide (x<=y)))] hF trivial ⟨fun w1 hS _=>ge (congrArg Value.bool (show(decide ((((j+1:Nat):Int):Int)>(0:Int)))=true from decide_eq_true oM)),fun w1 hS _=>gs (fp 25 (ae (some ⟨g,off,none⟩) pl.length c1) (ag af ((j+1:Nat):Int))) (by have AY:¬((pl.length:Int)<=(j:Int)+1):=(by omega);have hi2:0<=(j:Int)+1:=(by omega);go_simp),fun w1 hS _=>gl (Cx.out w1 hS),fun w1 hS _=>ge (congrArg (aD af) (show IntKind.i64.wrap (((j+1:Nat):Int)-1)=(j:Int) by rw[bg];omega)),fun w1 hS _=>gs (fp 25 (ae (some ⟨g,off,none⟩) pl.length c1) (ag af (j:Int))) (by have AY:¬(pl.length<=j):=(by omega);go_simp),fun w1 hS _=>gl (Cy.out w1 hS),trivial⟩ ?_;intro a W ho hF;replace HB:=HB.tr ho;replace K2:=aA K2 ho;replace hW:=aF hW ho.size;replace Cx:=ai fun w9 (h9:Bw W w9)=>Cx.out w9 (ho.trans (h9.mono ho.size));replace Cy:=ai fun w9 (h9:Bw W w9)=>Cy.out w9 (ho.trans (h9.mono ho.size));refine bW (t:=(decide (x<=y))) (hF.g 0 rfl) (fun Dt=>?_) (fun Dt=>?_)
  .replace hF:=hF.tl
   have hres:lR b pl=7:=by
    have h7:og b pl (j+1)=7:=by unfold og;rw[hx,show((j+1)-1)=j from rfl,hy];simp at Bp Dt;simp[Bp,Dt]
    unfold lR;rw[Ah _ _ (j+1) hlt hpre (by rw[h7];decide),h7];rfl
   refine fP [(4,ag af 7)] hF ?_;intro a W ho hF;replace HB:=HB.tr ho;replace K2:=aA K2 ho;replace hW:=aF hW ho.size;replace Cx:=ai fun w9 (h9:Bw W w9)=>Cx.out w9 (ho.trans (h9.mono ho.size));replace Cy:=ai fun w9 (h9:Bw W w9)=>Cy.out w9 (ho.trans (h9.mono ho.size));refine fA ?_;exact bj (bZ rfl _ _ _) hF.defers ⟨congrArg bA (((hF.g 0 rfl):a.eval (aL 4)=ag af 7).trans (congrArg _ hres.symm)),HB⟩
  replace hF:=hF.tl;have hz:og b pl (j+1)=0:=by unfold og;rw[hx,show((j+1)-1)=j from rfl,hy];simp at Bp Dt;simp[Bp];omega
  refine ej ?_;have ov:=hF;replace hF:=hF.tl;refine KS ⟨[],[(1,ag af (((j+1:Nat):Int)+1))],[],[]⟩ [(5,ag af (((j+1:Nat):Int)+1))] ov hF trivial ⟨fun w1 hS _=>ge (congrArg (aD af) (show IntKind.i64.wrap (((j+1:Nat):Int)+1)=(((j+1:Nat):Int)+1) by rw[bg];omega)),trivial⟩ ?_;intro a W ho hF;clear ov;replace HB:=HB.tr ho;replace K2:=aA K2 ho;replace hW:=aF hW ho.size;replace Cx:=ai fun w9 (h9:Bw W w9)=>Cx.out w9 (ho.trans (h9.mono ho.size));replace Cy:=ai fun w9 (h9:Bw W w9)=>Cy.out w9 (ho.trans (h9.mono ho.size));refine⟨⟨(j+1)+1,oM,?_,⟨hF.size,hF.defers,hF.base⟩,K2,HB⟩,?_⟩
  .intro i hi
   by_cases hik:i<(j+1)
   .exact hpre i hik
   obtain rfl:i=(j+1):=oM;exact hz
  rw[show a.eval (aL 5)=ag af (((j+1:Nat):Int)+1) from(hF.g 0 rfl)];simp only[hk5];simp[intOf];omega
 replace hF:=hF.tl;refine wp_exit ?_;have Ab:k=pl.length:=by simp at Sv;omega
 rw[Ab] at hpre;show Gz aq _ _ a W;refine dR ?_;refine wF ⟨[],[],[(B2,(b.cells bq aM aC))],[]⟩ [(37,aI (decide ((pl.length:Int)>b.eI)))] hF hF ⟨fun w1 hS=>⟨_,_,aA K2 hS⟩,trivial⟩ trivial ?_;intro a W ho hF;replace HB:=HB.tr ho;replace K2:=aA K2 ho;refine bW (t:=(decide ((pl.length:Int)>b.eI))) (hF.g 0 rfl) (fun YG=>?_) (fun YG=>?_)
 .replace hF:=hF.tl;have hres:lR b pl=8:=by unfold lR;rw[tU _ _ hpre];simp at YG;simp[YG]
  refine fP [(4,ag af 8)] hF ?_;intro a W ho hF;replace HB:=HB.tr ho;replace K2:=aA K2 ho;refine fA ?_;exact bj (bZ rfl _ _ _) hF.defers ⟨congrArg bA (((hF.g 0 rfl):a.eval (aL 4)=ag af 8).trans (congrArg _ hres.symm)),HB⟩
 replace hF:=hF.tl;have hres:lR b pl=0:=by unfold lR;rw[tU _ _ hpre];simp at YG;simp;omega
 refine ej ?_;refine fP [(4,ag af 0)] hF ?_;intro a W ho hF;replace HB:=HB.tr ho;replace K2:=aA K2 ho;refine fA ?_;exact bj (bZ rfl _ _ _) hF.defers ⟨congrArg bA (((hF.g 0 rfl):a.eval (aL 4)=ag af 0).trans (congrArg _ hres.symm)),HB⟩
def Y3(n:Int)(pl:List Int)(i:Nat):Int:=if !(aV (pl.getD i 0) 0 (n-1)) then 6 else if 0<i/\pl.getD i 0<=pl.getD (i-1) 0 then 7 else 0
def acH(n:Int)(pl:List Int):Int:=(((aS pl.length).map (Y3 n pl)).find? fun h=>h !=0).getD 0
def Uo(b:BB)(bq aM aC:aj)(ml:List Mn)(ss:List Int)(ms:List Mk)(w:ak)(hL:Laid w)(hB:cQ b bq aM aC ml ss ms w)(hne:bf b ml ss ms≠[])(cp cq:Nat)
  (hown:∀W,Bw w W->bm aq 131 #[aR (b.cells bq aM aC),pv cp 0,pv cq 0] W fun e W'=>e=aY (ag af 0)/\Bw W W') :
  bm aq 103 #[aR (b.cells bq aM aC),.func (.func 131) #[] #[pv cp 0,pv cq 0]] w fun e w'=>∃v,e=aY (cH #[aR (b.open bq aM aC v),ag af 0])/\iv w' w.heap.size v (bf b ml ss ms)/\Bw w w':=by
 have ug:mU (∀W,Bw w W->bm aq 71 #[aR (b.cells bq aM aC)] W fun e w'=>e=aY (ag af 0)/\Bw W w'):=ai fun W hb=>eO b bq aM aC ml ss ms W (hL.below hb) (hB.below hb);have WN:mU (∀W,Bw w W->bm aq 116 #[.func (.func 117) #[aR (b.cells bq aM aC)] #[]] W fun e w'=>∃v,e=aY v/\iv w' W.heap.size v (bf b ml ss ms)/\Bw W w'):=ai fun W hb=>o_ b bq aM aC ml ss ms W (hB.below hb);have NB:=ai hown;obtain⟨pm,cm,rfl,_⟩:=aT hB.rm;obtain⟨pn,cn,rfl,_⟩:=aT hB.rs;obtain⟨pk,ck,rfl,_⟩:=aT hB.rk;have jX:0<(bf b ml ss ms).length:=List.length_pos_iff.2 hne;clear hL hB hne hown;generalize bf b ml ss ms=all at *;generalize ml.length=lm at *;generalize ss.length=ln at *;generalize ms.length=lk at *;have b0:Bw w ((w.alloc (au (b.sl pm lm cm pn ln cn pk lk ck) 28)).alloc (au iE 122)):=dx.alloc sM _;have HT:mU (Two w (b.sl pm lm cm pn ln cn pk lk ck) 28 iE 122 ((w.alloc (au (b.sl pm lm cm pn ln cn pk lk ck) 28)).alloc (au iE 122))):=ai ⟨(Two.mk' w _ _ _ _).one,(Two.mk' w _ _ _ _).two,b0,sM⟩;have Jb:=ai b0;clear b0
 go_enter Tryz.func103,Tryz.ntmps103
 go_wp2_with (first
  |(refine mH rfl 122 _ rfl _ rfl 122 _ (0,0) _ HL7.out jl rfl kQ ?_)
  |(refine fY rfl 122 _ _ rfl _ _ rfl rfl 122 _ PQ.out kQ rfl (by simp[cD]) ?_)
  |(go_at_call 71;refine(ug.out _ Jb.out).mono ?_;clear ug;rintro e w1 ⟨rfl,hb1⟩
    have sZ:=HT.out.next hb1;have pE:=ai sZ
    obtain⟨x0,x1,x2,x3,x4,x5,x6,x7,x8,x9,qD,qC,rH,rz,rB⟩:=cg sZ.one
    clear sZ hb1)
  |(go_at_call 131;refine(NB.out _ (pE.out.below.alloc (by have:=pE.out.size;omega) _)).mono ?_;clear NB;rintro e w2 ⟨rfl,hb2⟩
    have Dp:=(pE.out.next ((aB _ _).alloc (aO _) (au (b.open (ae pm lm cm) (ae pn ln cn) (ae pk lk ck) (ae none 0 0)) 122))).next hb2;have Hs:=ai Dp
    have hk2:=(hb2.block w1.heap.size sM).trans (az w1 _);have Hu:=ai hk2;have hs1:=pE.out.size;have hs2:=hb2.size;obtain⟨y0,y1,y2,y3,y4,y5,y6,y7,y8,y9,NS,PW,PV,PU,KX,Jd⟩:=jJ hk2
    clear Dp hk2 hb2)
  |(go_at_call 116;refine(WN.out _ Hs.out.below).mono ?_;clear WN;rintro e w3 ⟨v,rfl,jc,hb3⟩
    have Gq:=Hs.out.next hb3;have QU:=ai Gq;have NC:=ai jc
    simp only[World.size_alloc] at hs2;have hk3:=(hb3.block w1.heap.size oM).trans Hu.out;have HK3:=ai hk3;have hs3:=hb3.size;clear y0 y1 y2 y3 y4 y5 y6 y7 y8 y9 NS PW PV PU KX Jd;have Jd:=aK hk3 15 _ rfl;have f7:=cZ hk3 15;have pF:=ai hb3
    obtain⟨gv,pg,rfl,Fj⟩:∃gv pg,v=ae (some ⟨gv,0,none⟩) all.length pg/\w2.heap.size<=gv:=by
     rcases jc.1.2 with⟨_,h0⟩|⟨g,cap,cur,rfl,hg,_⟩
     .omega
     exact⟨g,cap,rfl,hg⟩
    have HL7:mU ((w3.setCell ⟨w1.heap.size,15,none⟩ (ae (some ⟨gv,0,none⟩) all.length pg)).heap[w1.heap.size]?=some (au (b.open (ae pm lm cm) (ae pn ln cn) (ae pk lk ck) (ae (some ⟨gv,0,none⟩) all.length pg)) 122 (0,0))):=ai (dc _ hk3);have PQ:mU ((w3.setCell ⟨w1.heap.size,15,none⟩ (ae (some ⟨gv,0,none⟩) all.length pg)).heap[w.heap.size+1]?=some (au iE 122 (0,0))):=ai ((bu _ _ _ _ (by show w.heap.size+1≠w1.heap.size;omega)).trans Gq.two)
    clear Gq hk3 hb3 jc))
 refine bj (results_cell_tmp (g:=w.heap.size+1) rfl rfl (jw _ _ 122 122 _ (0,0) _ (dg PQ.out) jl rfl kQ)) rfl ⟨_,rfl,?_,?_⟩
 .have hs1:=pE.out.size;refine(NC.out.at_ fun g hg=>?_).base oM;have Fo:g=gv:=by simpa [jy] using hg.symm
  subst Fo;exact(setRow_other oM).trans (bu _ _ _ _ (by show g≠w1.heap.size;omega))
 have hs1:=pE.out.size;exact dA (QU.out.below.setCell (p:=⟨w1.heap.size,15,none⟩) (by show _<=w1.heap.size;omega) _) oM
abbrev iD:Array Value:=AZ
def I8(b:BB)(bq aM aC:aj)(ml:List Mn)(ss:List Int)(ms:List Mk)(w:ak)(hL:Laid w)(hB:cQ b bq aM aC ml ss ms w)(hne:bf b ml ss ms≠[]) :
  bm aq 150 #[aR (b.cells bq aM aC)] w fun e w'=>∃m' s' k',e=aY (cH #[aR (b.cells m' s' k'),ag af 0])/\fX b m' s' k' ml ss ms w'/\sW w.heap.size m' s' k'/\Bw w w':=by
 obtain⟨pm,cm,rfl,_⟩:=aT hB.rm;obtain⟨pn,cn,rfl,_⟩:=aT hB.rs;obtain⟨pk,ck,rfl,_⟩:=aT hB.rk;have b0:Bw w ((w.alloc (au (b.sl pm ml.length cm pn ss.length cn pk ms.length ck) 28)).alloc (au iD 28)):=dx.alloc sM _;have HT:mU (Two w (b.sl pm ml.length cm pn ss.length cn pk ms.length ck) 28 iD 28 ((w.alloc (au (b.sl pm ml.length cm pn ss.length cn pk ms.length ck) 28)).alloc (au iD 28))):=ai ⟨(Two.mk' w _ _ _ _).one,(Two.mk' w _ _ _ _).two,b0,sM⟩;have ug:=ai (eO b _ _ _ ml ss ms _ (hL.below b0) (hB.below b0))
 have HSo:mU (∀W,Bw w W->bm aq 119 #[aR (b.sl pm ml.length cm pn ss.length cn pk ms.length ck)] W fun e w'=>e=aY (aI true)/\Bw W w'):=ai fun W hb=>by
  have:=Lm b _ _ _ ml ss ms W (hB.below hb);rw[decide_eq_true hne] at this;exact this
 have NB:mU (∀W,Bw w W->bm aq 157 #[aR (b.sl pm ml.length cm pn ss.length cn pk ms.length ck)] W fun e w'=>∃m' s' k',e=aY (aR (b.cells m' s' k'))/\fX b m' s' k' ml ss ms w'/\sW W.heap.size m' s' k'/\Bw W w'):=ai fun W hb=>XV b _ _ _ ml ss ms W (hB.below hb);have HML:=ai hB.gS;clear hL hB hne b0
 go_enter Tryz.func150,Tryz.ntmps150
 go_wp2_with (first
  |(refine fY rfl 28 _ _ rfl _ _ rfl rfl 28 _ HZ.out kQ rfl (by simp[cD]) ?_)
  |(go_at_call 71;refine ug.out.mono ?_;clear ug;rintro e w1 ⟨rfl,hb1⟩
    have sZ:=HT.out.next hb1;have pE:=ai sZ
    obtain⟨x0,x1,x2,x3,x4,x5,x6,x7,x8,x9,qD,qC,rH,rz,rB⟩:=cg sZ.one
    clear sZ hb1)
  |(go_at_call 119;refine(HSo.out _ pE.out.below).mono ?_;clear HSo;rintro e w2 ⟨rfl,hb2⟩
    have Dp:=pE.out.next hb2;have Hs:=ai Dp
    clear x0 x1 x2 x3 x4 x5 x6 x7 x8 x9 qD qC rH rz rB;obtain⟨x0,x1,x2,x3,x4,x5,x6,x7,x8,x9,qD,qC,rH,rz,rB⟩:=cg Dp.one
    clear Dp hb2)
  |(go_at_call 157;refine(NB.out _ Hs.out.below).mono ?_;clear NB;rintro e w3 ⟨m',s',k',rfl,QB,hf3,hb3⟩
    have QU:=ai (Hs.out.next hb3);have HZ:=ai QU.out.two;obtain⟨p5,c5,rfl,_⟩:=aT QB.rm;obtain⟨p8,c8,rfl,_⟩:=aT QB.rs;obtain⟨Xb,c11,rfl,_⟩:=aT QB.rk;have pF:=ai QB;have WH:mU (fX b (ae p5 ml.length c5) (ae p8 ss.length c8) (ae Xb ms.length c11) ml ss ms (w3.setRow (w.heap.size+1) (b.sl p5 ml.length c5 p8 ss.length c8 Xb ms.length c11))):=ai (QB.setRow hf3 (by have:=Hs.out.size;omega));have HF3:=ai (hf3.base Hs.out.below.size)
    clear QB hb3 hf3))
 refine bj (results_cell_tmp (g:=w.heap.size+1) rfl rfl (jw _ _ 28 28 _ (0,0) _ (dg HZ.out) cM rfl kQ)) rfl ⟨_,_,_,rfl,WH.out,HF3.out,dA QU.out.below oM⟩
def zU(a1 a2 b1 b2 m1 m2:Int)(w:ak)(a:Act)(h4:a.tmps.getD 4 undef=eX (some ⟨w.heap.size+1+1,0,none⟩))(h5:a.tmps.getD 5 undef=aI (decide (m1<=m2)))(hd:a.defers=[]) :
  bodyPost aq Tryz.f153 (fun e w'=>e=aY (cH #[aR #[ag af m1,ag af m2],aI (decide (m1<=m2))])/\Bw w w') Exit.ret a
   ((((w.alloc (au #[ag af a1,ag af a2] 23)).alloc (au #[ag af b1,ag af b2] 23)).alloc (au #[ag af m1,ag af m2] 23)).alloc (au #[ag af m1,ag af m2] 23)).drew:=by
 have b0:=(((((aB w.heap.size w).alloc (aO _) (au #[ag af a1,ag af a2] 23)).alloc sM (au #[ag af b1,ag af b2] 23)).alloc sO (au #[ag af m1,ag af m2] 23)).alloc sO (au #[ag af m1,ag af m2] 23)).drew;have hk:=(np w #[ag af a1,ag af a2] #[ag af b1,ag af b2] #[ag af m1,ag af m2] 23 23 23).2.2;have hk2:=(aZ _ (au #[ag af m1,ag af m2] 23) _ (ah.1 hk).1).trans hk;refine bj (results_cell_tmp (g:=w.heap.size+1+1) rfl h4 (jw _ _ 23 23 _ (0,0) _ hk2 Tryz.underlying23 rfl kQ)) hd ⟨by rw[h5],b0⟩
def UF(a1 a2 b1 b2:Int)(w:ak) :
  bm aq 153 #[aR #[ag af a1,ag af a2],aR #[ag af b1,ag af b2]] w (Rt w (cH #[aR #[ag af (max a1 b1),ag af (min a2 b2)],aI (decide (max a1 b1<=min a2 b2))])):=by
 have key:∀(m1 m2:Int),max a1 b1=m1->min a2 b2=m2->bm aq 153 #[aR #[ag af a1,ag af a2],aR #[ag af b1,ag af b2]] w (Rt w (cH #[aR #[ag af m1,ag af m2],aI (decide (m1<=m2))])):=by
  intro m1 m2 h1 h2
  go_enter Tryz.func153,Tryz.ntmps153
  rcases Int.lt_or_le a1 b1 with q1|q1<;>rcases Int.lt_or_le b2 a2 with q2|q2
  .obtain rfl:m1=b1:=oM;obtain rfl:m2=b2:=oM;clear h1 h2;go_wp2
   go_region
   go_wp2;exact zU a1 a2 m1 m2 m1 m2 w _ rfl rfl rfl
  .obtain rfl:m1=b1:=oM;obtain rfl:m2=a2:=oM;clear h1 h2;go_wp2
   go_region
   go_wp2;exact zU a1 m2 m1 b2 m1 m2 w _ rfl rfl rfl
  .obtain rfl:m1=a1:=oM;obtain rfl:m2=b2:=oM;clear h1 h2;go_wp2
   go_region
   go_wp2;exact zU m1 a2 b1 m2 m1 m2 w _ rfl rfl rfl
  obtain rfl:m1=a1:=oM;obtain rfl:m2=a2:=oM;clear h1 h2;go_wp2
  go_region
  go_wp2;exact zU m1 m2 b1 b2 m1 m2 w _ rfl rfl rfl
 exact key _ _ rfl rfl
def BB.lk(b:BB)(l m:Int):BB:={ b with ll:=l,lm:=m }
def BB.aeq{b:BB}(h:b.Ok){l m:Int}(h0:0<=l)(h1:l<=m)(h2:m<=99)(h3:m-l<3):(b.lk l m).Ok:=⟨h.room,h.depth,h.least,h.minutes,h.bS,h.iU,h.eI,h.iO,⟨h0,h1,h2,h3⟩,h.Oh⟩
def cQ.lk{b:BB}{bq aM aC:aj}{ml:List Mn}{ss:List Int}{ms:List Mk}{w:ak}(h:cQ b bq aM aC ml ss ms w){l m:Int}(h0:0<=l)(h1:l<=m)(h2:m<=99)(h3:m-l<3):cQ (b.lk l m) bq aM aC ml ss ms w:=
 ⟨BB.aeq h.ok h0 h1 h2 h3,h.gS,⟨h.mE.mem,h.mE.asc,h.mE.len⟩,⟨h.kI.mem,h.kI.len⟩,h.rm,h.rs,h.rk⟩
def W6(b:BB)(bq aM aC:aj)(ml:List Mn)(ss:List Int)(ms:List Mk)(w:ak)(hL:Laid w)(hB:cQ b bq aM aC ml ss ms w)(lo hi:Int)(h0:0<=lo)(h1:lo<=hi)(h2:hi<=99)(z1 z2:Int)(hz1:max b.ll lo=z1)(hz2:min b.lm hi=z2)(hz:z1<=z2)
  (hne:bf (b.lk z1 z2) ml ss ms≠[]) :
  bm aq 80 #[aR (b.cells bq aM aC),aR #[ag af lo,ag af hi]] w fun e w'=>∃m' s' k',e=aY (cH #[aR ((b.lk z1 z2).cells m' s' k'),ag af 0])/\fX (b.lk z1 z2) m' s' k' ml ss ms w'/\Bw w w':=by
 have hlk:=hB.ok.leak;obtain⟨pm,cm,rfl,_⟩:=aT hB.rm;obtain⟨pn,cn,rfl,_⟩:=aT hB.rs;obtain⟨pk,ck,rfl,_⟩:=aT hB.rk;have Vl:=np w (b.sl pm ml.length cm pn ss.length cn pk ms.length ck) #[ag af lo,ag af hi] iD 28 23 28;have b0:Bw w (((w.alloc (au (b.sl pm ml.length cm pn ss.length cn pk ms.length ck) 28)).alloc (au #[ag af lo,ag af hi] 23)).alloc (au iD 28)):=(dx.alloc sM _).alloc sO _;have HT:mU (Two w (b.sl pm ml.length cm pn ss.length cn pk ms.length ck) 28 #[ag af lo,ag af hi] 23 (((w.alloc (au (b.sl pm ml.length cm pn ss.length cn pk ms.length ck) 28)).alloc (au #[ag af lo,ag af hi] 23)).alloc (au iD 28))):=ai ⟨Vl.1,Vl.2.1,b0,sM⟩;have HZ0:=ai Vl.2.2;have ug:=ai (eO b _ _ _ ml ss ms _ (hL.below b0) (hB.below b0))
 have HAg:mU (∀W,Bw w W->bm aq 150 #[aR ((b.lk z1 z2).cells (ae pm ml.length cm) (ae pn ss.length cn) (ae pk ms.length ck))] W fun e w'=>∃m' s' k',e=aY (cH #[aR ((b.lk z1 z2).cells m' s' k'),ag af 0])/\fX (b.lk z1 z2) m' s' k' ml ss ms w'/\sW W.heap.size m' s' k'/\Bw W w'):=ai fun W hb=>
  I8 (b.lk z1 z2) _ _ _ ml ss ms W (hL.below hb) ((hB.below hb).lk oM hz oM oM) hne
 have Xh:=fun W=>UF b.ll b.lm lo hi W;rw[hz1,hz2,decide_eq_true hz] at Xh;have HMt:=ai Xh;clear hL hB hne b0 Vl Xh hz1 hz2
 go_enter Tryz.func80,Tryz.ntmps80
 go_wp2_with (first
  |(refine mH rfl 28 _ rfl _ rfl 28 _ (0,0) _ HK4.out cM rfl kQ ?_)
  |(refine fY rfl 28 _ _ rfl _ _ rfl rfl 28 _ HZ5.out kQ rfl (by simp[cD]) ?_)
  |(go_at_call 71;refine ug.out.mono ?_;clear ug;rintro e w1 ⟨rfl,hb1⟩
    have sZ:=HT.out.next hb1;have pE:=ai sZ
    have Zn:=ai ((hb1.block (w.heap.size+2) sM).trans HZ0.out);have y0:=aK sZ.two 0 _ rfl;have y1:=aK sZ.two 1 _ rfl
    clear sZ hb1)
  |(go_at_call 152;refine(tH lo hi 0 99 _ h0 h1 h2).mono ?_;rintro e w2 ⟨rfl,hb2⟩
    have Dp:=pE.out.next hb2;have Hs:=ai Dp
    have HZ2:=ai ((hb2.block _ (ah.1 Zn.out).1).trans Zn.out);have x8:=aK Dp.one 8 _ rfl;have x9:=aK Dp.one 9 _ rfl;have v0:=aK Dp.two 0 _ rfl;have v1:=aK Dp.two 1 _ rfl
    clear Dp hb2)
  |(go_at_call 153;refine(HMt.out _).mono ?_;rintro e w3 ⟨rfl,hb3⟩
    have Gq:=Hs.out.next hb3;have QU:=ai Gq
    have HZ3:=ai ((hb3.block _ (ah.1 HZ2.out).1).trans HZ2.out);have hx3:=(aZ w3 (au #[ag af z1,ag af z2] 23) _ (ah.1 Gq.one).1).trans Gq.one;have u8:=aK hx3 8 _ rfl;have u9:=aK hx3 9 _ rfl;have f8:=cZ hx3 8;have f9:=cZ hx3 9;have HK4:mU ((((w3.alloc (au #[ag af z1,ag af z2] 23)).setCell ⟨w.heap.size,8,none⟩ (ag af z1)).setCell ⟨w.heap.size,9,none⟩ (ag af z2)).heap[w.heap.size]?=some (au ((b.lk z1 z2).cells (ae pm ml.length cm) (ae pn ss.length cn) (ae pk ms.length ck)) 28 (0,0))):=ai (dc _ (dc _ hx3));have HB4:mU (Bw w (((w3.alloc (au #[ag af z1,ag af z2] 23)).setCell ⟨w.heap.size,8,none⟩ (ag af z1)).setCell ⟨w.heap.size,9,none⟩ (ag af z2))):=ai (((Gq.below.alloc Gq.below.size _).setCell (p:=⟨w.heap.size,8,none⟩) (aO _) _).setCell (p:=⟨w.heap.size,9,none⟩) (aO _) _);have PQ:mU ((((w3.alloc (au #[ag af z1,ag af z2] 23)).setCell ⟨w.heap.size,8,none⟩ (ag af z1)).setCell ⟨w.heap.size,9,none⟩ (ag af z2)).heap[w.heap.size+2]?=some (au iD 28 (0,0))):=ai ((bu _ _ _ _ (by show w.heap.size+2≠w.heap.size;omega)).trans ((bu _ _ _ _ (by show w.heap.size+2≠w.heap.size;omega)).trans ((aZ _ _ _ (ah.1 HZ3.out).1).trans HZ3.out)))
    clear Gq hb3 hx3)
  |(go_at_call 150;refine(HAg.out _ HB4.out).mono ?_;clear HAg;rintro e w5 ⟨m',s',k',rfl,TB,hf5,hb5⟩
    have HZ5:=ai ((hb5.block _ (ah.1 PQ.out).1).trans PQ.out);obtain⟨p5,c5,rfl,_⟩:=aT TB.rm;obtain⟨p8,c8,rfl,_⟩:=aT TB.rs;obtain⟨Xb,c11,rfl,_⟩:=aT TB.rk;have WH:mU (fX (b.lk z1 z2) (ae p5 ml.length c5) (ae p8 ss.length c8) (ae Xb ms.length c11) ml ss ms (w5.setRow (w.heap.size+2) ((b.lk z1 z2).cells (ae p5 ml.length c5) (ae p8 ss.length c8) (ae Xb ms.length c11)))):=ai (TB.setRow hf5 (ah.1 PQ.out).1);have HB5:=ai (HB4.out.trans (hb5.mono HB4.out.size))
    clear TB hb5 hf5))
 refine bj (results_cell_tmp (g:=w.heap.size+2) rfl rfl (jw _ _ 28 28 _ (0,0) _ (dg HZ5.out) cM rfl kQ)) rfl ⟨_,_,_,rfl,WH.out,dA HB5.out oM⟩
def FQ(w:ak):bm aq 149 #[ae none 0 0] w fun e w'=>e=aY (ae none 0 0)/\w=w':=by
 have hq:∀w,(binOp BinOp.eql 26 (Value.slice none 0 0) (Value.slice none 0 0)).run aq w=.ok (aI true) w:=fun w=>by kernel_rfl
 go_enter Tryz.func149,Tryz.ntmps149
 go_wp2
 go_ret
 exact⟨rfl,rfl⟩
def BS(m:Mk)(w:ak)(k:Nat)(hk:w.heap[k]?=some (au m.cells 81 (0,0))):∃v' w',(Builtin.append_ #[26,26] 26 #[ae none 0 0,ae (some ⟨k,0,none⟩) 1 1]).run aq w=.ok v' w'/\w'.ownsRow w.heap.size 81 3 v' 1 (dV [m])/\Bw w w':=by
 obtain⟨i0,hi,hz0,hz1,hz2⟩:=info_parts Fa
 obtain⟨v',w',hr,h2,h3,_⟩:=run_append_own (P:=aq) w w.heap.size 26 26 81 i0 (aR #[ag af 0,ag af 0,ag af 0]) 3 24 Tryz.underlying26 hi hz0 hz1 hz2 rfl dC (ae none 0 0) 0 [] (World.ownsRow_nil _ _ _ _) ⟨k,0,none⟩ 1 1 m.cells.toList rfl
  (fun j u hj=>by
   have h5:=aK hk j u (by simpa using hj);have e:(⟨k,0,none⟩:Addr).add j=⟨k,j,none⟩:=by cases j<;>simp[Addr.add]
   rw[e];exact h5) (by simp[cD]) (by unfold maxLen;omega) oM (aO _)
 exact⟨v',w',hr,by simpa [dV] using h2,(aB _ _).grown h3 (aO _) fun j hj=>by simp[jy] at hj⟩
def Zk(b:BB)(bq aM:aj)(ml:List Mn)(ss:List Int)(w:ak)(hL:Laid w)(hB:cQ b bq aM (ae none 0 0) ml ss [] w)(m:Mk)(hm:lI b [m])(hne:bf b ml ss [m]≠[]) :
  bm aq 75 #[aR (b.cells bq aM (ae none 0 0)),aR m.cells] w fun e w'=>∃m' s' k',e=aY (cH #[aR (b.cells m' s' k'),ag af 0])/\fX b m' s' k' ml ss [m] w'/\Bw w w':=by
 obtain⟨pm,cm,rfl,_⟩:=aT hB.rm;obtain⟨pn,cn,rfl,_⟩:=aT hB.rs;have Vl:=np w (b.sl pm ml.length cm pn ss.length cn none 0 0) m.cells iD 28 81 28;have b0:Bw w (((w.alloc (au (b.sl pm ml.length cm pn ss.length cn none 0 0) 28)).alloc (au m.cells 81)).alloc (au iD 28)):=(dx.alloc sM _).alloc sO _;have HT:mU (Two w (b.sl pm ml.length cm pn ss.length cn none 0 0) 28 m.cells 81 (((w.alloc (au (b.sl pm ml.length cm pn ss.length cn none 0 0) 28)).alloc (au m.cells 81)).alloc (au iD 28))):=ai ⟨Vl.1,Vl.2.1,b0,sM⟩;have HZ0:=ai Vl.2.2;have ug:=ai (eO b _ _ _ ml ss [] _ (hL.below b0) (hB.below b0))
 have HAg:mU (∀W k,Bw w W->Reads W k 1 (dV [m])->bm aq 150 #[aR (b.cells (ae pm ml.length cm) (ae pn ss.length cn) k)] W fun e w'=>∃m' s' k',e=aY (cH #[aR (b.cells m' s' k'),ag af 0])/\fX b m' s' k' ml ss [m] w'/\sW W.heap.size m' s' k'/\Bw W w'):=ai fun W k hb hr=>
  I8 b _ _ _ ml ss [m] W (hL.below hb) ⟨hB.ok,hB.gS,hB.mE,hm,hB.rm.below hb,hB.rs.below hb,hr⟩ hne
 clear hL hB hne b0 Vl hm
 go_enter Tryz.func75,Tryz.ntmps75
 go_wp2_with (first
  |(go_at_call 71;refine ug.out.mono ?_;clear ug;rintro e w1 ⟨rfl,hb1⟩
    have pE:=ai (HT.out.next hb1);have Zn:=ai ((hb1.block (w.heap.size+2) sM).trans HZ0.out)
    clear hb1))
 refine Ph.cy kQ [
 pV (pv w.heap.size 14),
  pV (ae none 0 0),
  pV (ae none 0 0),
  pV (aR m.cells),
  fun v ds w9=>∃k,v=ae (some ⟨k,0,none⟩) 1 1/\w9.heap[k]?=some (au m.cells 81 (0,0)),
  fun v ds w9=>w9.ownsRow (w.heap.size+3) 81 3 v 1 (dV [m]),
  pV (pv w.heap.size 14),
  fun v ds w9=>∃x,ds[1]?=some x/\w9.heap[w.heap.size]?=some (au (b.cells (ae pm ml.length cm) (ae pn ss.length cn) x) 28 (0,0))]
  (fun L w9=>∃k0,w9.heap[w.heap.size]?=some (au (b.cells (ae pm ml.length cm) (ae pn ss.length cn) k0) 28 (0,0))/\(L 7=false->k0=ae none 0 0)/\w9.heap[w.heap.size+1]?=some (au m.cells 81 (0,0))/\w9.heap[w.heap.size+2]?=some (au iD 28 (0,0))/\Bw w w9/\w.heap.size+3<=w9.heap.size) [(2,pv w.heap.size 0),(3,pv (w.heap.size+1) 0)] kQ ?rst (fun L L2 w1 w2 Ty h hb=>by
  obtain⟨k0,h1,h2,h3,h4,h5,h6⟩:=h
  exact⟨k0,(hb.block _ (ah.1 h1).1).trans h1,fun q=>h2 (Ty 7 q),(hb.block _ (ah.1 h3).1).trans h3,(hb.block _ (ah.1 h4).1).trans h4,h5.trans (hb.mono oM),aF h6 hb.size⟩) (⟨_,pE.out.one,fun _=>rfl,pE.out.two,Zn.out,pE.out.below.drew,(ah.1 Zn.out).1⟩) ⟨rfl,rfl,trivial⟩ ?reach ?rfin
 case rst=>
  refine⟨Ph.sV,Ph.sV,Ph.sV,Ph.sV,?_,?_,Ph.sV,?_,trivial⟩
  .rintro v ds L w1 w2 hS ⟨k,h1,h2⟩ hb;exact⟨k,h1,(hb.block _ (ah.1 h2).1).trans h2⟩
  .rintro v ds L w1 w2 hS h hb;exact bP h hb
  rintro v ds L w1 w2 hS ⟨x,h1,h2⟩ hb;exact⟨x,h1,(hb.block _ (ah.1 h2).1).trans h2⟩
 case reach=>
  refine⟨?_,?_,?_,?_,?_,?_,?_,?_,trivial⟩<;>rintro Lf ev w1 hn nw hS hc hg hf ⟨b2,b3,-⟩ hd
  .exact Ph.tV
  .have d0:ev (aL 13)=_:=hd.1 rfl;obtain⟨k0,hb0,q1,_⟩:=hS;obtain rfl:=q1 (hn 7 kQ);have x:=aK hb0 14 _ rfl;exact Ph.tV
  .have d1:ev (aL 14)=_:=hd.1 rfl;refine Lag.Yields.call (f:=149) (args:=#[ae none 0 0]) ?_ (FQ w1) ?_
   .go_simp
   rintro e w2 ⟨rfl,rfl⟩;exact⟨_,rfl,rfl,cJ (aB _ _)⟩
  .obtain⟨k0,hb0,q1,hm1,_⟩:=hS;have x0:=aK hm1 0 _ rfl;have x1:=aK hm1 1 _ rfl;have x2:=aK hm1 2 _ rfl;exact Ph.tV
  .have d3:ev (aL 16)=_:=hd.1 rfl;refine Gw (v:=ae (some ⟨w1.heap.size,0,none⟩) 1 1) (w':=w1.alloc (au m.cells 81)) ?_ ⟨⟨_,rfl,az _ _⟩,cJ dx⟩;go_simp
  .have d2:ev (aL 15)=_:=hd.1 rfl;obtain⟨k,e17,hk⟩:=hd.2.1 rfl;replace e17:ev (aL 17)=_:=e17;obtain⟨v',w',hr,ho,hb⟩:=BS m w1 k hk;refine Gw (v:=v') (w':=w') ?_ ⟨ownsRow_base ho (by obtain⟨_,_,_,_,_,_,h⟩:=hS;exact h),cJ hb⟩;simp[execOp,resolve,invoke,builtin,d2,e17,hr,Result.andThen]
  .exact Ph.tV
  have d6:ev (aL 19)=_:=hd.1 rfl;have d5:w1.ownsRow (w.heap.size+3) 81 3 (ev (aL 18)) 1 (dV [m]):=hd.2.1 rfl;obtain⟨p5,c5,Gu⟩:=dw d5;obtain⟨k0,hb0,q1,hm1,hz1,hbl,hsz⟩:=hS;have c1:=aK hb0 14 _ rfl;have f1:=cZ hb0 14;refine Lag.Yields.skip (w':=w1.setCell ⟨w.heap.size,14,none⟩ (ev (aL 18))) ?_ ⟨⟨_,rfl,dc _ hb0⟩,.inr ⟨⟨_,dc _ hb0,(by intro h;simp[Ph.upd] at h),(bu _ _ _ _ (by show _≠w.heap.size;omega)).trans hm1,(bu _ _ _ _ (by show _≠w.heap.size;omega)).trans hz1,hbl.setCell (p:=⟨w.heap.size,14,none⟩) (aO _) _,by simpa using hsz⟩,?_⟩⟩
  .rw[Gu];go_simp
  .intro j u ds hj hL hp
   match j,hp with
   |0,hp|1,hp|2,hp|3,hp=>exact hp
   |4,⟨k,h1,h2⟩=>exact⟨k,h1,(bu _ _ _ _ (by rintro rfl;rw[hb0] at h2;simp at h2)).trans h2⟩
   |5,hp=>exact dm hp hb0 dC
   |6,hp=>exact hp
   |7,_=>exact(hj rfl).elim
   |j+8,_=>trivial
 case rfin=>
  intro a2 w2 hR;have hS:=hR.s;have e5:w2.ownsRow (w.heap.size+3) 81 3 (a2.tmps.getD 18 undef) 1 (dV [m]):=hR.val 5;obtain⟨x,h18,lJ⟩:=hR.val 7;have k2:a2.tmps.getD 2 undef=pv w.heap.size 0:=hR.kept kQ;have k4:a2.tmps.getD 4 undef=eX (some ⟨w.heap.size+1+1,0,none⟩):=hR.kept kQ;have ha:=hR.lits 24 rfl;simp only[aS,List.range.loop,List.map] at ha;clear hR;have Gu:a2.tmps.getD 18 undef=x:=bp h18;rw[Gu] at e5;rw[k2,k4] at ha;generalize a2.tmps.getD=zz at ha;obtain⟨p5,c5,rfl⟩:=dw e5;obtain⟨_,_,_,_,hz,hbl,hsz⟩:=hS;have HK:=ai lJ;have HZ:=ai hz;have Gj:=ai hbl;have Tp:=ai (Reads.iA e5 oM (by rfl));clear k2 k4 h18 Gu e5 lJ hz hbl;subst ha
  go_wp2_with (first
   |(refine mH rfl 28 _ rfl _ rfl 28 _ (0,0) _ HK.out cM rfl kQ ?_)
   |(refine fY rfl 28 _ _ rfl _ _ rfl rfl 28 _ HZ5.out kQ rfl (by simp[cD]) ?_)
   |(go_at_call 150;refine(HAg.out _ _ Gj.out Tp.out).mono ?_;clear HAg;rintro e w5 ⟨m',s',k',rfl,TB,hf5,hb5⟩
     have HZ5:=ai ((hb5.block _ (ah.1 HZ.out).1).trans HZ.out);obtain⟨p6,c6,rfl,_⟩:=aT TB.rm;obtain⟨p8,c8,rfl,_⟩:=aT TB.rs;obtain⟨Xb,c11,rfl,_⟩:=aT TB.rk;have WH:mU (fX b (ae p6 ml.length c6) (ae p8 ss.length c8) (ae Xb ([m]:List Mk).length c11) ml ss [m] (w5.setRow (w.heap.size+2) (b.cells (ae p6 ml.length c6) (ae p8 ss.length c8) (ae Xb ([m]:List Mk).length c11)))):=ai (TB.setRow hf5 (ah.1 HZ.out).1);have HB5:=ai (Gj.out.trans (hb5.mono Gj.out.size))
     clear TB hb5 hf5))
  refine bj (results_cell_tmp (g:=w.heap.size+2) rfl rfl (jw _ _ 28 28 _ (0,0) _ (dg HZ5.out) cM rfl kQ)) rfl ⟨_,_,_,rfl,WH.out,dA HB5.out oM⟩
def KE(b:BB)(bq aM aC:aj)(ml:List Mn)(ss:List Int)(ms:List Mk)(w:ak)(hL:Laid w)(hB:cQ b bq aM aC ml ss ms w)(mi:Int)(h1:1<=mi)(h2:mi<=b.minutes)(h3:mi<dD ss ms) :
  bm aq 82 #[aR (b.cells bq aM aC),ag af mi] w (Rt w (cH #[aR iD,ag af 7])):=by
 have xu:=hB.ok.minutes;have nQ:∀s∈ss,1<=s/\s<=8:=fun s h=>by have:=hB.mE.mem s h;omega
 have Ms:∀m∈ms,1<=m.minute/\m.minute<=8:=fun m h=>by have:=hB.kI.mem m h;omega
 obtain⟨pm,cm,rfl,_⟩:=aT hB.rm;obtain⟨pn,cn,rfl,_⟩:=aT hB.rs;obtain⟨pk,ck,rfl,_⟩:=aT hB.rk;have b0:Bw w ((w.alloc (au (b.sl pm ml.length cm pn ss.length cn pk ms.length ck) 28)).alloc (au iD 28)):=dx.alloc sM _;have HT:mU (Two w (b.sl pm ml.length cm pn ss.length cn pk ms.length ck) 28 iD 28 ((w.alloc (au (b.sl pm ml.length cm pn ss.length cn pk ms.length ck) 28)).alloc (au iD 28))):=ai ⟨(Two.mk' w _ _ _ _).one,(Two.mk' w _ _ _ _).two,b0,sM⟩;have ug:=ai (eO b _ _ _ ml ss ms _ (hL.below b0) (hB.below b0));have HBh:mU (∀W,Bw w W->bm aq 155 #[aR (b.sl pm ml.length cm pn ss.length cn pk ms.length ck)] W fun e w'=>e=aY (ag af (dD ss ms))/\Bw W w'):=ai fun W hb=>F8 b _ _ _ ss ms nQ Ms W (hB.below hb).rs (hB.below hb).rk;clear hL hB b0 nQ Ms;generalize dD ss ms=bh at *;generalize ml.length=lm at *;generalize ss.length=ln at *;generalize ms.length=lk at *
 go_enter Tryz.func82,Tryz.ntmps82
 go_wp2_with (first
  |(refine fY rfl 28 _ _ rfl _ _ rfl rfl 28 _ HZ.out kQ rfl (by simp[cD]) ?_)
  |(go_at_call 71;refine ug.out.mono ?_;clear ug;rintro e w1 ⟨rfl,hb1⟩
    have sZ:=HT.out.next hb1;have pE:=ai sZ
    obtain⟨x0,x1,x2,x3,x4,x5,x6,x7,x8,x9,qD,qC,rH,rz,rB⟩:=cg sZ.one
    clear sZ hb1)
  |(go_at_call 132;refine(nK b _ _ _ mi h1 h2 _).mono ?_;rintro e w2 ⟨rfl,hb2⟩
    have Hu:=ai ((hb2.block w1.heap.size sM).trans (az w1 _));have Hs:=ai ((pE.out.next ((aB _ _).alloc (aO _) (au (b.sl pm lm cm pn ln cn pk lk ck) 119))).next hb2);clear x0 x1 x2 x3 x4 x5 x6 x7 x8 x9 qD qC rH rz rB;obtain⟨x0,x1,x2,x3,x4,x5,x6,x7,x8,x9,qD,qC,rH,rz,rB⟩:=cg Hu.out
    clear hb2)
  |(go_at_call 155;refine(HBh.out _ Hs.out.below).mono ?_;clear HBh;rintro e w3 ⟨rfl,hb3⟩
    have QU:=ai (Hs.out.next hb3);have HZ:=ai QU.out.two
    clear hb3))
 (try simp only[Exit.inBlock,Exit.then])
 exact bj (results_cell_tmp (g:=w.heap.size+1) rfl rfl (jw _ _ 28 28 _ (0,0) _ (dg HZ.out) cM rfl kQ)) rfl ⟨rfl,dA QU.out.below oM⟩
section
variable(b:BB)(bq aM aC:aj)(ml:List Mn)(ss:List Int)(ms:List Mk)(w:ak)
theorem Wx(hL:Laid w)(hB:cQ b bq aM aC ml ss ms w) :
  bm aq 33 #[aR (b.cells bq aM aC)] w (Rt w (cH #[ag af b.holds,ag af 0])):=by
 have b0:Bw w (w.alloc (au (b.cells bq aM aC) 28)):=dx;have ug:=ai (eO b bq aM aC ml ss ms _ (hL.below b0) (hB.below b0));have hok:=hB.ok;have HOk:=ai hok;have Jb:=ai b0;clear hL hB b0 hok
 go_enter Tryz.func33,Tryz.ntmps33
 go_wp2_with (first
  |(go_at_call 71;refine ug.out.mono ?_;clear ug;rintro e w1 ⟨rfl,hb1⟩
    have lJ:=(hb1.block w.heap.size sM).trans (az w _);obtain⟨x0,x1,x2,x3,x4,x5,x6,x7,x8,x9,qD,qC,rH,rz,rB⟩:=cg lJ
    have wO:=ai hb1;clear lJ hb1)
  |(go_at_call 115;refine(IP b HOk.out bq aM aC _).mono ?_;rintro e w2 ⟨rfl,hb2⟩;have nS:=ai hb2;clear hb2))
 go_ret2;have h1:=Jb.out.trans (wO.out.mono Jb.out.size);exact⟨rfl,h1.trans (nS.out.mono h1.size)⟩
theorem WY(hL:Laid w)(hB:cQ b bq aM aC ml ss ms w)(n:Int)(hn:0<=n/\n<=999) :
  bm aq 65 #[aR (b.cells bq aM aC),ag af n] w (Rt w (cH #[ag af (b.xg n),ag af 0])):=by
 have b0:Bw w (w.alloc (au (b.cells bq aM aC) 28)):=dx;have ug:=ai (eO b bq aM aC ml ss ms _ (hL.below b0) (hB.below b0));have hok:=hB.ok;have HOk:=ai hok;have Jb:=ai b0;clear hL hB b0 hok
 go_enter Tryz.func65,Tryz.ntmps65
 go_wp2_with (first
  |(go_at_call 71;refine ug.out.mono ?_;clear ug;rintro e w1 ⟨rfl,hb1⟩
    have lJ:=(hb1.block w.heap.size sM).trans (az w _);obtain⟨x0,x1,x2,x3,x4,x5,x6,x7,x8,x9,qD,qC,rH,rz,rB⟩:=cg lJ
    have wO:=ai hb1;clear lJ hb1)
  |(go_at_call 138;refine(iQ _ _ _ oM oM _).mono ?_;rintro e w' ⟨rfl,rfl⟩)
  |(go_at_call 139;refine(Ko b HOk.out bq aM aC n hn _).mono ?_;rintro e w2 ⟨rfl,hb2⟩;have nS:=ai hb2;clear hb2))
 go_ret2;have h1:=Jb.out.trans (wO.out.mono Jb.out.size);exact⟨rfl,h1.trans (nS.out.mono h1.size)⟩
theorem Gn(hL:Laid w)(hB:cQ b bq aM aC ml ss ms w) :
  bm aq 42 #[aR (b.cells bq aM aC)] w (Rt w (cH #[ag af (bf b ml ss ms).length,ag af 0])):=by
 have b0:Bw w (w.alloc (au (b.cells bq aM aC) 28)):=dx;have ug:=ai (eO b bq aM aC ml ss ms _ (hL.below b0) (hB.below b0));have HBk:=ai (hB.below b0);have Jb:=ai b0;have hlen:=iR ss ms hB.ok hB.gS;clear hL hB b0
 go_enter Tryz.func42,Tryz.ntmps42
 go_wp2_with (first
  |(go_at_call 71;refine ug.out.mono ?_;clear ug;rintro e w1 ⟨rfl,hb1⟩
    have lJ:=(hb1.block w.heap.size sM).trans (az w _);obtain⟨x0,x1,x2,x3,x4,x5,x6,x7,x8,x9,qD,qC,rH,rz,rB⟩:=cg lJ
    have wO:=ai hb1;clear lJ hb1)
  |(go_at_call 116;refine(o_ b bq aM aC ml ss ms _ (HBk.out.below wO.out)).mono ?_;rintro e w2 ⟨v,rfl,jc,hb2⟩;have nS:=ai hb2
    obtain⟨p,cap,rfl,_⟩:=aT (jc.reads oM);clear hb2 jc))
 go_ret2;have h1:=Jb.out.trans (wO.out.mono Jb.out.size);exact⟨rfl,h1.trans (nS.out.mono h1.size)⟩
end
def eV(s:ByteArray)(k:Nat):Int:=if h:k<s.size then(s[k].toNat:Int) else 0
def wL(s:ByteArray)(k:Nat):0<=eV s k/\eV s k<256:=by
 unfold eV;split
 .have:=s[k].toNat_lt;omega
 omega
def yF(s:ByteArray)(k:Nat)(h:k<s.size)(w:ak):(Instr.index 9 (.string s) (ag af (k:Int))).run aq w=.ok (ag .u8 (eV s k)) w:=by
 rw[run_index_string w 9 s af _ Tryz.underlying9,dif_pos ⟨oM,oM⟩];simp[eV,h]
def Ar(c:Int)(h:0<=c/\c<256):IntKind.i64.wrap c=c:=by rw[bg];omega
def oX(s:ByteArray)(k:Nat):Bool:=aV (eV s k) 97 122||aV (eV s k) 48 57
def kJ(s:ByteArray):Bool:=(aV s.size 1 12&&aV (eV s 0) 97 122)&&(List.range' 1 (s.size-1)).all (oX s)
def R_{s:ByteArray}(h0:aV s.size 1 12=true)(h1:aV (eV s 0) 97 122=true)(h:∀i,1<=i->i<s.size->oX s i=true):kJ s=true:=by
 unfold kJ;simp only[h0,h1,Bool.and_self,Bool.true_and,aX,List.mem_range'_1];intro x hx;exact h x hx.1 oM
def OH{s:ByteArray}(h:(aV s.size 1 12&&aV (eV s 0) 97 122)=false):kJ s=false:=by
 unfold kJ;rw[h];rfl
def Sb{s:ByteArray}(i:Nat)(h1:1<=i)(h2:i<s.size)(h:oX s i=false):kJ s=false:=by
 unfold kJ;rw[Bool.and_eq_false_iff];right;rw[List.all_eq_false];exact⟨i,List.mem_range'_1.2 ⟨h1,oM⟩,by rw[h];simp⟩
def OG{s:ByteArray}(h:kJ s=true):KG s:=by
 unfold kJ at h;simp only[aJ,aX,List.mem_range'_1] at h;obtain⟨⟨h0,h1⟩,h2⟩:=h;have h0:=gU.1 h0;refine⟨⟨oM,oM⟩,fun k hk=>?_⟩;rcases Nat.eq_zero_or_pos k with rfl|hp
 .left;have:=gU.1 h1;unfold eV at this;rw[dif_pos hk] at this;exact⟨oM,oM⟩
 have h3:=h2 k ⟨hp,oM⟩;unfold oX eV at h3;rw[dif_pos hk,Bool.or_eq_true,gU,gU] at h3;rcases h3 with h3|h3
 .left;exact⟨oM,oM⟩
 right;exact⟨oM,oM,oM⟩
def zZ(c:Int)(hc0:0<=c/\c<256)(w:ak):bm aq 183 #[ag .u8 c] w (Rt w (aI (aV c 97 122))):=by
 refine kZ Tryz.func183 rfl rfl [(0,ag .u8 c)] ⟨jg rfl,trivial⟩ fun a hF=>?_;refine(fun h:∀W,Bw w W->Gz aq _ _ a W=>h w (aB _ _)) ?_;intro W HB;refine fP [(2,aI false)] hF ?_;intro a W ho hF;replace HB:=HB.tr ho;replace hF:=hF.tl
 refine nY [pV (ag .u8 c),pV (ag af c),pV (aI (aV c 97 122)),pV (aI (aV c 97 122))]
  _ kQ hF.size hF.base ?_ ?_ ?_
 .exact⟨sV,sV,sV,sV,trivial⟩
 .refine⟨?_,?_,?_,?_,trivial⟩<;>rintro ev w1 hS hc hg hf ⟨b0,-⟩ hd
  all_goals try
   try have d0:ev (aL _)=_:=hd.1 rfl
   refine yw rfl ?_ rfl;go_simp;done
  .have d0:ev (aL 3)=_:=hd.1 rfl;have hw:=Ar c hc0;exact tV
  have d1:ev (aL 4)=_:=hd.1 rfl;refine yc (fW c 97 122 w1) ?_ (fun _=>rfl);go_simp
 intro a W hR;have ho:=hR.s;replace HB:=HB.tr ho;replace hF:=(hR.fr hF).cons (t:=2) (hR.val 3);clear hR ho;refine fA ?_;exact bj (bZ rfl _ _ _) hF.defers ⟨congrArg bA ((hF.g 0 rfl):a.eval (aL 2)=aI (aV c 97 122)),HB⟩
def Mi(c:Int)(hc0:0<=c/\c<256)(w:ak):bm aq 184 #[ag .u8 c] w (Rt w (aI (aV c 48 57))):=by
 refine kZ Tryz.func184 rfl rfl [(0,ag .u8 c)] ⟨jg rfl,trivial⟩ fun a hF=>?_;refine(fun h:∀W,Bw w W->Gz aq _ _ a W=>h w (aB _ _)) ?_;intro W HB;refine fP [(2,aI false)] hF ?_;intro a W ho hF;replace HB:=HB.tr ho;replace hF:=hF.tl
 refine nY [pV (ag .u8 c),pV (ag af c),pV (aI (aV c 48 57)),pV (aI (aV c 48 57))]
  _ kQ hF.size hF.base ?_ ?_ ?_
 .exact⟨sV,sV,sV,sV,trivial⟩
 .refine⟨?_,?_,?_,?_,trivial⟩<;>rintro ev w1 hS hc hg hf ⟨b0,-⟩ hd
  all_goals try
   try have d0:ev (aL _)=_:=hd.1 rfl
   refine yw rfl ?_ rfl;go_simp;done
  .have d0:ev (aL 3)=_:=hd.1 rfl;have hw:=Ar c hc0;exact tV
  have d1:ev (aL 4)=_:=hd.1 rfl;refine yc (fW c 48 57 w1) ?_ (fun _=>rfl);go_simp
 intro a W hR;have ho:=hR.s;replace HB:=HB.tr ho;replace hF:=(hR.fr hF).cons (t:=2) (hR.val 3);clear hR ho;refine fA ?_;exact bj (bZ rfl _ _ _) hF.defers ⟨congrArg bA ((hF.g 0 rfl):a.eval (aL 2)=aI (aV c 48 57)),HB⟩
def R9(s:ByteArray)(w:ak):bm aq 177 #[.string s] w (Rt w (aI (kJ s))):=by
 refine kZ Tryz.func177 rfl rfl [(0,.string s)] ⟨jg rfl,trivial⟩ fun a hF=>?_;refine(fun h:∀W,Bw w W->Gz aq _ _ a W=>h w (aB _ _)) ?_;intro W HB;refine fP [(2,aI false)] hF ?_;intro a W ho hF;replace HB:=HB.tr ho;refine dR ?_
 refine nY [pV (.string s),pV (ag af (s.size:Int)),pV (aI (aV (s.size:Int) 1 12)),pV (aI (!(aV (s.size:Int) 1 12))),pV (aI (!(aV (s.size:Int) 1 12))),pC (!(!(aV (s.size:Int) 1 12))) (.string s),pC (!(!(aV (s.size:Int) 1 12))) (ag .u8 (eV s 0)),pC (!(!(aV (s.size:Int) 1 12))) (aI (aV (eV s 0) 97 122)),pC (!(!(aV (s.size:Int) 1 12))) (aI (!(aV (eV s 0) 97 122))),pV (aI ((!(aV (s.size:Int) 1 12))||(!(aV (eV s 0) 97 122))))]
  _ kQ hF.size hF.base ?_ ?_ ?_
 .exact⟨sV,sV,sV,sV,sV,sC,sC,sC,sC,sV,trivial⟩
 .refine⟨?_,?_,?_,?_,?_,?_,?_,?_,?_,?_,trivial⟩<;>rintro ev w1 hS hc hg hf ⟨-,b0,-⟩ hd
  all_goals try
   try have d0:ev (aL _)=_:=hd.1 rfl
   refine yw rfl ?_ rfl;go_simp;done
  all_goals try
   try have d0:ev (aL _)=_:=hd.1 rfl
   try have c0:_->ev (aL _)=_:=hd.1 rfl
   try have d1:ev (aL _)=_:=hd.2.1 rfl
   first|refine gC d0 mG fun hA=>?_|refine gC d1 mG fun hA=>?_
   try replace c0:=c0 hA
   refine yw rfl ?_ (fun _=>rfl);go_simp;done
  .have d1:ev (aL 5)=_:=hd.1 rfl;refine yc (fW (s.size:Int) 1 12 w1) ?_ (fun _=>rfl);go_simp
  .have d5:_->ev (aL 9)=_:=hd.1 rfl;have d4:ev (aL 8)=_:=hd.2.1 rfl;refine gC d4 mG fun hA=>?_;have y5:=d5 hA
   have OQ:0<s.size:=by
    have h9:aV (s.size:Int) 1 12=true:=by revert hA;simp
    have:=gU.1 h9;omega
   have hi:=yF s 0 OQ w1;refine Gw (v:=(ag .u8 (eV s 0):aj)) (w':=w1) ?_ ⟨fun _=>rfl,cJ (aB _ _)⟩;rw[show eV s 0=((s[0]'OQ).toNat:Int) from dif_pos OQ];go_simp
  .have d6:_->ev (aL 10)=_:=hd.1 rfl;have d4:ev (aL 8)=_:=hd.2.1 rfl;refine gC d4 mG fun hA=>?_;have y6:=d6 hA;refine yc (args:=#[ag .u8 (eV s 0)]) (zZ (eV s 0) (wL _ _) w1) ?_ (fun _=>fun _=>rfl);go_simp
  have d4:ev (aL 8)=_:=hd.1 rfl;have d8:_->ev (aL 12)=_:=hd.2.1 rfl;exact yO rfl hc d4 (fun hq=>d8 (by simp[hq])) (rfl)
 intro a W hR;have ho:=hR.s;replace HB:=HB.tr ho;replace hF:=(hR.fr hF).cons (t:=13) (hR.val 9);clear hR ho;refine bW (t:=((!(aV (s.size:Int) 1 12))||(!(aV (eV s 0) 97 122)))) (hF.g 0 rfl) (fun Sw=>?_) (fun Sw=>?_)
 .replace hF:=hF.tl;have hres:kJ s=false:=OH (by revert Sw;cases aV (s.size:Int) 1 12<;>cases aV (eV s 0) 97 122<;>simp);replace hF:=hF.tl;refine fP [(2,aI false)] hF ?_;intro a W ho hF;replace HB:=HB.tr ho;refine fA ?_;exact bj (bZ rfl _ _ _) hF.defers ⟨congrArg bA (((hF.g 0 rfl):a.eval (aL 2)=aI false).trans (congrArg _ hres.symm)),HB⟩
 replace hF:=hF.tl;have h0:aV (s.size:Int) 1 12=true:=by revert Sw;cases aV (s.size:Int) 1 12<;>simp
 have h1:aV (eV s 0) 97 122=true:=by revert Sw;cases aV (eV s 0) 97 122<;>simp
 have hn:=gU.1 h0;refine ej ?_;refine dR ?_;refine fP [(3,ag af 1)] hF ?_;intro a W ho hF;replace HB:=HB.tr ho;refine jv ?_;refine wp_loop (fun a W=>∃k:Nat,k<=s.size/\(1<=k/\∀i,1<=i->i<k->oX s i=true)/\gw 32 a [(3,ag af (k:Nat)),(0,.string s)]/\Bw w W) (fun a _=>s.size-(intOf (a.eval (aL 3))).toNat) ⟨1,oM,⟨aO _,fun i h1 h2=>by omega⟩,⟨hF.size,hF.defers,(by obtain⟨b3,-,b0,-⟩:=hF.base;exact⟨b3,b0,trivial⟩)⟩,HB⟩ ?_;clear hF HB
 try clear a
 try clear W
 rintro a W ⟨k,s5,oY,hF,HB⟩;have hk3:a.eval (aL 3)=ag af (k:Nat):=(hF.g 0 rfl)
 refine dR ?_;refine fP [(17,aI (decide ((k:Int)<(s.size:Int))))] hF ?_;intro a W ho hF;replace HB:=HB.tr ho;refine bW (t:=(decide ((k:Int)<(s.size:Int)))) (hF.g 0 rfl) (fun Kc=>?_) (fun Kc=>?_)
 .replace hF:=hF.tl;have yJ:k<s.size:=by simpa using Kc
  have hw1:IntKind.i64.wrap ((k:Int)+1)=(k:Int)+1:=by rw[bg];omega
  refine ej ?_;refine dR ?_;refine jv ?_
  refine nY [pV (.string s),pV (ag af (k:Nat)),pV (ag .u8 (eV s k)),pV (aI (aV (eV s k) 97 122)),pV (aI (!(aV (eV s k) 97 122))),pV (aI (!(aV (eV s k) 97 122))),pC (!(aV (eV s k) 97 122)) (.string s),pC (!(aV (eV s k) 97 122)) (ag af (k:Nat)),pC (!(aV (eV s k) 97 122)) (ag .u8 (eV s k)),pC (!(aV (eV s k) 97 122)) (aI (aV (eV s k) 48 57)),pC (!(aV (eV s k) 97 122)) (aI (!(aV (eV s k) 48 57))),pV (aI ((!(aV (eV s k) 97 122))&&(!(aV (eV s k) 48 57))))]
   _ kQ hF.size hF.base ?_ ?_ ?_
  .exact⟨sV,sV,sV,sV,sV,sV,sC,sC,sC,sC,sC,sV,trivial⟩
  .refine⟨?_,?_,?_,?_,?_,?_,?_,?_,?_,?_,?_,?_,trivial⟩<;>rintro ev w1 hS hc hg hf ⟨b3,b0,-⟩ hd
   all_goals try
    try have d0:ev (aL _)=_:=hd.1 rfl
    refine yw rfl ?_ rfl;go_simp;done
   all_goals try
    try have d0:ev (aL _)=_:=hd.1 rfl
    try have c0:_->ev (aL _)=_:=hd.1 rfl
    try have d1:ev (aL _)=_:=hd.2.1 rfl
    first|refine gC d0 zf fun hA=>?_|refine gC d1 zf fun hA=>?_
    try replace c0:=c0 hA
    refine yw rfl ?_ (fun _=>rfl);go_simp;done
   .have d0:ev (aL 20)=_:=hd.1 rfl;have d1:ev (aL 21)=_:=hd.2.1 rfl;have hi:=yF s k yJ w1;refine Gw (v:=(ag .u8 (eV s k):aj)) (w':=w1) ?_ ⟨rfl,cJ (aB _ _)⟩;go_simp
   .have d2:ev (aL 22)=_:=hd.1 rfl;refine yc (args:=#[ag .u8 (eV s k)]) (zZ (eV s k) (wL _ _) w1) ?_ (fun _=>rfl);go_simp
   .have d6:_->ev (aL 26)=_:=hd.1 rfl;have d7:_->ev (aL 27)=_:=hd.2.1 rfl;have d5:ev (aL 25)=_:=hd.2.2.1 rfl;refine gC d5 zf fun hA=>?_;have y6:=d6 hA;have y7:=d7 hA;have hi:=yF s k yJ w1;refine Gw (v:=(ag .u8 (eV s k):aj)) (w':=w1) ?_ ⟨fun _=>rfl,cJ (aB _ _)⟩;go_simp
   .have d8:_->ev (aL 28)=_:=hd.1 rfl;have d5:ev (aL 25)=_:=hd.2.1 rfl;refine gC d5 zf fun hA=>?_;have y8:=d8 hA;refine yc (args:=#[ag .u8 (eV s k)]) (Mi (eV s k) (wL _ _) w1) ?_ (fun _=>fun _=>rfl);go_simp
   have d5:ev (aL 25)=_:=hd.1 rfl;have d10:_->ev (aL 30)=_:=hd.2.1 rfl;exact yA rfl hc d5 (fun hq=>d10 (by simp[hq])) (rfl)
  intro a W hR;have ho:=hR.s;replace HB:=HB.tr ho;replace hF:=(hR.fr hF).cons (t:=31) (hR.val 11);clear hR ho;refine bW (t:=((!(aV (eV s k) 97 122))&&(!(aV (eV s k) 48 57)))) (hF.g 0 rfl) (fun abN=>?_) (fun abN=>?_)
  .replace hF:=hF.tl;have hres:kJ s=false:=Sb k oY.1 yJ (by unfold oX;revert abN;cases aV (eV s k) 97 122<;>cases aV (eV s k) 48 57<;>simp);refine fP [(2,aI false)] hF ?_;intro a W ho hF;replace HB:=HB.tr ho;refine fA ?_;exact bj (bZ rfl _ _ _) hF.defers ⟨congrArg bA (((hF.g 0 rfl):a.eval (aL 2)=aI false).trans (congrArg _ hres.symm)),HB⟩
  replace hF:=hF.tl;have hz:oX s k=true:=by unfold oX;revert abN;cases aV (eV s k) 97 122<;>cases aV (eV s k) 48 57<;>simp
  refine ej ?_;have ov:=hF;replace hF:=hF.tl;refine KS ⟨[],[(1,ag af ((k:Nat)+1))],[],[]⟩ [(3,ag af ((k:Nat)+1))] ov hF trivial ⟨fun w1 hS _=>ge (congrArg (aD af) (show IntKind.i64.wrap ((k:Nat)+1)=((k:Nat)+1) by rw[bg];omega)),trivial⟩ ?_;intro a W ho hF;clear ov;replace HB:=HB.tr ho;refine⟨⟨k+1,oM,⟨oM,fun i h1 h2=>if hik:i<k then oY.2 i h1 hik else by have e:i=k:=(by omega);rw[e];exact hz⟩,⟨hF.size,hF.defers,hF.base⟩,HB⟩,?_⟩;rw[show a.eval (aL 3)=ag af ((k:Nat)+1) from(hF.g 0 rfl)];simp only[hk3];simp[intOf];omega
 replace hF:=hF.tl;refine wp_exit ?_;have Ve:k=s.size:=by simp at Kc;omega
 have hres:kJ s=true:=R_ h0 h1 fun i AY hi2=>oY.2 i AY oM;show Gz aq _ _ a W;refine fP [(2,aI true)] hF ?_;intro a W ho hF;replace HB:=HB.tr ho;refine fA ?_;exact bj (bZ rfl _ _ _) hF.defers ⟨congrArg bA (((hF.g 0 rfl):a.eval (aL 2)=aI true).trans (congrArg _ hres.symm)),HB⟩
def pQ(l:List Mn)(i:Nat):Mn:=l.getD i ⟨⟨#[]⟩,0,0⟩
def zT(l:List Mn)(i:Nat)(h:i<l.length):pQ l i=l[i]:=by simp[pQ,h]
def yg(ml:List Mn)(g off:Nat)(W:ak):Prop:=g<W.heap.size/\∀i,i<ml.length->W.cell? ⟨g,off+i*3,none⟩=some (.string (pQ ml i).name)/\W.cell? ⟨g,off+i*3+1,none⟩=some (ag af (pQ ml i).lo)/\W.cell? ⟨g,off+i*3+2,none⟩=some (ag af (pQ ml i).hi)
def yg.below{ml:List Mn}{g off:Nat}{W W':ak}(h:yg ml g off W)(ho:Bw W W'):yg ml g off W':=
 ⟨bw h.1 ho.size,fun i hi=>⟨(ho.cell (p:=⟨g,off+i*3,none⟩) h.1).trans (h.2 i hi).1,(ho.cell (p:=⟨g,off+i*3+1,none⟩) h.1).trans (h.2 i hi).2.1,(ho.cell (p:=⟨g,off+i*3+2,none⟩) h.1).trans (h.2 i hi).2.2⟩⟩
def Reads.bq{w:ak}{p:Option Addr}{n c:Nat}{ml:List Mn}(h:Reads w (ae p n c) n (fQ ml))(k:Nat)(hk:k<ml.length):∃g off,p=some ⟨g,off,none⟩/\yg ml g off w:=by
 rcases h with⟨_,_,h⟩|⟨g,off,cap,h,_,hg,hc⟩
 .have:=congrArg List.length h;rw[wX] at this;simp at this;omega
 cases h;refine⟨g,off,rfl,hg,fun i hi=>?_⟩;rw[zT ml i hi];exact DV hc i hi
def Et(a b:ByteArray):Bool:=a.toList==b.toList
def Rq{a b:ByteArray}:Et a b=true↔a=b:=by
 unfold Et;constructor
 .intro h
  by_cases e:a=b
  .exact e
  exact absurd (by simpa using h) (Nl e)
 rintro rfl;simp
def twice(l:List Mn)(i:Nat):Bool:=(aS i).any fun j=>Et (pQ l j).name (pQ l i).name
def Ie{l:List Mn}{i:Nat}(j:Nat)(hj:j<i)(h:Et (pQ l j).name (pQ l i).name=true):twice l i=true:=by
 unfold twice;rw[H4];exact⟨j,bV.2 hj,h⟩
def TR{l:List Mn}{i:Nat}(h:∀j,j<i->Et (pQ l j).name (pQ l i).name=false):twice l i=false:=by
 unfold twice;rw[List.any_eq_false];intro j hj;rw[h j (bV.1 hj)];simp
def qy(m:Mn):Bool:=(!(cG m.lo m.hi 1 99))||decide (m.hi-m.lo≥3)
def nH(l:List Mn)(i:Nat):Int:=if (!(kJ (pQ l i).name))=true then 4 else if twice l i=true then 5 else if qy (pQ l i)=true then 1 else 0
def qN(l:List Mn):Int:=if (l.length:Int)>3 then 2 else(((aS l.length).map (nH l)).find? fun h=>h !=0).getD 0
def Rc{lo hi:Int}(h:cG lo hi 1 99=true):IntKind.i64.wrap (hi-lo)=hi-lo:=by
 unfold cG at h;simp at h;rw[bg];omega
def EY{l:List Mn}{i:Nat}(h:nH l i=0):kJ (pQ l i).name=true/\twice l i=false/\qy (pQ l i)=false:=by
 unfold nH at h;cases h1:kJ (pQ l i).name<;>cases h2:twice l i<;>cases h3:qy (pQ l i)<;>simp_all
def UE{l:List Mn}(h:qN l=0):yf l:=by
 unfold qN at h
 have h3:(l.length:Int)<=3:=by
  refine Int.not_lt.1 fun h'=>?_;rw[if_pos h'] at h;cases h
 rw[if_neg oM] at h
 have hz:∀i,i<l.length->nH l i=0:=by
  intro i hi;refine fG fun hne=>?_
  have hs:((aS l.length).map (nH l)).find? (fun h=>h !=0)≠none:=by
   rw[Ne,List.find?_eq_none];intro hall;exact hall _ (dn.2 ⟨i,bV.2 hi,rfl⟩) (by simpa using hne)
  cases e:((aS l.length).map (nH l)).find? (fun h=>h !=0) with
  |none=>exact hs e
  |some x=>
   rw[e] at h;have:=List.find?_some e;simp at h this;exact this h
 refine⟨fun m hm=>?_,fun i k hi hk hik he=>?_,oM⟩
 .obtain⟨i,hi,rfl⟩:=iG hm;obtain⟨h1,-,h2⟩:=EY (hz i hi);rw[zT l i hi] at h1 h2;unfold qy cG at h2;simp at h2;exact⟨OG h1,oM,oM,oM,oM⟩
 obtain⟨-,h2,-⟩:=EY (hz k hk);have:=Ie (l:=l) i hik (Rq.2 (by rw[zT l i hi,zT l k hk];exact he));rw[this] at h2;cases h2
def JP{l:List Mn}(i:Nat)(h3:¬(l.length:Int)>3)(hi:i<l.length)(hpre:∀k,k<i->nH l k=0)(h:nH l i≠0):qN l=nH l i:=by
 unfold qN;rw[if_neg h3,Ah _ _ i hi hpre h];rfl
def RX{l:List Mn}(h3:¬(l.length:Int)>3)(hpre:∀k,k<l.length->nH l k=0):qN l=0:=by
 unfold qN;rw[if_neg h3,tU _ _ hpre];rfl
def Kq(b:BB)(aM aC:aj)(p1:Option Addr)(c1:Nat)(ml:List Mn)(hlen:ml.length<=1000000)(w:ak)(hv:Reads w (ae p1 ml.length c1) ml.length (fQ ml)):bm aq 146 #[aR (b.cells (ae p1 ml.length c1) aM aC)] w (Rt w (ag af (qN ml))):=by
 refine kZ Tryz.func146 rfl rfl [(0,aR (b.cells (ae p1 ml.length c1) aM aC))] ⟨jg rfl,trivial⟩ fun a hF=>?_;refine(fun h:∀W,Bw w W->Gz aq _ _ a W=>h w (aB _ _)) ?_;intro W HB;have HC:mU (∀k,k<ml.length->∃g off,p1=some ⟨g,off,none⟩/\yg ml g off w):=ai fun k hk=>hv.bq k hk;clear hv
 refine nY [fun v ds w9=>∃B,v=pv B 0/\w9.heap[B]?=some (au (b.cells (ae p1 ml.length c1) aM aC) 28 (0,0)),pV (ag af 0)]
  _ kQ hF.size hF.base ?_ ?_ ?_
 .refine⟨?_,sV,trivial⟩
  .rintro v ds w1 w2 hS ⟨B,h1,h2⟩ hb;exact⟨B,h1,aA h2 hb⟩
 .refine⟨?_,?_,trivial⟩<;>rintro ev w1 hS hc hg hf ⟨b0,-⟩ hd
  .refine Gw (v:=pv w1.heap.size 0) (w':=w1.alloc (au (b.cells (ae p1 ml.length c1) aM aC) 28)) ?_ ⟨⟨_,rfl,az _ _⟩,cJ dx⟩;go_simp
  exact tV
 intro a W hR;have ho:=hR.s;obtain⟨B1,e1,K1⟩:=hR.val 0;replace e1:a.eval (aL 1)=pv B1 0:=e1;replace HB:=HB.tr ho;replace hF:=((hR.fr hF).cons (t:=1) e1).cons (t:=2) (hR.val 1);clear hR ho e1;refine dR ?_;refine wF ⟨[],[],[(B1,(b.cells (ae p1 ml.length c1) aM aC))],[]⟩ [(9,aI (decide ((ml.length:Int)>3)))] hF hF ⟨fun w1 hS=>⟨_,_,aA K1 hS⟩,trivial⟩ trivial ?_;intro a W ho hF;replace HB:=HB.tr ho;replace K1:=aA K1 ho;refine bW (t:=(decide ((ml.length:Int)>3))) (hF.g 0 rfl) (fun Sv=>?_) (fun Sv=>?_)
 .replace hF:=hF.tl;have hres:qN ml=2:=by unfold qN;rw[if_pos (by simpa using Sv)]
  replace hF:=hF.tl;refine fP [(2,ag af 2)] hF ?_;intro a W ho hF;replace HB:=HB.tr ho;replace K1:=aA K1 ho;refine fA ?_;exact bj (bZ rfl _ _ _) hF.defers ⟨congrArg bA (((hF.g 0 rfl):a.eval (aL 2)=ag af 2).trans (congrArg _ hres.symm)),HB⟩
 replace hF:=hF.tl;have h3:¬(ml.length:Int)>3:=by simpa using Sv
 refine ej ?_;refine dR ?_;refine fP [(3,ag af 0)] hF ?_;intro a W ho hF;replace HB:=HB.tr ho;replace K1:=aA K1 ho;refine jv ?_;refine wp_loop (fun a W=>∃k:Nat,k<=ml.length/\(∀i,i<k->nH ml i=0)/\gw 54 a [(3,ag af (k:Nat)),(1,pv B1 0),(0,aR (b.cells (ae p1 ml.length c1) aM aC))]/\Bw w W/\W.heap[B1]?=some (au (b.cells (ae p1 ml.length c1) aM aC) 28 (0,0))) (fun a _=>ml.length-(intOf (a.eval (aL 3))).toNat) ⟨0,oM,fun i hi=>by omega,⟨hF.size,hF.defers,(by obtain⟨b3,-,b1,b0,-⟩:=hF.base;exact⟨b3,b1,b0,trivial⟩)⟩,HB,K1⟩ ?_;clear hF HB K1
 try clear a
 try clear W
 rintro a W ⟨k,s5,oY,hF,HB,K1⟩;have hk3:a.eval (aL 3)=ag af (k:Nat):=(hF.g 0 rfl)
 refine dR ?_;refine wF ⟨[],[],[(B1,(b.cells (ae p1 ml.length c1) aM aC))],[]⟩ [(14,aI (decide ((k:Int)<(ml.length:Int))))] hF hF ⟨fun w1 hS=>⟨_,_,aA K1 hS⟩,trivial⟩ trivial ?_;intro a W ho hF;replace HB:=HB.tr ho;replace K1:=aA K1 ho;refine bW (t:=(decide ((k:Int)<(ml.length:Int)))) (hF.g 0 rfl) (fun Vk=>?_) (fun Vk=>?_)
 .replace hF:=hF.tl;have yJ:k<ml.length:=by simpa using Vk
  obtain⟨g,off,rfl,hM⟩:=HC.out k yJ;have CM:=hM.below HB;clear hM;obtain⟨m,hm⟩:∃m,pQ ml k=m:=⟨_,rfl⟩
  have hw1:IntKind.i64.wrap ((k:Int)+1)=(k:Int)+1:=by rw[bg];omega
  refine ej ?_;refine dR ?_;refine jv ?_
  refine nY [pV (pv B1 12),pV (ae (some ⟨g,off,none⟩) ml.length c1),pV (ag af (k:Nat)),pV (eX (some ⟨g,off+k*3,none⟩)),pV (aR #[.string m.name,ag af m.lo,ag af m.hi]),fun v ds w9=>∃B,∃z:Array aj,v=pv B 0/\w9.heap[B]?=some (au z 79 (0,0))/\z.size=3/\W.heap.size<=B,fun v ds w9=>∃B,ds[0]?=some (pv B 0)/\W.heap.size<=B/\w9.heap[B]?=some (au #[.string m.name,ag af m.lo,ag af m.hi] 79 (0,0))]
   _ kQ hF.size hF.base ?_ ?_ ?_
  .refine⟨sV,sV,sV,sV,sV,?_,?_,trivial⟩
   .rintro v ds w1 w2 hS ⟨B,z,h1,h2,h3,h4⟩ hb;exact⟨B,z,h1,aA h2 hb,h3,h4⟩
   rintro v ds w1 w2 hS ⟨B,h1,h4,h2⟩ hb;exact⟨B,h1,h4,aA h2 hb⟩
  .refine⟨?_,?_,?_,?_,?_,?_,?_,trivial⟩<;>rintro ev w1 hS hc hg hf ⟨b3,b1,-,-⟩ hd
   all_goals try
    refine yw rfl ?_ rfl;go_simp;done
   .have d0:ev (aL 17)=_:=hd.1 rfl;have z:=aK (aA K1 hS) 12 _ rfl;exact tV
   .have d1:ev (aL 18)=_:=hd.1 rfl;have d2:ev (aL 19)=_:=hd.2.1 rfl;have AY:¬(ml.length<=k):=oM;exact tV
   .have d3:ev (aL 20)=_:=hd.1 rfl;obtain⟨z1,z2,z3⟩:=(yg.below CM hS).2 k oM;rw[hm] at z1 z2 z3;exact tV
   .refine Gw (v:=pv w1.heap.size 0) (w':=w1.alloc (au #[.string ⟨#[]⟩,ag af 0,ag af 0] 79)) ?_ ⟨⟨_,_,rfl,az _ _,rfl,hS.size⟩,cJ dx⟩;go_simp
   .have d5:∃B,∃z:Array aj,(ev (aL 4))=pv B 0/\w1.heap[B]?=some (au z 79 (0,0))/\z.size=3/\W.heap.size<=B:=hd.1 rfl;have d4:ev (aL 21)=_:=hd.2.1 rfl;obtain⟨B,z,eB,hB,hz,hge⟩:=d5;refine Lag.Yields.nt 79 _ _ rfl B #[.string m.name,ag af m.lo,ag af m.hi] eB d4 79 z hB kQ hz (by simp[cD]) ⟨⟨B,congrArg some eB,hge,dg hB⟩,.inr ⟨dA hS hge,?_⟩⟩;intro j u ds hj hp
    match j,hp with
    |0,hp|1,hp|2,hp|3,hp|4,hp=>exact hp
    |5,⟨B',z',h1,h2,h3,h4⟩=>
     by_cases qu:B'=B
     .subst qu;rw[hB] at h2;cases h2;exact⟨B',_,h1,dg hB,hz.symm.trans h3,h4⟩
     exact⟨B',z',h1,(setRow_other qu).trans h2,h3,h4⟩
    |6,_=>exact(hj rfl).elim
    |j+7,_=>trivial
  intro a W hR;have ho:=hR.s;obtain⟨B4,q4,-,K4⟩:=hR.val 6;have e4:a.eval (aL 4)=pv B4 0:=bp q4;clear q4;replace HB:=HB.tr ho;replace K1:=aA K1 ho;replace CM:=CM.below ho;replace hF:=(hR.fr hF).cons (t:=4) e4;clear hR ho e4;refine dR ?_;refine wF ⟨[],[(2,aI (kJ m.name))],[(B4,#[.string m.name,ag af m.lo,ag af m.hi])],[]⟩ [(25,aI (!(kJ m.name)))] hF hF ⟨fun w1 hS=>⟨_,_,aA K4 hS⟩,trivial⟩ ⟨fun w1 hS _=>gc (R9 m.name w1),trivial⟩ ?_;intro a W ho hF;replace HB:=HB.tr ho;replace K1:=aA K1 ho;replace CM:=CM.below ho;replace K4:=aA K4 ho;refine bW (t:=(!(kJ m.name))) (hF.g 0 rfl) (fun abP=>?_) (fun abP=>?_)
  .replace hF:=hF.tl;have h4:nH ml k=4:=by unfold nH;rw[hm,if_pos abP]
   have hres:qN ml=4:=(JP k h3 yJ oY (by rw[h4];decide)).trans h4;refine fP [(2,ag af 4)] hF ?_;intro a W ho hF;replace HB:=HB.tr ho;replace K1:=aA K1 ho;replace CM:=CM.below ho;replace K4:=aA K4 ho;refine fA ?_;exact bj (bZ rfl _ _ _) hF.defers ⟨congrArg bA (((hF.g 0 rfl):a.eval (aL 2)=ag af 4).trans (congrArg _ hres.symm)),HB⟩
  replace hF:=hF.tl;have Sp:(!(kJ m.name))≠true:=by rw[abP];simp
  refine ej ?_;refine dR ?_;refine fP [(5,ag af 0)] hF ?_;intro a W ho hF;replace HB:=HB.tr ho;replace K1:=aA K1 ho;replace CM:=CM.below ho;replace K4:=aA K4 ho;refine jv ?_;refine wp_loop (fun a W=>∃j:Nat,j<=k/\(∀i,i<j->Et (pQ ml i).name m.name=false)/\gw 54 a [(5,ag af (j:Nat)),(4,pv B4 0),(3,ag af (k:Nat)),(1,pv B1 0),(0,aR (b.cells (ae (some ⟨g,off,none⟩) ml.length c1) aM aC))]/\Bw w W/\W.heap[B1]?=some (au (b.cells (ae (some ⟨g,off,none⟩) ml.length c1) aM aC) 28 (0,0))/\yg ml g off W/\W.heap[B4]?=some (au #[.string m.name,ag af m.lo,ag af m.hi] 79 (0,0))) (fun a _=>k-(intOf (a.eval (aL 5))).toNat) ⟨0,oM,fun i hi=>by omega,⟨hF.size,hF.defers,hF.base⟩,HB,K1,CM,K4⟩ ?_;clear hF HB K1 CM K4
  try clear a
  try clear W
  rintro a W ⟨j,hkj,ZN,hF,HB,K1,CM,K4⟩;have hk5:a.eval (aL 5)=ag af (j:Nat):=(hF.g 0 rfl)
  refine dR ?_;refine fP [(28,aI (decide ((j:Int)<(k:Int))))] hF ?_;intro a W ho hF;replace HB:=HB.tr ho;replace K1:=aA K1 ho;replace CM:=CM.below ho;replace K4:=aA K4 ho;refine bW (t:=(decide ((j:Int)<(k:Int)))) (hF.g 0 rfl) (fun OZ=>?_) (fun OZ=>?_)
  .replace hF:=hF.tl;have aiQ:j<k:=by simpa using OZ
   have hw2:IntKind.i64.wrap ((j:Int)+1)=(j:Int)+1:=by rw[bg];omega
   refine ej ?_;refine dR ?_;refine jv ?_
   refine M3 kQ [pV (pv B1 12),pV (ae (some ⟨g,off,none⟩) ml.length c1),pV (ag af (j:Nat)),pV (eX (some ⟨g,off+j*3,none⟩)),pV (eX (some ⟨g,off+j*3,none⟩)),pV (.string (pQ ml j).name),pV (pv B4 0),pV (.string m.name),pV (aI (((pQ ml j).name).toList==m.name.toList))]
    _ kQ hF.size hF.base ?_ ?_ ?_
   .exact⟨sV,sV,sV,sV,sV,sV,sV,sV,sV,trivial⟩
   .refine⟨?_,?_,?_,?_,?_,?_,?_,?_,?_,trivial⟩<;>rintro ev w1 hS hc hg hf ⟨b5,b4,-,b1,-,-⟩ hd
    all_goals try
     try have d0:ev (aL _)=_:=hd.1 rfl
     try have d1:ev (aL _)=_:=hd.2.1 rfl
     refine yw rfl ?_ rfl;go_simp;done
    .have d0:ev (aL 31)=_:=hd.1 rfl;have z:=aK (aA K1 hS) 12 _ rfl;exact tV
    .have d1:ev (aL 32)=_:=hd.1 rfl;have d2:ev (aL 33)=_:=hd.2.1 rfl;have AY:¬(ml.length<=j):=oM;exact tV
    .have d4:ev (aL 35)=_:=hd.1 rfl;obtain⟨z1,z2,z3⟩:=(yg.below CM hS).2 j oM;exact tV
    have d6:ev (aL 37)=_:=hd.1 rfl;have z:=aK (aA K4 hS) 0 _ rfl;exact tV
   intro a W hR;have ho:=hR.s;replace HB:=HB.tr ho;replace K1:=aA K1 ho;replace CM:=CM.below ho;replace K4:=aA K4 ho;replace hF:=(hR.fr hF).cons (t:=39) (hR.val 8);clear hR ho;refine bW (t:=(((pQ ml j).name).toList==m.name.toList)) (hF.g 0 rfl) (fun abL=>?_) (fun abL=>?_)
   .replace hF:=hF.tl;have h5:nH ml k=5:=by unfold nH;rw[hm,if_neg Sp,if_pos (Ie j aiQ (by rw[hm];exact abL))]
    have hres:qN ml=5:=(JP k h3 yJ oY (by rw[h5];decide)).trans h5;refine fP [(2,ag af 5)] hF ?_;intro a W ho hF;replace HB:=HB.tr ho;replace K1:=aA K1 ho;replace CM:=CM.below ho;replace K4:=aA K4 ho;refine fA ?_;exact bj (bZ rfl _ _ _) hF.defers ⟨congrArg bA (((hF.g 0 rfl):a.eval (aL 2)=ag af 5).trans (congrArg _ hres.symm)),HB⟩
   replace hF:=hF.tl;have hz:Et (pQ ml j).name m.name=false:=abL;refine ej ?_;have ov:=hF;replace hF:=hF.tl;refine KS ⟨[],[(1,ag af ((j:Nat)+1))],[],[]⟩ [(5,ag af ((j:Nat)+1))] ov hF trivial ⟨fun w1 hS _=>ge (congrArg (aD af) (show IntKind.i64.wrap ((j:Nat)+1)=((j:Nat)+1) by rw[bg];omega)),trivial⟩ ?_;intro a W ho hF;clear ov;replace HB:=HB.tr ho;replace K1:=aA K1 ho;replace CM:=CM.below ho;replace K4:=aA K4 ho;refine⟨⟨j+1,oM,fun i hi=>if hik:i<j then ZN i hik else by have e:i=j:=(by omega);rw[e];exact hz,⟨hF.size,hF.defers,hF.base⟩,HB,K1,CM,K4⟩,?_⟩;rw[show a.eval (aL 5)=ag af ((j:Nat)+1) from(hF.g 0 rfl)];simp only[hk5];simp[intOf];omega
  replace hF:=hF.tl;refine wp_exit ?_;have aml:j=k:=by simp at OZ;omega
  have htw:twice ml k=false:=TR fun i hi=>by rw[hm];exact ZN i oM
  show Gz aq _ _ a W
  refine nY [pV (pv B4 1),pV (aR #[ag af m.lo,ag af m.hi]),pV (aI (cG m.lo m.hi 1 99)),pV (aI (!(cG m.lo m.hi 1 99))),pV (aI (!(cG m.lo m.hi 1 99))),pC (!(!(cG m.lo m.hi 1 99))) (pv B4 1),pC (!(!(cG m.lo m.hi 1 99))) (pv B4 2),pC (!(!(cG m.lo m.hi 1 99))) (ag af m.hi),pC (!(!(cG m.lo m.hi 1 99))) (pv B4 1),pC (!(!(cG m.lo m.hi 1 99))) (pv B4 1),pC (!(!(cG m.lo m.hi 1 99))) (ag af m.lo),pC (!(!(cG m.lo m.hi 1 99))) (ag af (m.hi-m.lo)),pC (!(!(cG m.lo m.hi 1 99))) (aI (decide ((m.hi-m.lo)≥3))),pV (aI ((!(cG m.lo m.hi 1 99))||(decide ((m.hi-m.lo)≥3))))]
   _ kQ hF.size hF.base ?_ ?_ ?_
  .exact⟨sV,sV,sV,sV,sV,sC,sC,sC,sC,sC,sC,sC,sC,sV,trivial⟩
  .refine⟨?_,?_,?_,?_,?_,?_,?_,?_,?_,?_,?_,?_,?_,?_,trivial⟩<;>rintro ev w1 hS hc hg hf ⟨-,b4,-,-,-,-⟩ hd
   all_goals try
    try have d0:ev (aL _)=_:=hd.1 rfl
    refine yw rfl ?_ rfl;go_simp;done
   all_goals try
    try have d0:ev (aL _)=_:=hd.1 rfl
    try have c0:_->ev (aL _)=_:=hd.1 rfl
    try have d1:ev (aL _)=_:=hd.2.1 rfl
    first|refine gC d0 mG fun hA=>?_|refine gC d1 mG fun hA=>?_
    try replace c0:=c0 hA
    refine yw rfl ?_ (fun _=>rfl);go_simp;done
   .have d0:ev (aL 40)=_:=hd.1 rfl;have z1:=aK (aA K4 hS) 1 _ rfl;have z2:=aK (aA K4 hS) 2 _ rfl;exact tV
   .have d1:ev (aL 41)=_:=hd.1 rfl;refine yc (rQ m.lo m.hi 1 99 w1) ?_ (fun _=>rfl);go_simp
   .have d6:_->ev (aL 46)=_:=hd.1 rfl;have d4:ev (aL 44)=_:=hd.2.1 rfl;refine gC d4 mG fun hA=>?_;have y6:=d6 hA;have z:=aK (aA K4 hS) 2 _ rfl;refine yv ?_ (fun _=>rfl);go_simp
   .have d9:_->ev (aL 49)=_:=hd.1 rfl;have d4:ev (aL 44)=_:=hd.2.1 rfl;refine gC d4 mG fun hA=>?_;have y9:=d9 hA;have z:=aK (aA K4 hS) 1 _ rfl;refine yv ?_ (fun _=>rfl);go_simp
   .have d7:_->ev (aL 47)=_:=hd.1 rfl;have d10:_->ev (aL 50)=_:=hd.2.1 rfl;have d4:ev (aL 44)=_:=hd.2.2.1 rfl;refine gC d4 mG fun hA=>?_;have y7:=d7 hA;have NS:=d10 hA;have hw:=Rc (lo:=m.lo) (hi:=m.hi) (by revert hA;cases cG m.lo m.hi 1 99<;>simp);refine yv ?_ (fun _=>rfl);go_simp
   have d4:ev (aL 44)=_:=hd.1 rfl;have d12:_->ev (aL 52)=_:=hd.2.1 rfl;exact yO rfl hc d4 (fun hq=>d12 (by simp[hq])) (rfl)
  intro a W hR;have ho:=hR.s;replace HB:=HB.tr ho;replace K1:=aA K1 ho;replace CM:=CM.below ho;replace K4:=aA K4 ho;replace hF:=(hR.fr hF).cons (t:=53) (hR.val 13);clear hR ho;refine bW (t:=((!(cG m.lo m.hi 1 99))||(decide ((m.hi-m.lo)≥3)))) (hF.g 0 rfl) (fun abI=>?_) (fun abI=>?_)
  .replace hF:=hF.tl;have h1:nH ml k=1:=by unfold nH;rw[hm,if_neg Sp,if_neg (by rw[htw];simp),if_pos (show qy m=true from abI)]
   have hres:qN ml=1:=(JP k h3 yJ oY (by rw[h1];decide)).trans h1;refine fP [(2,ag af 1)] hF ?_;intro a W ho hF;replace HB:=HB.tr ho;replace K1:=aA K1 ho;replace CM:=CM.below ho;replace K4:=aA K4 ho;refine fA ?_;exact bj (bZ rfl _ _ _) hF.defers ⟨congrArg bA (((hF.g 0 rfl):a.eval (aL 2)=ag af 1).trans (congrArg _ hres.symm)),HB⟩
  replace hF:=hF.tl;have hz:nH ml k=0:=by unfold nH;rw[hm,if_neg Sp,if_neg (by rw[htw];simp),if_neg (by rw[show qy m=_ from abI];simp)]
  refine ej ?_;have ov:=hF;replace hF:=hF.del 3;simp only[ju,bz,reduceIte] at hF;refine KS ⟨[],[(1,ag af ((k:Nat)+1))],[],[]⟩ [(3,ag af ((k:Nat)+1))] ov hF trivial ⟨fun w1 hS _=>ge (congrArg (aD af) (show IntKind.i64.wrap ((k:Nat)+1)=((k:Nat)+1) by rw[bg];omega)),trivial⟩ ?_;intro a W ho hF;clear ov;replace HB:=HB.tr ho;replace K1:=aA K1 ho;replace CM:=CM.below ho;replace K4:=aA K4 ho;refine⟨⟨k+1,oM,fun i hi=>if hik:i<k then oY i hik else by have e:i=k:=(by omega);rw[e];exact hz,⟨hF.size,hF.defers,(by obtain⟨b3,-,-,b1,b0,-⟩:=hF.base;exact⟨b3,b1,b0,trivial⟩)⟩,HB,K1⟩,?_⟩;rw[show a.eval (aL 3)=ag af ((k:Nat)+1) from(hF.g 0 rfl)];simp only[hk3];simp[intOf];omega
 replace hF:=hF.tl;refine wp_exit ?_;have Ve:k=ml.length:=by simp at Vk;omega
 have hres:qN ml=0:=RX h3 fun i hi=>oY i oM;show Gz aq _ _ a W;refine fP [(2,ag af 0)] hF ?_;intro a W ho hF;replace HB:=HB.tr ho;replace K1:=aA K1 ho;refine fA ?_;exact bj (bZ rfl _ _ _) hF.defers ⟨congrArg bA (((hF.g 0 rfl):a.eval (aL 2)=ag af 0).trans (congrArg _ hres.symm)),HB⟩
def JO(l:List Mk)(i:Nat):Mk:=l.getD i ⟨0,0,0⟩
def L6(l:List Mk)(i:Nat)(h:i<l.length):JO l i=l[i]:=by simp[JO,h]
def PJ(ms:List Mk)(g off:Nat)(W:ak):Prop:=g<W.heap.size/\∀i,i<ms.length->W.cell? ⟨g,off+i*3,none⟩=some (ag af (JO ms i).minute)/\W.cell? ⟨g,off+i*3+1,none⟩=some (ag af (JO ms i).lo)/\W.cell? ⟨g,off+i*3+2,none⟩=some (ag af (JO ms i).hi)
def PJ.below{ml:List Mk}{g off:Nat}{W W':ak}(h:PJ ml g off W)(ho:Bw W W'):PJ ml g off W':=
 ⟨bw h.1 ho.size,fun i hi=>⟨(ho.cell (p:=⟨g,off+i*3,none⟩) h.1).trans (h.2 i hi).1,(ho.cell (p:=⟨g,off+i*3+1,none⟩) h.1).trans (h.2 i hi).2.1,(ho.cell (p:=⟨g,off+i*3+2,none⟩) h.1).trans (h.2 i hi).2.2⟩⟩
def Reads.mks{w:ak}{p:Option Addr}{n c:Nat}{ms:List Mk}(h:Reads w (ae p n c) n (dV ms))(k:Nat)(hk:k<ms.length):∃g off,p=some ⟨g,off,none⟩/\PJ ms g off w:=by
 rcases h with⟨_,_,h⟩|⟨g,off,cap,h,_,hg,hc⟩
 .have:=congrArg List.length h;rw[qo] at this;simp at this;omega
 cases h;refine⟨g,off,rfl,hg,fun i hi=>?_⟩;rw[L6 ms i hi];exact xd hc i hi
def zQ(l:List Mn)(i:Nat):Bool:=decide (((pQ l i).name.size:Int)>100)
def Fw(ml:List Mn)(ss:List Int)(ms:List Mk):Bool:=(decide ((ml.length:Int)>20)||decide ((ss.length:Int)>20))||decide ((ms.length:Int)>20)
def jK(ml:List Mn)(ss:List Int)(ms:List Mk):Bool:=Fw ml ss ms||(aS ml.length).any (zQ ml)
def ot(b:BB)(ms:List Mk)(i:Nat):Int:=if (!(aV (JO ms i).minute 1 b.minutes))=true then 6 else if (!(cG (JO ms i).lo (JO ms i).hi 0 99))=true then 1 else 0
def uw(b:BB)(ms:List Mk):Int:=if (ms.length:Int)>3 then 2 else(((aS ms.length).map (ot b ms)).find? fun h=>h !=0).getD 0
def IB{b:BB}{l:List Mk}(i:Nat)(h3:¬(l.length:Int)>3)(hi:i<l.length)(hpre:∀k,k<i->ot b l k=0)(h:ot b l i≠0):uw b l=ot b l i:=by
 unfold uw;rw[if_neg h3,Ah _ _ i hi hpre h];rfl
def L8{b:BB}{l:List Mk}(h3:¬(l.length:Int)>3)(hpre:∀k,k<l.length->ot b l k=0):uw b l=0:=by
 unfold uw;rw[if_neg h3,tU _ _ hpre];rfl
def k9(b:BB)(ml:List Mn)(ss:List Int)(ms:List Mk):Int:=if (px b !=0)=true then px b else if (qN ml !=0)=true then qN ml else if (lR b ss !=0)=true then lR b ss else uw b ms
def SG(b:BB)(p1 p2 p3:Option Addr)(c1 c2 c3:Nat)(ml:List Mn)(ss:List Int)(ms:List Mk)(w:ak)(hv:Reads w (ae p1 ml.length c1) ml.length (fQ ml)):bm aq 18 #[aR (b.sl p1 ml.length c1 p2 ss.length c2 p3 ms.length c3)] w (Rt w (aI (jK ml ss ms))):=by
 refine kZ Tryz.func18 rfl rfl [(0,aR (b.sl p1 ml.length c1 p2 ss.length c2 p3 ms.length c3))] ⟨jg rfl,trivial⟩ fun a hF=>?_;refine(fun h:∀W,Bw w W->Gz aq _ _ a W=>h w (aB _ _)) ?_;intro W HB;have HC:mU (∀k,k<ml.length->∃g off,p1=some ⟨g,off,none⟩/\yg ml g off w):=ai fun k hk=>hv.bq k hk;clear hv
 refine nY [fun v ds w9=>∃B,v=pv B 0/\w9.heap[B]?=some (au (b.sl p1 ml.length c1 p2 ss.length c2 p3 ms.length c3) 28 (0,0)),pV (aI false)]
  _ kQ hF.size hF.base ?_ ?_ ?_
 .refine⟨?_,sV,trivial⟩
  .rintro v ds w1 w2 hS ⟨B,h1,h2⟩ hb;exact⟨B,h1,aA h2 hb⟩
 .refine⟨?_,?_,trivial⟩<;>rintro ev w1 hS hc hg hf ⟨b0,-⟩ hd
  .refine Gw (v:=pv w1.heap.size 0) (w':=w1.alloc (au (b.sl p1 ml.length c1 p2 ss.length c2 p3 ms.length c3) 28)) ?_ ⟨⟨_,rfl,az _ _⟩,cJ dx⟩;go_simp
  exact tV
 intro a W hR;have ho:=hR.s;obtain⟨B1,e1,K1⟩:=hR.val 0;replace e1:a.eval (aL 1)=pv B1 0:=e1;replace HB:=HB.tr ho;replace hF:=((hR.fr hF).cons (t:=1) e1).cons (t:=2) (hR.val 1);clear hR ho e1;refine dR ?_;refine wF ⟨[],[],[(B1,(b.sl p1 ml.length c1 p2 ss.length c2 p3 ms.length c3))],[]⟩ [(19,aI (((decide ((ml.length:Int)>20))||(decide ((ss.length:Int)>20)))||(decide ((ms.length:Int)>20))))] hF hF ⟨fun w1 hS=>⟨_,_,aA K1 hS⟩,trivial⟩ trivial ?_;intro a W ho hF;replace HB:=HB.tr ho;replace K1:=aA K1 ho;refine bW (t:=(((decide ((ml.length:Int)>20))||(decide ((ss.length:Int)>20)))||(decide ((ms.length:Int)>20)))) (hF.g 0 rfl) (fun O3=>?_) (fun O3=>?_)
 .replace hF:=hF.tl;have hres:jK ml ss ms=true:=by unfold jK;rw[show Fw ml ss ms=true from O3];rfl
  replace hF:=hF.tl;refine fP [(2,aI true)] hF ?_;intro a W ho hF;replace HB:=HB.tr ho;replace K1:=aA K1 ho;refine fA ?_;exact bj (bZ rfl _ _ _) hF.defers ⟨congrArg bA (((hF.g 0 rfl):a.eval (aL 2)=aI true).trans (congrArg _ hres.symm)),HB⟩
 replace hF:=hF.tl;have h20:ml.length<=20:=by revert O3;simp;omega
 refine ej ?_;refine dR ?_;refine fP [(3,ag af 0)] hF ?_;intro a W ho hF;replace HB:=HB.tr ho;replace K1:=aA K1 ho;refine jv ?_;refine wp_loop (fun a W=>∃k:Nat,k<=ml.length/\(∀i,i<k->zQ ml i=false)/\gw 35 a [(3,ag af (k:Nat)),(1,pv B1 0),(0,aR (b.sl p1 ml.length c1 p2 ss.length c2 p3 ms.length c3))]/\Bw w W/\W.heap[B1]?=some (au (b.sl p1 ml.length c1 p2 ss.length c2 p3 ms.length c3) 28 (0,0))) (fun a _=>ml.length-(intOf (a.eval (aL 3))).toNat) ⟨0,oM,fun i hi=>by omega,⟨hF.size,hF.defers,(by obtain⟨b3,-,b1,b0,-⟩:=hF.base;exact⟨b3,b1,b0,trivial⟩)⟩,HB,K1⟩ ?_;clear hF HB K1
 try clear a
 try clear W
 rintro a W ⟨k,s5,oY,hF,HB,K1⟩;have hk3:a.eval (aL 3)=ag af (k:Nat):=(hF.g 0 rfl)
 refine dR ?_;refine wF ⟨[],[],[(B1,(b.sl p1 ml.length c1 p2 ss.length c2 p3 ms.length c3))],[]⟩ [(24,aI (decide ((k:Int)<(ml.length:Int))))] hF hF ⟨fun w1 hS=>⟨_,_,aA K1 hS⟩,trivial⟩ trivial ?_;intro a W ho hF;replace HB:=HB.tr ho;replace K1:=aA K1 ho;refine bW (t:=(decide ((k:Int)<(ml.length:Int)))) (hF.g 0 rfl) (fun Kb=>?_) (fun Kb=>?_)
 .replace hF:=hF.tl;have yJ:k<ml.length:=by simpa using Kb
  obtain⟨g,off,rfl,hM⟩:=HC.out k yJ;have CM:=hM.below HB;clear hM;obtain⟨m,hm⟩:∃m,pQ ml k=m:=⟨_,rfl⟩
  have hw1:IntKind.i64.wrap ((k:Int)+1)=(k:Int)+1:=by rw[bg];omega
  refine ej ?_;refine dR ?_;refine jv ?_
  refine nY [pV (pv B1 12),pV (ae (some ⟨g,off,none⟩) ml.length c1),pV (ag af (k:Nat)),pV (eX (some ⟨g,off+k*3,none⟩)),pV (eX (some ⟨g,off+k*3,none⟩)),pV (.string m.name),pV (ag af (m.name.size:Int)),pV (aI (decide ((m.name.size:Int)>100)))]
   _ kQ hF.size hF.base ?_ ?_ ?_
  .exact⟨sV,sV,sV,sV,sV,sV,sV,sV,trivial⟩
  .refine⟨?_,?_,?_,?_,?_,?_,?_,?_,trivial⟩<;>rintro ev w1 hS hc hg hf ⟨b3,b1,-,-⟩ hd
   all_goals try
    try have d0:ev (aL _)=_:=hd.1 rfl
    refine yw rfl ?_ rfl;go_simp;done
   .have d0:ev (aL 27)=_:=hd.1 rfl;have z:=aK (aA K1 hS) 12 _ rfl;exact tV
   .have d1:ev (aL 28)=_:=hd.1 rfl;have d2:ev (aL 29)=_:=hd.2.1 rfl;have AY:¬(ml.length<=k):=oM;exact tV
   have d4:ev (aL 31)=_:=hd.1 rfl;obtain⟨z1,z2,z3⟩:=(yg.below CM hS).2 k oM;rw[hm] at z1 z2 z3;exact tV
  intro a W hR;have ho:=hR.s;replace HB:=HB.tr ho;replace K1:=aA K1 ho;replace CM:=CM.below ho;replace hF:=(hR.fr hF).cons (t:=34) (hR.val 7);clear hR ho;refine bW (t:=(decide ((m.name.size:Int)>100))) (hF.g 0 rfl) (fun abM=>?_) (fun abM=>?_)
  .replace hF:=hF.tl;have hres:jK ml ss ms=true:=by unfold jK;rw[Bool.or_eq_true];right;rw[H4];exact⟨k,bV.2 yJ,by unfold zQ;rw[hm];exact abM⟩
   refine fP [(2,aI true)] hF ?_;intro a W ho hF;replace HB:=HB.tr ho;replace K1:=aA K1 ho;replace CM:=CM.below ho;refine fA ?_;exact bj (bZ rfl _ _ _) hF.defers ⟨congrArg bA (((hF.g 0 rfl):a.eval (aL 2)=aI true).trans (congrArg _ hres.symm)),HB⟩
  replace hF:=hF.tl;have hz:zQ ml k=false:=by unfold zQ;rw[hm];exact abM
  refine ej ?_;have ov:=hF;replace hF:=hF.tl;refine KS ⟨[],[(1,ag af ((k:Nat)+1))],[],[]⟩ [(3,ag af ((k:Nat)+1))] ov hF trivial ⟨fun w1 hS _=>ge (congrArg (aD af) (show IntKind.i64.wrap ((k:Nat)+1)=((k:Nat)+1) by rw[bg];omega)),trivial⟩ ?_;intro a W ho hF;clear ov;replace HB:=HB.tr ho;replace K1:=aA K1 ho;replace CM:=CM.below ho;refine⟨⟨k+1,oM,fun i hi=>if hik:i<k then oY i hik else by have e:i=k:=(by omega);rw[e];exact hz,⟨hF.size,hF.defers,hF.base⟩,HB,K1⟩,?_⟩;rw[show a.eval (aL 3)=ag af ((k:Nat)+1) from(hF.g 0 rfl)];simp only[hk3];simp[intOf];omega
 replace hF:=hF.tl;refine wp_exit ?_;have Ve:k=ml.length:=by simp at Kb;omega
 have hres:jK ml ss ms=false:=by
  unfold jK;rw[show Fw ml ss ms=false from O3,Bool.false_or,List.any_eq_false];intro i hi;rw[oY i (by have:=bV.1 hi;omega)];simp
 show Gz aq _ _ a W;refine fP [(2,aI false)] hF ?_;intro a W ho hF;replace HB:=HB.tr ho;replace K1:=aA K1 ho;refine fA ?_;exact bj (bZ rfl _ _ _) hF.defers ⟨congrArg bA (((hF.g 0 rfl):a.eval (aL 2)=aI false).trans (congrArg _ hres.symm)),HB⟩
def CD(b:BB)(p1 p2 p3:Option Addr)(c1 c2 c3:Nat)(ml:List Mn)(ss:List Int)(ms:List Mk)(hl:ml.length<=20/\ss.length<=20)(w:ak)(hv:Reads w (ae p1 ml.length c1) ml.length (fQ ml))(hu:Reads w (ae p2 ss.length c2) ss.length (ss.map (aD af)))(hk3:Reads w (ae p3 ms.length c3) ms.length (dV ms)):bm aq 72 #[aR (b.sl p1 ml.length c1 p2 ss.length c2 p3 ms.length c3)] w (Rt w (ag af (k9 b ml ss ms))):=by
 refine kZ Tryz.func72 rfl rfl [(0,aR (b.sl p1 ml.length c1 p2 ss.length c2 p3 ms.length c3))] ⟨jg rfl,trivial⟩ fun a hF=>?_;refine(fun h:∀W,Bw w W->Gz aq _ _ a W=>h w (aB _ _)) ?_;intro W HB;have HC:mU (∀k,k<ms.length->∃g off,p3=some ⟨g,off,none⟩/\PJ ms g off w):=ai fun k hk=>hk3.mks k hk;clear hk3
 refine nY [fun v ds w9=>∃B,v=pv B 0/\w9.heap[B]?=some (au (b.sl p1 ml.length c1 p2 ss.length c2 p3 ms.length c3) 28 (0,0)),pV (ag af 0)]
  _ kQ hF.size hF.base ?_ ?_ ?_
 .refine⟨?_,sV,trivial⟩
  .rintro v ds w1 w2 hS ⟨B,h1,h2⟩ hb;exact⟨B,h1,aA h2 hb⟩
 .refine⟨?_,?_,trivial⟩<;>rintro ev w1 hS hc hg hf ⟨b0,-⟩ hd
  .refine Gw (v:=pv w1.heap.size 0) (w':=w1.alloc (au (b.sl p1 ml.length c1 p2 ss.length c2 p3 ms.length c3) 28)) ?_ ⟨⟨_,rfl,az _ _⟩,cJ dx⟩;go_simp
  exact tV
 intro a W hR;have ho:=hR.s;obtain⟨B1,e1,K1⟩:=hR.val 0;replace e1:a.eval (aL 1)=pv B1 0:=e1;replace HB:=HB.tr ho;replace hF:=((hR.fr hF).cons (t:=1) e1).cons (t:=2) (hR.val 1);clear hR ho e1;refine dR ?_;refine wF ⟨[],[(1,ag af (px b))],[(B1,(b.sl p1 ml.length c1 p2 ss.length c2 p3 ms.length c3))],[]⟩ [(3,ag af (px b))] hF hF ⟨fun w1 hS=>⟨_,_,aA K1 hS⟩,trivial⟩ ⟨fun w1 hS _=>gc (Hj b (ae p1 ml.length c1) (ae p2 ss.length c2) (ae p3 ms.length c3) w1),trivial⟩ ?_;intro a W ho hF;replace HB:=HB.tr ho;replace K1:=aA K1 ho;refine fP [(10,aI ((px b) !=0))] hF ?_;intro a W ho hF;replace HB:=HB.tr ho;replace K1:=aA K1 ho;refine bW (t:=((px b) !=0)) (hF.g 0 rfl) (fun O4=>?_) (fun O4=>?_)
 .replace hF:=hF.tl;have hres:k9 b ml ss ms=px b:=by unfold k9;rw[if_pos O4]
  replace hF:=hF.del 2;simp only[ju,bz,reduceIte] at hF;refine fP [(2,ag af (px b))] hF ?_;intro a W ho hF;replace HB:=HB.tr ho;replace K1:=aA K1 ho;refine fA ?_;exact bj (bZ rfl _ _ _) hF.defers ⟨congrArg bA (((hF.g 0 rfl):a.eval (aL 2)=ag af (px b)).trans (congrArg _ hres.symm)),HB⟩
 replace hF:=hF.tl;refine ej ?_;refine dR ?_;refine wF ⟨[],[(1,ag af (qN ml))],[(B1,(b.sl p1 ml.length c1 p2 ss.length c2 p3 ms.length c3))],[]⟩ [(4,ag af (qN ml))] hF hF ⟨fun w1 hS=>⟨_,_,aA K1 hS⟩,trivial⟩ ⟨fun w1 hS _=>gc (args:=#[aR (b.sl p1 ml.length c1 p2 ss.length c2 p3 ms.length c3)]) (Kq b (ae p2 ss.length c2) (ae p3 ms.length c3) _ _ ml oM w1 (hv.below (HB.tr hS))),trivial⟩ ?_;intro a W ho hF;replace HB:=HB.tr ho;replace K1:=aA K1 ho;refine fP [(15,aI ((qN ml) !=0))] hF ?_;intro a W ho hF;replace HB:=HB.tr ho;replace K1:=aA K1 ho;refine bW (t:=((qN ml) !=0)) (hF.g 0 rfl) (fun Mz=>?_) (fun Mz=>?_)
 .replace hF:=hF.tl;have hres:k9 b ml ss ms=qN ml:=by unfold k9;rw[if_neg (by rw[O4];simp),if_pos Mz]
  replace hF:=hF.del 2;simp only[ju,bz,reduceIte] at hF;refine fP [(2,ag af (qN ml))] hF ?_;intro a W ho hF;replace HB:=HB.tr ho;replace K1:=aA K1 ho;refine fA ?_;exact bj (bZ rfl _ _ _) hF.defers ⟨congrArg bA (((hF.g 0 rfl):a.eval (aL 2)=ag af (qN ml)).trans (congrArg _ hres.symm)),HB⟩
 replace hF:=hF.tl;refine ej ?_;refine dR ?_;refine wF ⟨[],[(3,ag af (lR b ss))],[(B1,(b.sl p1 ml.length c1 p2 ss.length c2 p3 ms.length c3))],[]⟩ [(5,ag af (lR b ss))] hF hF ⟨fun w1 hS=>⟨_,_,aA K1 hS⟩,trivial⟩ ⟨fun w1 hS _=>gc (args:=#[aR (b.sl p1 ml.length c1 p2 ss.length c2 p3 ms.length c3),ae p2 ss.length c2]) (Hi b (ae p1 ml.length c1) (ae p2 ss.length c2) (ae p3 ms.length c3) _ _ ss oM w1 (hu.below (HB.tr hS))),trivial⟩ ?_;intro a W ho hF;replace HB:=HB.tr ho;replace K1:=aA K1 ho;refine fP [(22,aI ((lR b ss) !=0))] hF ?_;intro a W ho hF;replace HB:=HB.tr ho;replace K1:=aA K1 ho;refine bW (t:=((lR b ss) !=0)) (hF.g 0 rfl) (fun abQ=>?_) (fun abQ=>?_)
 .replace hF:=hF.tl;have hres:k9 b ml ss ms=lR b ss:=by unfold k9;rw[if_neg (by rw[O4];simp),if_neg (by rw[Mz];simp),if_pos abQ]
  replace hF:=hF.del 2;simp only[ju,bz,reduceIte] at hF;refine fP [(2,ag af (lR b ss))] hF ?_;intro a W ho hF;replace HB:=HB.tr ho;replace K1:=aA K1 ho;refine fA ?_;exact bj (bZ rfl _ _ _) hF.defers ⟨congrArg bA (((hF.g 0 rfl):a.eval (aL 2)=ag af (lR b ss)).trans (congrArg _ hres.symm)),HB⟩
 replace hF:=hF.tl;have hh:k9 b ml ss ms=uw b ms:=by unfold k9;rw[if_neg (by rw[O4];simp),if_neg (by rw[Mz];simp),if_neg (by rw[abQ];simp)]
 refine ej ?_;refine dR ?_;refine wF ⟨[],[],[(B1,(b.sl p1 ml.length c1 p2 ss.length c2 p3 ms.length c3))],[]⟩ [(27,aI (decide ((ms.length:Int)>3)))] hF hF ⟨fun w1 hS=>⟨_,_,aA K1 hS⟩,trivial⟩ trivial ?_;intro a W ho hF;replace HB:=HB.tr ho;replace K1:=aA K1 ho;refine bW (t:=(decide ((ms.length:Int)>3))) (hF.g 0 rfl) (fun abO=>?_) (fun abO=>?_)
 .replace hF:=hF.tl;have hres:k9 b ml ss ms=2:=by rw[hh];unfold uw;rw[if_pos (by simpa using abO)]
  replace hF:=hF.del 2;simp only[ju,bz,reduceIte] at hF;refine fP [(2,ag af 2)] hF ?_;intro a W ho hF;replace HB:=HB.tr ho;replace K1:=aA K1 ho;refine fA ?_;exact bj (bZ rfl _ _ _) hF.defers ⟨congrArg bA (((hF.g 0 rfl):a.eval (aL 2)=ag af 2).trans (congrArg _ hres.symm)),HB⟩
 replace hF:=hF.tl;have h3:¬(ms.length:Int)>3:=by simpa using abO
 refine ej ?_;refine dR ?_;refine fP [(6,ag af 0)] hF ?_;intro a W ho hF;replace HB:=HB.tr ho;replace K1:=aA K1 ho;refine jv ?_;refine wp_loop (fun a W=>∃k:Nat,k<=ms.length/\(∀i,i<k->ot b ms i=0)/\gw 52 a [(6,ag af (k:Nat)),(1,pv B1 0),(0,aR (b.sl p1 ml.length c1 p2 ss.length c2 p3 ms.length c3))]/\Bw w W/\W.heap[B1]?=some (au (b.sl p1 ml.length c1 p2 ss.length c2 p3 ms.length c3) 28 (0,0))) (fun a _=>ms.length-(intOf (a.eval (aL 6))).toNat) ⟨0,oM,fun i hi=>by omega,⟨hF.size,hF.defers,(by obtain⟨b6,-,-,-,-,b1,b0,-⟩:=hF.base;exact⟨b6,b1,b0,trivial⟩)⟩,HB,K1⟩ ?_;clear hF HB K1
 try clear a
 try clear W
 rintro a W ⟨k,s5,oY,hF,HB,K1⟩;have hk6:a.eval (aL 6)=ag af (k:Nat):=(hF.g 0 rfl)
 refine dR ?_;refine wF ⟨[],[],[(B1,(b.sl p1 ml.length c1 p2 ss.length c2 p3 ms.length c3))],[]⟩ [(32,aI (decide ((k:Int)<(ms.length:Int))))] hF hF ⟨fun w1 hS=>⟨_,_,aA K1 hS⟩,trivial⟩ trivial ?_;intro a W ho hF;replace HB:=HB.tr ho;replace K1:=aA K1 ho;refine bW (t:=(decide ((k:Int)<(ms.length:Int)))) (hF.g 0 rfl) (fun Dt=>?_) (fun Dt=>?_)
 .replace hF:=hF.tl;have yJ:k<ms.length:=by simpa using Dt
  obtain⟨g,off,rfl,hM⟩:=HC.out k yJ;have CM:=hM.below HB;clear hM;obtain⟨m,hm⟩:∃m,JO ms k=m:=⟨_,rfl⟩
  have hw1:IntKind.i64.wrap ((k:Int)+1)=(k:Int)+1:=by rw[bg];omega
  refine ej ?_;refine dR ?_;refine jv ?_;refine dR ?_
  refine M3 kQ [pV (aR (b.sl p1 ml.length c1 p2 ss.length c2 (some ⟨g,off,none⟩) ms.length c3)),pV (pv B1 14),pV (ae (some ⟨g,off,none⟩) ms.length c3),pV (ag af (k:Nat)),pV (eX (some ⟨g,off+k*3,none⟩)),pV (eX (some ⟨g,off+k*3,none⟩)),pV (ag af m.minute),pV (aI (aV m.minute 1 b.minutes)),pV (aI (!(aV m.minute 1 b.minutes)))]
   _ kQ hF.size hF.base ?_ ?_ ?_
  .exact⟨sV,sV,sV,sV,sV,sV,sV,sV,sV,trivial⟩
  .refine⟨?_,?_,?_,?_,?_,?_,?_,?_,?_,trivial⟩<;>rintro ev w1 hS hc hg hf ⟨b6,b1,-,-⟩ hd
   all_goals try
    try have d0:ev (aL _)=_:=hd.1 rfl
    refine yw rfl ?_ rfl;go_simp;done
   .have lJ:=aA K1 hS;exact E5 28 rfl b1 lJ cM rfl kQ (rfl)
   .have d1:ev (aL 36)=_:=hd.1 rfl;have z:=aK (aA K1 hS) 14 _ rfl;exact tV
   .have d2:ev (aL 37)=_:=hd.1 rfl;have d3:ev (aL 38)=_:=hd.2.1 rfl;have AY:¬(ms.length<=k):=oM;exact tV
   .have d5:ev (aL 40)=_:=hd.1 rfl;obtain⟨z1,z2,z3⟩:=(PJ.below CM hS).2 k oM;rw[hm] at z1 z2 z3;exact tV
   have d0:ev (aL 35)=_:=hd.1 rfl;have d6:ev (aL 41)=_:=hd.2.1 rfl;refine yc (sk b (ae p1 ml.length c1) (ae p2 ss.length c2) (ae (some ⟨g,off,none⟩) ms.length c3) m.minute w1) ?_ (fun _=>rfl);go_simp
  intro a W hR;have ho:=hR.s;replace HB:=HB.tr ho;replace K1:=aA K1 ho;replace CM:=CM.below ho;replace hF:=(hR.fr hF).cons (t:=43) (hR.val 8);clear hR ho;refine bW (t:=(!(aV m.minute 1 b.minutes))) (hF.g 0 rfl) (fun YF=>?_) (fun YF=>?_)
  .replace hF:=hF.tl;have h6:ot b ms k=6:=by unfold ot;rw[hm,if_pos YF]
   have hres:k9 b ml ss ms=6:=hh.trans ((IB k h3 yJ oY (by rw[h6];decide)).trans h6);refine fP [(2,ag af 6)] hF ?_;intro a W ho hF;replace HB:=HB.tr ho;replace K1:=aA K1 ho;replace CM:=CM.below ho;refine fA ?_;exact bj (bZ rfl _ _ _) hF.defers ⟨congrArg bA (((hF.g 0 rfl):a.eval (aL 2)=ag af 6).trans (congrArg _ hres.symm)),HB⟩
  replace hF:=hF.tl;refine ej ?_
  refine nY [pV (pv B1 14),pV (ae (some ⟨g,off,none⟩) ms.length c3),pV (ag af (k:Nat)),pV (eX (some ⟨g,off+k*3,none⟩)),pV (eX (some ⟨g,off+k*3+1,none⟩)),pV (aR #[ag af m.lo,ag af m.hi]),pV (aI (cG m.lo m.hi 0 99)),pV (aI (!(cG m.lo m.hi 0 99)))]
   _ kQ hF.size hF.base ?_ ?_ ?_
  .exact⟨sV,sV,sV,sV,sV,sV,sV,sV,trivial⟩
  .refine⟨?_,?_,?_,?_,?_,?_,?_,?_,trivial⟩<;>rintro ev w1 hS hc hg hf ⟨b6,b1,-,-⟩ hd
   all_goals try
    try have d0:ev (aL _)=_:=hd.1 rfl
    refine yw rfl ?_ rfl;go_simp;done
   .have d0:ev (aL 44)=_:=hd.1 rfl;have z:=aK (aA K1 hS) 14 _ rfl;exact tV
   .have d1:ev (aL 45)=_:=hd.1 rfl;have d2:ev (aL 46)=_:=hd.2.1 rfl;have AY:¬(ms.length<=k):=oM;exact tV
   .have d4:ev (aL 48)=_:=hd.1 rfl;obtain⟨z1,z2,z3⟩:=(PJ.below CM hS).2 k oM;rw[hm] at z1 z2 z3;exact tV
   have d5:ev (aL 49)=_:=hd.1 rfl;refine yc (rQ m.lo m.hi 0 99 w1) ?_ (fun _=>rfl);go_simp
  intro a W hR;have ho:=hR.s;replace HB:=HB.tr ho;replace K1:=aA K1 ho;replace CM:=CM.below ho;replace hF:=(hR.fr hF).cons (t:=51) (hR.val 7);clear hR ho;refine bW (t:=(!(cG m.lo m.hi 0 99))) (hF.g 0 rfl) (fun abJ=>?_) (fun abJ=>?_)
  .replace hF:=hF.tl;have h1:ot b ms k=1:=by unfold ot;rw[hm,if_neg (by rw[YF];simp),if_pos abJ]
   have hres:k9 b ml ss ms=1:=hh.trans ((IB k h3 yJ oY (by rw[h1];decide)).trans h1);refine fP [(2,ag af 1)] hF ?_;intro a W ho hF;replace HB:=HB.tr ho;replace K1:=aA K1 ho;replace CM:=CM.below ho;refine fA ?_;exact bj (bZ rfl _ _ _) hF.defers ⟨congrArg bA (((hF.g 0 rfl):a.eval (aL 2)=ag af 1).trans (congrArg _ hres.symm)),HB⟩
  replace hF:=hF.tl;have hz:ot b ms k=0:=by unfold ot;rw[hm,if_neg (by rw[YF];simp),if_neg (by rw[abJ];simp)]
  refine ej ?_;have ov:=hF;replace hF:=hF.tl;refine KS ⟨[],[(1,ag af ((k:Nat)+1))],[],[]⟩ [(6,ag af ((k:Nat)+1))] ov hF trivial ⟨fun w1 hS _=>ge (congrArg (aD af) (show IntKind.i64.wrap ((k:Nat)+1)=((k:Nat)+1) by rw[bg];omega)),trivial⟩ ?_;intro a W ho hF;clear ov;replace HB:=HB.tr ho;replace K1:=aA K1 ho;replace CM:=CM.below ho;refine⟨⟨k+1,oM,fun i hi=>if hik:i<k then oY i hik else by have e:i=k:=(by omega);rw[e];exact hz,⟨hF.size,hF.defers,hF.base⟩,HB,K1⟩,?_⟩;rw[show a.eval (aL 6)=ag af ((k:Nat)+1) from(hF.g 0 rfl)];simp only[hk6];simp[intOf];omega
 replace hF:=hF.tl;refine wp_exit ?_;have Ve:k=ms.length:=by simp at Dt;omega
 have hres:k9 b ml ss ms=0:=hh.trans (L8 h3 fun i hi=>oY i oM);show Gz aq _ _ a W;refine fP [(2,ag af 0)] hF ?_;intro a W ho hF;replace HB:=HB.tr ho;replace K1:=aA K1 ho;refine fA ?_;exact bj (bZ rfl _ _ _) hF.defers ⟨congrArg bA (((hF.g 0 rfl):a.eval (aL 2)=ag af 0).trans (congrArg _ hres.symm)),HB⟩
def Hf(b:BB)(ml:List Mn)(ss:List Int)(ms:List Mk):Bool:=(!(jK ml ss ms))&&(k9 b ml ss ms==0)
def SE{ml:List Mn}{ss:List Int}{ms:List Mk}(h:jK ml ss ms=false):ml.length<=20/\ss.length<=20:=by
 unfold jK Fw at h;simp at h;omega
def YT(b:BB)(p1 p2 p3:Option Addr)(c1 c2 c3:Nat)(ml:List Mn)(ss:List Int)(ms:List Mk)(w:ak)(hv:Reads w (ae p1 ml.length c1) ml.length (fQ ml))(hu:Reads w (ae p2 ss.length c2) ss.length (ss.map (aD af)))(hk3:Reads w (ae p3 ms.length c3) ms.length (dV ms)):bm aq 29 #[aR (b.sl p1 ml.length c1 p2 ss.length c2 p3 ms.length c3)] w (Rt w (aI (Hf b ml ss ms))):=by
 refine kZ Tryz.func29 rfl rfl [(0,aR (b.sl p1 ml.length c1 p2 ss.length c2 p3 ms.length c3))] ⟨jg rfl,trivial⟩ fun a hF=>?_;refine(fun h:∀W,Bw w W->Gz aq _ _ a W=>h w (aB _ _)) ?_;intro W HB
 refine nY [fun v ds w9=>∃B,v=pv B 0/\w9.heap[B]?=some (au (b.sl p1 ml.length c1 p2 ss.length c2 p3 ms.length c3) 28 (0,0)),pV (aI false)]
  _ kQ hF.size hF.base ?_ ?_ ?_
 .refine⟨?_,sV,trivial⟩
  .rintro v ds w1 w2 hS ⟨B,h1,h2⟩ hb;exact⟨B,h1,aA h2 hb⟩
 .refine⟨?_,?_,trivial⟩<;>rintro ev w1 hS hc hg hf ⟨b0,-⟩ hd
  .refine Gw (v:=pv w1.heap.size 0) (w':=w1.alloc (au (b.sl p1 ml.length c1 p2 ss.length c2 p3 ms.length c3) 28)) ?_ ⟨⟨_,rfl,az _ _⟩,cJ dx⟩;go_simp
  exact tV
 intro a W hR;have ho:=hR.s;obtain⟨B1,e1,K1⟩:=hR.val 0;replace e1:a.eval (aL 1)=pv B1 0:=e1;replace HB:=HB.tr ho;replace hF:=((hR.fr hF).cons (t:=1) e1).cons (t:=2) (hR.val 1);clear hR ho e1;replace hF:=hF.tl
 refine nY [pV (aR (b.sl p1 ml.length c1 p2 ss.length c2 p3 ms.length c3)),pV (aI (jK ml ss ms)),pV (aI (!(jK ml ss ms))),pV (aI (!(jK ml ss ms))),pC (!(jK ml ss ms)) (aR (b.sl p1 ml.length c1 p2 ss.length c2 p3 ms.length c3)),pC (!(jK ml ss ms)) (ag af (k9 b ml ss ms)),pC (!(jK ml ss ms)) (aI ((k9 b ml ss ms)==0)),pV (aI ((!(jK ml ss ms))&&((k9 b ml ss ms)==0))),pV (aI ((!(jK ml ss ms))&&((k9 b ml ss ms)==0)))]
  _ kQ hF.size hF.base ?_ ?_ ?_
 .exact⟨sV,sV,sV,sV,sC,sC,sC,sV,sV,trivial⟩
 .refine⟨?_,?_,?_,?_,?_,?_,?_,?_,?_,trivial⟩<;>rintro ev w1 hS hc hg hf ⟨b1,-,-⟩ hd
  all_goals try
   try have d0:ev (aL _)=_:=hd.1 rfl
   refine yw rfl ?_ rfl;go_simp;done
  .have lJ:=aA K1 hS;exact E5 28 rfl b1 lJ cM rfl kQ (rfl)
  .have d0:ev (aL 3)=_:=hd.1 rfl;refine yc (args:=#[aR (b.sl p1 ml.length c1 p2 ss.length c2 p3 ms.length c3)]) (SG b _ _ _ _ _ _ ml ss ms w1 (hv.below (HB.tr hS))) ?_ (fun _=>rfl);go_simp
  .have d3:ev (aL 6)=_:=hd.1 rfl;refine gC d3 zf fun hA=>?_;have lJ:=aA K1 hS;exact E5 28 rfl b1 lJ cM rfl kQ (fun _=>rfl)
  .have d4:_->ev (aL 7)=_:=hd.1 rfl;have d3:ev (aL 6)=_:=hd.2.1 rfl;refine gC d3 zf fun hA=>?_;have y4:=d4 hA;refine yc (args:=#[aR (b.sl p1 ml.length c1 p2 ss.length c2 p3 ms.length c3)]) (CD b _ _ _ _ _ _ ml ss ms (SE (ms:=ms) (by revert hA;cases jK ml ss ms<;>simp)) w1 (hv.below (HB.tr hS)) (hu.below (HB.tr hS)) (hk3.below (HB.tr hS))) ?_ (fun _=>fun _=>rfl);go_simp
  .have d5:_->ev (aL 8)=_:=hd.1 rfl;have d3:ev (aL 6)=_:=hd.2.1 rfl;refine gC d3 zf fun hA=>?_;have y5:=d5 hA;refine yv ?_ (fun _=>rfl);go_simp
  have d3:ev (aL 6)=_:=hd.1 rfl;have d6:_->ev (aL 9)=_:=hd.2.1 rfl;exact yA rfl hc d3 (fun hq=>d6 (by simp[hq])) (rfl)
 intro a W hR;have ho:=hR.s;replace HB:=HB.tr ho;replace K1:=aA K1 ho;replace hF:=(hR.fr hF).cons (t:=2) (hR.val 8);clear hR ho;refine fA ?_;exact bj (bZ rfl _ _ _) hF.defers ⟨congrArg bA (((hF.g 0 rfl):a.eval (aL 2)=aI ((!(jK ml ss ms))&&((k9 b ml ss ms)==0))).trans rfl),HB⟩
def MG{l:List Int}{i:Nat}(h:i<l.length):l.getD i 0=l[i]:=by simp[h]
def IV{f:Nat->Int}{n:Nat}{c:Int}(h:(((aS n).map f).find? fun h=>h !=0).getD c=0):(∀i,i<n->f i=0)/\c=0:=by
 cases e:((aS n).map f).find? (fun h=>h !=0) with
 |none=>
  rw[e] at h;rw[List.find?_eq_none] at e;refine⟨fun i hi=>?_,h⟩;have:=e _ (dn.2 ⟨i,bV.2 hi,rfl⟩);simpa using this
 |some x=>
  rw[e] at h;have:=List.find?_some e;simp at h this;exact absurd h this
def Td{b:BB}(h:px b=0):b.Ok:=by
 unfold px at h;have h1:Df b=false:=by cases e:Df b<;>simp_all
 have h2:F6 b=false:=by cases e:F6 b<;>simp_all
 have h3:I3 b=false:=by cases e:I3 b<;>simp_all
 unfold Df aV at h1;unfold F6 aV at h2;unfold I3 cG at h3;simp at h1 h2 h3;constructor<;>omega
def RG{b:BB}{ss:List Int}(h:lR b ss=0):fM b ss:=by
 unfold lR at h;obtain⟨h1,h2⟩:=IV h
 have hc:(ss.length:Int)<=b.eI:=by
  refine Int.not_lt.1 fun h'=>?_;rw[if_pos h'] at h2;cases h2
 have hk:∀i (hi:i<ss.length),(1<=ss[i]/\ss[i]<=b.minutes)/\¬(0<i/\ss[i]<=ss.getD (i-1) 0):=by
  intro i hi;have:=h1 i hi;unfold og at this;rw[MG hi] at this;cases e:aV ss[i] 1 b.minutes with
  |false=>rw[e] at this;simp at this
  |true=>
   refine⟨gU.1 e,fun h'=>?_⟩;rw[e,if_neg sM,if_pos h'] at this;cases this
 refine⟨fun p hp=>?_,fun k rA=>?_,hc⟩
 .obtain⟨i,hi,rfl⟩:=iG hp;exact(hk i hi).1
 have:=(hk (k+1) rA).2;rw[show k+1-1=k from rfl,MG oM] at this;omega
def OB{b:BB}{ms:List Mk}(h:uw b ms=0):lI b ms:=by
 unfold uw at h
 have h3:(ms.length:Int)<=3:=by
  refine Int.not_lt.1 fun h'=>?_;rw[if_pos h'] at h;cases h
 rw[if_neg oM] at h;obtain⟨h1,-⟩:=IV h;refine⟨fun m hm=>?_,oM⟩;obtain⟨i,hi,rfl⟩:=iG hm;have:=h1 i hi;unfold ot at this;rw[L6 ms i hi] at this;cases e:aV ms[i].minute 1 b.minutes with
 |false=>rw[e] at this;simp at this
 |true=>
  rw[e,if_neg sM] at this;cases e2:cG ms[i].lo ms[i].hi 0 99 with
  |false=>rw[e2] at this;simp at this
  |true=>
   have e:=gU.1 e;unfold cG at e2;simp at e2;omega
def VD{b:BB}{ml:List Mn}{ss:List Int}{ms:List Mk}(h:Hf b ml ss ms=true):b.Ok/\yf ml/\fM b ss/\lI b ms:=by
 unfold Hf at h;rw[aJ] at h;have h:=h.2;unfold k9 at h
 have h1:px b=0:=by
  refine fG fun hn=>?_;rw[if_pos (by simpa using hn)] at h;simp at h;exact hn h
 rw[h1,if_neg sM] at h
 have h2:qN ml=0:=by
  refine fG fun hn=>?_;rw[if_pos (by simpa using hn)] at h;simp at h;exact hn h
 rw[h2,if_neg sM] at h
 have h3:lR b ss=0:=by
  refine fG fun hn=>?_;rw[if_pos (by simpa using hn)] at h;simp at h;exact hn h
 rw[h3,if_neg sM] at h;exact⟨Td h1,UE h2,RG h3,OB (by simpa using h)⟩
end Go.Proofs.YtffladgmkiimjaaGreatDoor
