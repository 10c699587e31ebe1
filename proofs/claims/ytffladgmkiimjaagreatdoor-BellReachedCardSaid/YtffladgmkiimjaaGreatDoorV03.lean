/- LONE WALKS: the reference's checks: Between (35), Inside (147), isMinu .. -/
import Derived.Test.YtffladgmkiimjaaGreatDoorV02
set_option linter.all false
set_option maxHeartbeats 0
set_option maxRecDepth 1000000
open Go.Lag.Yields renaming value -> F5
open Array renaming getElem?_eq_some_iff -> ah
open Bool renaming and_eq_true -> aF
open Classical renaming byContradiction -> fh
open Go renaming bodyPost_ret -> a8,Calls -> a_,Value -> aj,World -> ak,undef -> ar,results_tmp -> bR,wp_cond_split -> cF,wp_skip -> dA,wp_seq -> dg,run_loadVar_row -> eF,wp_ret -> ej,wpList_store_row -> gH,wp_block -> kg
open Go.Code renaming wp -> F8
open Go.Ending renaming returned -> aU,returned -> bw
open Go.Instr renaming indexAt -> gg
open Go.IntKind renaming i64 -> af,wrap_i64 -> bO
open Go.Lib renaming hid -> ai
open Go.Obj renaming cells -> au
open Go.Operand renaming tmp -> aI
open Go.Proofs.Tryz renaming prog -> aq,underlying28 -> bL,underlying122 -> fS
open Go.RowKit renaming Hid -> mQ
open Go.RowKit.Below renaming heap_alloc -> aW,refl -> ay,heap_setCell -> bp
open Go.Value renaming bool -> aA,int -> aD,agg -> aN,slice -> ae,int -> ag,tuple -> bB,oneCell' -> bK,pointer -> dB,ownBlock -> ji
open Go.World renaming alloc_heap_new -> ax,size_alloc -> dQ
open List renaming range -> aQ,mem_range -> bQ,all_eq_true -> bf,mem_map -> dm,getElem_of_mem -> fZ,range_eq_range' -> m5
open List.range renaming loop -> cg
open Nat renaming le_trans -> aG,le_refl -> aJ,lt_of_lt_of_le -> bD,reduceEqDiff -> bq
open Option.some renaming inj -> a7
open Or renaming inl -> cz
namespace Go.Proofs.YtffladgmkiimjaaGreatDoor
open Go.RowKit Go.Lag
def gT(n l m:Int)(w:ak):a_ aq 35 #[ag af n,ag af l,ag af m] w (Rt w (aA (aV n l m))):=by
 refine kP Tryz.func35 rfl rfl [(2,ag af m),(1,ag af l),(0,ag af n)] ⟨iL rfl,iL rfl,iL rfl,trivial⟩ fun a hF=>?_;refine(fun h:∀W,Bw w W->F8 aq _ _ a W=>h w (ay _ _)) ?_;intro W HB;refine fD [(6,aA false)] hF ?_;intro a W ho hF;replace HB:=HB.tr ho;replace hF:=hF.tl;refine fD [(6,aA ((decide (l<=n))&&(decide (n<=m))))] hF ?_;intro a W ho hF;replace HB:=HB.tr ho;refine ej ?_;exact a8 (bR rfl _ _ _) hF.defers ⟨congrArg bw (((hF.g 0 rfl):a.eval (aI 6)=aA ((decide (l<=n))&&(decide (n<=m)))).trans (rfl)),HB⟩
def cC(lo hi l m:Int):Bool:=(decide (l<=lo)&&decide (lo<=hi))&&decide (hi<=m)
def rC(lo hi l m:Int)(w:ak):a_ aq 147 #[aN #[ag af lo,ag af hi],ag af l,ag af m] w (Rt w (aA (cC lo hi l m))):=by
 refine kP Tryz.func147 rfl rfl [(2,ag af m),(1,ag af l),(0,aN #[ag af lo,ag af hi])] ⟨iL rfl,iL rfl,iL rfl,trivial⟩ fun a hF=>?_;refine(fun h:∀W,Bw w W->F8 aq _ _ a W=>h w (ay _ _)) ?_;intro W HB
 refine nV [fun v ds w9=>∃B,v=pv B 0/\w9.heap[B]?=some (au #[ag af lo,ag af hi] 23 (0,0)),pV (aA false)]
  _ kQ hF.size hF.base ?_ ?_ ?_
 .refine⟨?_,sV,trivial⟩
  .rintro v ds w1 w2 hS ⟨B,h1,h2⟩ hb;exact⟨B,h1,aw h2 hb⟩
 .refine⟨?_,?_,trivial⟩<;>rintro ev w1 hS hc hg hf ⟨-,-,b0,-⟩ hd
  .refine F5 (v:=pv w1.heap.size 0) (w':=w1.alloc (au #[ag af lo,ag af hi] 23)) ?_ ⟨⟨_,rfl,ax _ _⟩,cz cY⟩;go_simp
  exact tV
 intro a W hR;have ho:=hR.s;obtain⟨B3,e3,K3⟩:=hR.val 0;replace e3:a.eval (aI 3)=pv B3 0:=e3;replace HB:=HB.tr ho;replace hF:=((hR.fr hF).cons (t:=3) e3).cons (t:=6) (hR.val 1);clear hR ho e3;replace hF:=hF.tl;refine rK ⟨[],[],[(B3,#[ag af lo,ag af hi])],[]⟩ [(6,aA (((decide (l<=lo))&&(decide (lo<=hi)))&&(decide (hi<=m))))] hF hF ⟨fun w1 hS=>⟨_,_,aw K3 hS⟩,trivial⟩ trivial ?_;intro a W ho hF;replace HB:=HB.tr ho;replace K3:=aw K3 ho;refine ej ?_;exact a8 (bR rfl _ _ _) hF.defers ⟨congrArg bw (((hF.g 0 rfl):a.eval (aI 6)=aA (((decide (l<=lo))&&(decide (lo<=hi)))&&(decide (hi<=m)))).trans (rfl)),HB⟩
def rU(b:BB)(bm aH az:aj)(n:Int)(w:ak):a_ aq 134 #[aN (b.cells bm aH az),ag af n] w (Rt w (aA (aV n 1 b.minutes))):=by
 refine kP Tryz.func134 rfl rfl [(1,ag af n),(0,aN (b.cells bm aH az))] ⟨iL rfl,iL rfl,trivial⟩ fun a hF=>?_;refine(fun h:∀W,Bw w W->F8 aq _ _ a W=>h w (ay _ _)) ?_;intro W HB
 refine nV [fun v ds w9=>∃B,v=pv B 0/\w9.heap[B]?=some (au (b.cells bm aH az) 28 (0,0)),pV (aA false)]
  _ kQ hF.size hF.base ?_ ?_ ?_
 .refine⟨?_,sV,trivial⟩
  .rintro v ds w1 w2 hS ⟨B,h1,h2⟩ hb;exact⟨B,h1,aw h2 hb⟩
 .refine⟨?_,?_,trivial⟩<;>rintro ev w1 hS hc hg hf ⟨-,b0,-⟩ hd
  .refine F5 (v:=pv w1.heap.size 0) (w':=w1.alloc (au (b.cells bm aH az) 28)) ?_ ⟨⟨_,rfl,ax _ _⟩,cz cY⟩;go_simp
  exact tV
 intro a W hR;have ho:=hR.s;obtain⟨B2,e2,K2⟩:=hR.val 0;replace e2:a.eval (aI 2)=pv B2 0:=e2;replace HB:=HB.tr ho;replace hF:=((hR.fr hF).cons (t:=2) e2).cons (t:=4) (hR.val 1);clear hR ho e2;replace hF:=hF.tl;refine rK ⟨[],[(3,aA (aV n 1 b.minutes))],[(B2,(b.cells bm aH az))],[]⟩ [(4,aA (aV n 1 b.minutes))] hF hF ⟨fun w1 hS=>⟨_,_,aw K2 hS⟩,trivial⟩ ⟨fun w1 hS _=>gc (gT n 1 b.minutes w1),trivial⟩ ?_;intro a W ho hF;replace HB:=HB.tr ho;replace K2:=aw K2 ho;refine ej ?_;exact a8 (bR rfl _ _ _) hF.defers ⟨congrArg bw (((hF.g 0 rfl):a.eval (aI 4)=aA (aV n 1 b.minutes)).trans (rfl)),HB⟩
def S_{lo hi:Int}(h:cC lo hi 0 99=true):IntKind.i64.wrap (hi-lo)=hi-lo:=by
 unfold cC at h;simp at h;rw[bO];omega
def CD(b:BB):Bool:=(((!(aV b.room 1 99))||(!(aV b.depth 0 99)))||(!(aV b.least 0 99)))||(!(aV b.minutes 1 8))
def FE(b:BB):Bool:=(((!(aV b.cM 0 99))||(!(aV b.jX 0 99)))||(!(aV b.jK 0 99)))||(!(aV b.eN 0 3))
def Ig(b:BB):Bool:=((!(cC b.pl b.pm 1 b.minutes))||(!(cC b.ll b.lm 0 99)))||decide (b.lm-b.ll≥3)
def oY(b:BB):Int:=if CD b then 1 else if FE b then 1 else if Ig b then 1 else 0
def Gx(b:BB)(bm aH az:aj)(w:ak):a_ aq 145 #[aN (b.cells bm aH az)] w (Rt w (ag af (oY b))):=by
 refine kP Tryz.func145 rfl rfl [(0,aN (b.cells bm aH az))] ⟨iL rfl,trivial⟩ fun a hF=>?_;refine(fun h:∀W,Bw w W->F8 aq _ _ a W=>h w (ay _ _)) ?_;intro W HB
 refine nV [fun v ds w9=>∃B,v=pv B 0/\w9.heap[B]?=some (au (b.cells bm aH az) 28 (0,0)),pV (ag af 0)]
  _ kQ hF.size hF.base ?_ ?_ ?_
 .refine⟨?_,sV,trivial⟩
  .rintro v ds w1 w2 hS ⟨B,h1,h2⟩ hb;exact⟨B,h1,aw h2 hb⟩
 .refine⟨?_,?_,trivial⟩<;>rintro ev w1 hS hc hg hf ⟨b0,-⟩ hd
  .refine F5 (v:=pv w1.heap.size 0) (w':=w1.alloc (au (b.cells bm aH az) 28)) ?_ ⟨⟨_,rfl,ax _ _⟩,cz cY⟩;go_simp
  exact tV
 intro a W hR;have ho:=hR.s;obtain⟨B1,e1,K1⟩:=hR.val 0;replace e1:a.eval (aI 1)=pv B1 0:=e1;replace HB:=HB.tr ho;replace hF:=((hR.fr hF).cons (t:=1) e1).cons (t:=2) (hR.val 1);clear hR ho e1;refine dg ?_;refine rK ⟨[],[(2,aA (aV b.room 1 99)),(7,aA (aV b.depth 0 99)),(13,aA (aV b.least 0 99)),(19,aA (aV b.minutes 1 8))],[(B1,(b.cells bm aH az))],[]⟩ [(24,aA ((((!(aV b.room 1 99))||(!(aV b.depth 0 99)))||(!(aV b.least 0 99)))||(!(aV b.minutes 1 8))))] hF hF ⟨fun w1 hS=>⟨_,_,aw K1 hS⟩,trivial⟩ ⟨fun w1 hS _=>gc (gT b.room 1 99 w1),fun w1 hS _=>gc (gT b.depth 0 99 w1),fun w1 hS _=>gc (gT b.least 0 99 w1),fun w1 hS _=>gc (gT b.minutes 1 8 w1),trivial⟩ ?_;intro a W ho hF;replace HB:=HB.tr ho;replace K1:=aw K1 ho;refine cF (t:=((((!(aV b.room 1 99))||(!(aV b.depth 0 99)))||(!(aV b.least 0 99)))||(!(aV b.minutes 1 8)))) (hF.g 0 rfl) (fun JD=>?_) (fun JD=>?_)
 .replace hF:=hF.tl;replace hF:=hF.tl;refine fD [(2,ag af 1)] hF ?_;intro a W ho hF;replace HB:=HB.tr ho;replace K1:=aw K1 ho;refine ej ?_;exact a8 (bR rfl _ _ _) hF.defers ⟨congrArg bw (((hF.g 0 rfl):a.eval (aI 2)=ag af 1).trans (by unfold oY;rw[if_pos (show CD b=true from JD)])),HB⟩
 replace hF:=hF.tl;refine dA ?_;refine dg ?_;refine rK ⟨[],[(2,aA (aV b.cM 0 99)),(7,aA (aV b.jX 0 99)),(13,aA (aV b.jK 0 99)),(19,aA (aV b.eN 0 3))],[(B1,(b.cells bm aH az))],[]⟩ [(46,aA ((((!(aV b.cM 0 99))||(!(aV b.jX 0 99)))||(!(aV b.jK 0 99)))||(!(aV b.eN 0 3))))] hF hF ⟨fun w1 hS=>⟨_,_,aw K1 hS⟩,trivial⟩ ⟨fun w1 hS _=>gc (gT b.cM 0 99 w1),fun w1 hS _=>gc (gT b.jX 0 99 w1),fun w1 hS _=>gc (gT b.jK 0 99 w1),fun w1 hS _=>gc (gT b.eN 0 3 w1),trivial⟩ ?_;intro a W ho hF;replace HB:=HB.tr ho;replace K1:=aw K1 ho;refine cF (t:=((((!(aV b.cM 0 99))||(!(aV b.jX 0 99)))||(!(aV b.jK 0 99)))||(!(aV b.eN 0 3)))) (hF.g 0 rfl) (fun XD=>?_) (fun XD=>?_)
 .replace hF:=hF.tl;replace hF:=hF.tl;refine fD [(2,ag af 1)] hF ?_;intro a W ho hF;replace HB:=HB.tr ho;replace K1:=aw K1 ho;refine ej ?_;exact a8 (bR rfl _ _ _) hF.defers ⟨congrArg bw (((hF.g 0 rfl):a.eval (aI 2)=ag af 1).trans (by unfold oY;rw[if_neg (by rw[show CD b=_ from JD];simp),if_pos (show FE b=true from XD)])),HB⟩
 replace hF:=hF.tl;refine dA ?_;refine dg ?_
 refine nV [pV (pv B1 10),pV (aN #[ag af b.pl,ag af b.pm]),pV (pv B1 3),pV (ag af b.minutes),pV (aA (cC b.pl b.pm 1 b.minutes)),pV (aA (!(cC b.pl b.pm 1 b.minutes))),pV (aA (!(cC b.pl b.pm 1 b.minutes))),pC (!(!(cC b.pl b.pm 1 b.minutes))) (pv B1 8),pC (!(!(cC b.pl b.pm 1 b.minutes))) (aN #[ag af b.ll,ag af b.lm]),pC (!(!(cC b.pl b.pm 1 b.minutes))) (aA (cC b.ll b.lm 0 99)),pC (!(!(cC b.pl b.pm 1 b.minutes))) (aA (!(cC b.ll b.lm 0 99))),pV (aA ((!(cC b.pl b.pm 1 b.minutes))||(!(cC b.ll b.lm 0 99)))),pV (aA ((!(cC b.pl b.pm 1 b.minutes))||(!(cC b.ll b.lm 0 99)))),pC (!((!(cC b.pl b.pm 1 b.minutes))||(!(cC b.ll b.lm 0 99)))) (pv B1 8),pC (!((!(cC b.pl b.pm 1 b.minutes))||(!(cC b.ll b.lm 0 99)))) (pv B1 9),pC (!((!(cC b.pl b.pm 1 b.minutes))||(!(cC b.ll b.lm 0 99)))) (ag af b.lm),pC (!((!(cC b.pl b.pm 1 b.minutes))||(!(cC b.ll b.lm 0 99)))) (pv B1 8),pC (!((!(cC b.pl b.pm 1 b.minutes))||(!(cC b.ll b.lm 0 99)))) (pv B1 8),pC (!((!(cC b.pl b.pm 1 b.minutes))||(!(cC b.ll b.lm 0 99)))) (ag af b.ll),pC (!((!(cC b.pl b.pm 1 b.minutes))||(!(cC b.ll b.lm 0 99)))) (ag af (b.lm-b.ll)),pC (!((!(cC b.pl b.pm 1 b.minutes))||(!(cC b.ll b.lm 0 99)))) (aA (decide ((b.lm-b.ll)≥3))),pV (aA (((!(cC b.pl b.pm 1 b.minutes))||(!(cC b.ll b.lm 0 99)))||(decide ((b.lm-b.ll)≥3))))]
  _ kQ hF.size hF.base ?_ ?_ ?_
 .exact⟨sV,sV,sV,sV,sV,sV,sV,sC,sC,sC,sC,sV,sV,sC,sC,sC,sC,sC,sC,sC,sC,sV,trivial⟩
 .refine⟨?_,?_,?_,?_,?_,?_,?_,?_,?_,?_,?_,?_,?_,?_,?_,?_,?_,?_,?_,?_,?_,?_,trivial⟩<;>rintro ev w1 hS hc hg hf ⟨-,b1,-,-⟩ hd
  all_goals try
   try have d0:ev (aI _)=_:=hd.1 rfl
   refine yw rfl ?_ rfl;go_simp;done
  all_goals try
   try have d0:ev (aI _)=_:=hd.1 rfl
   try have c0:_->ev (aI _)=_:=hd.1 rfl
   try have d1:ev (aI _)=_:=hd.2.1 rfl
   first|refine gC d0 mE fun hA=>?_|refine gC d1 mE fun hA=>?_
   try replace c0:=c0 hA
   refine yw rfl ?_ (fun _=>rfl);go_simp;done
  .have d0:ev (aI 47)=_:=hd.1 rfl;have z10:=aK (aw K1 hS) 10 _ rfl;have z11:=aK (aw K1 hS) 11 _ rfl;exact tV
  .have d2:ev (aI 49)=_:=hd.1 rfl;have z:=aK (aw K1 hS) 3 _ rfl;exact tV
  .have d1:ev (aI 48)=_:=hd.1 rfl;have d3:ev (aI 50)=_:=hd.2.1 rfl;refine yc (rC b.pl b.pm 1 b.minutes w1) ?_ (fun _=>rfl);go_simp
  .have d7:_->ev (aI 54)=_:=hd.1 rfl;have d6:ev (aI 53)=_:=hd.2.1 rfl;refine gC d6 mE fun hA=>?_;have y7:=d7 hA;have z8:=aK (aw K1 hS) 8 _ rfl;have z9:=aK (aw K1 hS) 9 _ rfl;refine yv ?_ (fun _=>rfl);go_simp
  .have d8:_->ev (aI 55)=_:=hd.1 rfl;have d6:ev (aI 53)=_:=hd.2.1 rfl;refine gC d6 mE fun hA=>?_;have y8:=d8 hA;refine yc (rC b.ll b.lm 0 99 w1) ?_ (fun _=>fun _=>rfl);go_simp
  .have d6:ev (aI 53)=_:=hd.1 rfl;have d10:_->ev (aI 57)=_:=hd.2.1 rfl;exact yO rfl hc d6 (fun hq=>d10 (by simp[hq])) (rfl)
  .have d14:_->ev (aI 61)=_:=hd.1 rfl;have d12:ev (aI 59)=_:=hd.2.1 rfl;refine gC d12 mE fun hA=>?_;have Ki:=d14 hA;have z:=aK (aw K1 hS) 9 _ rfl;refine yv ?_ (fun _=>rfl);go_simp
  .have d17:_->ev (aI 64)=_:=hd.1 rfl;have d12:ev (aI 59)=_:=hd.2.1 rfl;refine gC d12 mE fun hA=>?_;have y17:=d17 hA;have z:=aK (aw K1 hS) 8 _ rfl;refine yv ?_ (fun _=>rfl);go_simp
  .have d15:_->ev (aI 62)=_:=hd.1 rfl;have d18:_->ev (aI 65)=_:=hd.2.1 rfl;have d12:ev (aI 59)=_:=hd.2.2.1 rfl;refine gC d12 mE fun hA=>?_;have Iw:=d15 hA;have y18:=d18 hA;have hw:=S_ (lo:=b.ll) (hi:=b.lm) (by revert hA;cases cC b.ll b.lm 0 99<;>simp);refine yv ?_ (fun _=>rfl);go_simp
  have d12:ev (aI 59)=_:=hd.1 rfl;have d20:_->ev (aI 67)=_:=hd.2.1 rfl;exact yO rfl hc d12 (fun hq=>d20 (by simp[hq])) (rfl)
 intro a W hR;have ho:=hR.s;replace HB:=HB.tr ho;replace K1:=aw K1 ho;replace hF:=(hR.fr hF).cons (t:=68) (hR.val 21);clear hR ho;refine cF (t:=(((!(cC b.pl b.pm 1 b.minutes))||(!(cC b.ll b.lm 0 99)))||(decide ((b.lm-b.ll)≥3)))) (hF.g 0 rfl) (fun aaB=>?_) (fun aaB=>?_)
 .replace hF:=hF.tl;replace hF:=hF.tl;refine fD [(2,ag af 1)] hF ?_;intro a W ho hF;replace HB:=HB.tr ho;replace K1:=aw K1 ho;refine ej ?_;exact a8 (bR rfl _ _ _) hF.defers ⟨congrArg bw (((hF.g 0 rfl):a.eval (aI 2)=ag af 1).trans (by unfold oY;rw[if_neg (by rw[show CD b=_ from JD];simp),if_neg (by rw[show FE b=_ from XD];simp),if_pos (show Ig b=true from aaB)])),HB⟩
 replace hF:=hF.tl;refine dA ?_;replace hF:=hF.tl;refine fD [(2,ag af 0)] hF ?_;intro a W ho hF;replace HB:=HB.tr ho;replace K1:=aw K1 ho;refine ej ?_;exact a8 (bR rfl _ _ _) hF.defers ⟨congrArg bw (((hF.g 0 rfl):a.eval (aI 2)=ag af 0).trans (by unfold oY;rw[if_neg (by rw[show CD b=_ from JD];simp),if_neg (by rw[show FE b=_ from XD];simp),if_neg (by rw[show Ig b=_ from aaB];simp)])),HB⟩
def oa(b:BB)(pl:List Int)(i:Nat):Int:=if !(aV (pl.getD i 0) 1 b.minutes) then 6 else if 0<i/\pl.getD i 0<=pl.getD (i-1) 0 then 7 else 0
def lM(b:BB)(pl:List Int):Int:=(((aQ pl.length).map (oa b pl)).find? fun h=>h !=0).getD (if (pl.length:Int)>b.eN then 8 else 0)
def td(f:Nat->Int):∀(n:Nat),(∀i,i<n->f i=0)->((aQ n).map f).find? (fun h=>h !=0)=none:=by
 intro n h;rw[List.find?_eq_none];intro x hx;obtain⟨i,hi,rfl⟩:=dm.1 hx;simp[h i (bQ.1 hi)]
def zK(f:Nat->Int)(n k:Nat)(hk:k<n)(h:∀i,i<k->f i=0)(h0:f k≠0):((aQ n).map f).find? (fun h=>h !=0)=some (f k):=by
 have e:aQ n=aQ k++k::List.range' (k+1) (n-k-1):=by
  rw[m5,m5,show n=k+(1+(n-k-1)) by omega,<-List.range'_append_1,Nat.zero_add,Nat.add_comm 1,List.range'_succ]
  congr 3
  omega
 have h1:(f k !=0)=true:=by simpa using h0
 rw[e,List.map_append,List.find?_append,td f k h,List.map_cons,List.find?_cons,h1];rfl
def Reads.atK{w:ak}{p:Option Addr}{n c:Nat}{zs:List Int}(h:Reads w (ae p n c) n (zs.map (aD af)))(k:Nat)(hk:k<zs.length):∃g off,p=some ⟨g,off,none⟩/\g<w.heap.size/\∀j (hj:j<zs.length),w.cell? ⟨g,off+j,none⟩=some (ag af (zs.getD j 0)):=by
 rcases h with⟨_,_,h⟩|⟨g,off,cap,h,_,hg,hc⟩
 .rw[List.map_eq_nil_iff.1 h] at hk;simp at hk
 cases h;refine⟨g,off,rfl,hg,fun j hj=>hc j _ ?_⟩;simp[hj]
def Gw(b:BB)(bm aH az:aj)(p1:Option Addr)(c1:Nat)(pl:List Int)(hlen:pl.length<=1000)(w:ak)(hv:Reads w (ae p1 pl.length c1) pl.length (pl.map (aD af))):a_ aq 107 #[aN (b.cells bm aH az),ae p1 pl.length c1] w (Rt w (ag af (lM b pl))):=by
 refine kP Tryz.func107 rfl rfl [(1,ae p1 pl.length c1),(0,aN (b.cells bm aH az))] ⟨iL rfl,iL rfl,trivial⟩ fun a hF=>?_;refine(fun h:∀W,Bw w W->F8 aq _ _ a W=>h w (ay _ _)) ?_;intro W HB;have HC:mQ (∀k,k<pl.length->∃g off,p1=some ⟨g,off,none⟩/\g<w.heap.size/\∀j (hj:j<pl.length),w.cell? ⟨g,off+j,none⟩=some (ag af (pl.getD j 0))):=ai fun k hk=>hv.atK k hk;clear hv
 refine nV [fun v ds w9=>∃B,v=pv B 0/\w9.heap[B]?=some (au (b.cells bm aH az) 28 (0,0)),pV (ag af 0)]
  _ kQ hF.size hF.base ?_ ?_ ?_
 .refine⟨?_,sV,trivial⟩
  .rintro v ds w1 w2 hS ⟨B,h1,h2⟩ hb;exact⟨B,h1,aw h2 hb⟩
 .refine⟨?_,?_,trivial⟩<;>rintro ev w1 hS hc hg hf ⟨-,b0,-⟩ hd
  .refine F5 (v:=pv w1.heap.size 0) (w':=w1.alloc (au (b.cells bm aH az) 28)) ?_ ⟨⟨_,rfl,ax _ _⟩,cz cY⟩;go_simp
  exact tV
 intro a W hR;have ho:=hR.s;obtain⟨B2,e2,K2⟩:=hR.val 0;replace e2:a.eval (aI 2)=pv B2 0:=e2;replace HB:=HB.tr ho;replace hF:=((hR.fr hF).cons (t:=2) e2).cons (t:=4) (hR.val 1);clear hR ho e2;refine dg ?_;refine fD [(5,ag af 0)] hF ?_;intro a W ho hF;replace HB:=HB.tr ho;replace K2:=aw K2 ho;refine kg ?_;refine wp_loop (fun a W=>∃k:Nat,k<=pl.length/\(∀i,i<k->oa b pl i=0)/\ik 38 a [(5,ag af (k:Nat)),(2,pv B2 0),(1,ae p1 pl.length c1),(0,aN (b.cells bm aH az))]/\W.heap[B2]?=some (au (b.cells bm aH az) 28 (0,0))/\Bw w W) (fun a _=>pl.length-(intOf (a.eval (aI 5))).toNat) ⟨0,Nat.zero_le _,fun i hi=>by omega,⟨hF.size,hF.defers,(by obtain⟨b5,-,b2,b1,b0,-⟩:=hF.base;exact⟨b5,b2,b1,b0,trivial⟩)⟩,K2,HB⟩ ?_;clear hF K2 HB
 try clear a
 try clear W
 rintro a W ⟨k,hk,hpre,hF,K2,HB⟩;have hk5:a.eval (aI 5)=ag af (k:Nat):=(hF.g 0 rfl)
 refine dg ?_;refine fD [(9,aA (decide ((k:Int)<(pl.length:Int))))] hF ?_;intro a W ho hF;replace HB:=HB.tr ho;replace K2:=aw K2 ho;refine cF (t:=(decide ((k:Int)<(pl.length:Int)))) (hF.g 0 rfl) (fun Rs=>?_) (fun Rs=>?_)
 .replace hF:=hF.tl;have hlt:k<pl.length:=by simpa using Rs
  obtain⟨g,off,rfl,hg,hcell⟩:=HC.out k hlt;have hW:w.heap.size<=W.heap.size:=HB.size;obtain⟨x,hx⟩:∃x,pl.getD k 0=x:=⟨_,rfl⟩
  have CX:∀w9,Bw w w9->w9.cell? ⟨g,off+k,none⟩=some (ag af x):=fun w9 h9=>(h9.cell (p:=⟨g,off+k,none⟩) hg).trans (by rw[<-hx];exact hcell k hlt);rcases k with _|j
  .have Cx:mQ (∀w9,Bw W w9->w9.cell? ⟨g,off,none⟩=some (ag af x)):=ai fun w9 h9=>CX w9 (HB.trans (h9.mono hW));refine dA ?_;refine dg ?_;refine kg ?_;refine dg ?_;refine Ah kQ ⟨[],[(3,pv g off),(4,ag af x),(5,aA (aV x 1 b.minutes))],[(B2,(b.cells bm aH az))],[]⟩ [(18,aA (!(aV x 1 b.minutes)))] hF ⟨fun w1 hS=>⟨_,_,aw K2 hS⟩,trivial⟩ ⟨fun w1 hS _=>gs (gg 25 (ae (some ⟨g,off,none⟩) pl.length c1) (ag af ((0:Nat):Int))) (by go_simp),fun w1 hS _=>gl (Cx.out w1 hS),fun w1 hS _=>gc (rU b bm aH az x w1),trivial⟩ ?_;intro a W ho hF;replace HB:=HB.tr ho;replace K2:=aw K2 ho;replace hW:=aG hW ho.size;replace Cx:=ai fun w9 (h9:Bw W w9)=>Cx.out w9 (ho.trans (h9.mono ho.size));refine cF (t:=(!(aV x 1 b.minutes))) (hF.g 0 rfl) (fun AZ=>?_) (fun AZ=>?_)
   .replace hF:=hF.tl
    have hres:lM b pl=6:=by
     have h6:oa b pl 0=6:=by unfold oa;rw[hx];simp at AZ;simp[AZ]
     unfold lM;rw[zK _ _ 0 hlt hpre (by rw[h6];decide),h6];rfl
    refine fD [(4,ag af 6)] hF ?_;intro a W ho hF;replace HB:=HB.tr ho;replace K2:=aw K2 ho;replace hW:=aG hW ho.size;replace Cx:=ai fun w9 (h9:Bw W w9)=>Cx.out w9 (ho.trans (h9.mono ho.size));refine ej ?_;exact a8 (bR rfl _ _ _) hF.defers ⟨congrArg bw (((hF.g 0 rfl):a.eval (aI 4)=ag af 6).trans (congrArg _ hres.symm)),HB⟩
   replace hF:=hF.tl;refine dA ?_;refine Ah kQ ⟨[(2,false)],[(1,aA false)],[],[]⟩ [(32,aA false)] hF trivial ⟨fun w1 hS _=>ge (congrArg Value.bool (show(decide ((((0:Nat):Int):Int)>(0:Int)))=false from decide_eq_false oM)),trivial⟩ ?_;intro a W ho hF;replace HB:=HB.tr ho;replace K2:=aw K2 ho;replace hW:=aG hW ho.size;replace Cx:=ai fun w9 (h9:Bw W w9)=>Cx.out w9 (ho.trans (h9.mono ho.size));refine wp_cond (t:=false) (hF.g 0 rfl) ?_;replace hF:=hF.tl;have hz:oa b pl 0=0:=by unfold oa;rw[hx];simp at AZ;simp[AZ]
   refine dA ?_;have qF:=hF;replace hF:=hF.tl;refine M6 ⟨[],[(1,ag af (((0:Nat):Int)+1))],[],[]⟩ [(5,ag af (((0:Nat):Int)+1))] qF hF trivial ⟨fun w1 hS _=>ge (congrArg (aD af) (show IntKind.i64.wrap (((0:Nat):Int)+1)=(((0:Nat):Int)+1) by rw[bO];omega)),trivial⟩ ?_;intro a W ho hF;clear qF;replace HB:=HB.tr ho;replace K2:=aw K2 ho;replace hW:=aG hW ho.size;replace Cx:=ai fun w9 (h9:Bw W w9)=>Cx.out w9 (ho.trans (h9.mono ho.size));refine⟨⟨0+1,oM,?_,⟨hF.size,hF.defers,hF.base⟩,K2,HB⟩,?_⟩
   .intro i hi
    by_cases hik:i<0
    .exact hpre i hik
    obtain rfl:i=0:=oM;exact hz
   rw[show a.eval (aI 5)=ag af (((0:Nat):Int)+1) from(hF.g 0 rfl)];simp only[hk5];simp[intOf];omega
  have Cx:mQ (∀w9,Bw W w9->w9.cell? ⟨g,off+(j+1),none⟩=some (ag af x)):=ai fun w9 h9=>CX w9 (HB.trans (h9.mono hW));obtain⟨y,hy⟩:∃y,pl.getD j 0=y:=⟨_,rfl⟩
  have Cy:mQ (∀w9,Bw W w9->w9.cell? ⟨g,off+j,none⟩=some (ag af y)):=ai fun w9 h9=>((HB.trans (h9.mono hW)).cell (p:=⟨g,off+j,none⟩) hg).trans (by rw[<-hy];exact hcell j oM);refine dA ?_;refine dg ?_;refine kg ?_;refine dg ?_;refine Ah kQ ⟨[],[(3,dB (some ⟨g,off+(j+1),none⟩)),(4,ag af x),(5,aA (aV x 1 b.minutes))],[(B2,(b.cells bm aH az))],[]⟩ [(18,aA (!(aV x 1 b.minutes)))] hF ⟨fun w1 hS=>⟨_,_,aw K2 hS⟩,trivial⟩ ⟨fun w1 hS _=>gs (gg 25 (ae (some ⟨g,off,none⟩) pl.length c1) (ag af ((j+1:Nat):Int))) (by have Ck:¬((pl.length:Int)<=(j:Int)+1):=(by omega);have hi2:0<=(j:Int)+1:=(by omega);go_simp),fun w1 hS _=>gl (Cx.out w1 hS),fun w1 hS _=>gc (rU b bm aH az x w1),trivial⟩ ?_;intro a W ho hF;replace HB:=HB.tr ho;replace K2:=aw K2 ho;replace hW:=aG hW ho.size;replace Cx:=ai fun w9 (h9:Bw W w9)=>Cx.out w9 (ho.trans (h9.mono ho.size));replace Cy:=ai fun w9 (h9:Bw W w9)=>Cy.out w9 (ho.trans (h9.mono ho.size));refine cF (t:=(!(aV x 1 b.minutes))) (hF.g 0 rfl) (fun AZ=>?_) (fun AZ=>?_)
  .replace hF:=hF.tl
   have hres:lM b pl=6:=by
    have h6:oa b pl (j+1)=6:=by unfold oa;rw[hx];simp at AZ;simp[AZ]
    unfold lM;rw[zK _ _ (j+1) hlt hpre (by rw[h6];decide),h6];rfl
   refine fD [(4,ag af 6)] hF ?_;intro a W ho hF;replace HB:=HB.tr ho;replace K2:=aw K2 ho;replace hW:=aG hW ho.size;replace Cx:=ai fun w9 (h9:Bw W w9)=>Cx.out w9 (ho.trans (h9.mono ho.size));replace Cy:=ai fun w9 (h9:Bw W w9)=>Cy.out w9 (ho.trans (h9.mono ho.size));refine ej ?_;exact a8 (bR rfl _ _ _) hF.defers ⟨congrArg bw (((hF.g 0 rfl):a.eval (aI 4)=ag af 6).trans (congrArg _ hres.symm)),HB⟩
  replace hF:=hF.tl;refine dA ?_;refine Ah kQ ⟨[(2,true)],[(1,aA true),(5,dB (some ⟨g,off+(j+1),none⟩)),(6,ag af x),(9,ag af (j:Int)),(10,pv g (off+j)),(11,ag af y)],[],[]⟩ [(32,aA (decide (x<=y)))] hF trivial ⟨fun w1 hS _=>ge (congrArg Value.bool (show(decide ((((j+1:Nat):Int):Int)>(0:Int)))=true from decide_eq_true oM)),fun w1 hS _=>gs (gg 25 (ae (some ⟨g,off,none⟩) pl.length c1) (ag af ((j+1:Nat):Int))) (by have Ck:¬((pl.length:Int)<=(j:Int)+1):=(by omega);have hi2:0<=(j:Int)+1:=(by omega);go_simp),fun w1 hS _=>gl (Cx.out w1 hS),fun w1 hS _=>ge (congrArg (aD af) (show IntKind.i64.wrap (((j+1:Nat):Int)-1)=(j:Int) by rw[bO];omega)),fun w1 hS _=>gs (gg 25 (ae (some ⟨g,off,none⟩) pl.length c1) (ag af (j:Int))) (by have Ck:¬(pl.length<=j):=(by omega);go_simp),fun w1 hS _=>gl (Cy.out w1 hS),trivial⟩ ?_;intro a W ho hF;replace HB:=HB.tr ho;replace K2:=aw K2 ho;replace hW:=aG hW ho.size;replace Cx:=ai fun w9 (h9:Bw W w9)=>Cx.out w9 (ho.trans (h9.mono ho.size));replace Cy:=ai fun w9 (h9:Bw W w9)=>Cy.out w9 (ho.trans (h9.mono ho.size));refine cF (t:=(decide (x<=y))) (hF.g 0 rfl) (fun LH=>?_) (fun LH=>?_)
  .replace hF:=hF.tl
   have hres:lM b pl=7:=by
    have h7:oa b pl (j+1)=7:=by unfold oa;rw[hx,show((j+1)-1)=j from rfl,hy];simp at AZ LH;simp[AZ,LH]
    unfold lM;rw[zK _ _ (j+1) hlt hpre (by rw[h7];decide),h7];rfl
   refine fD [(4,ag af 7)] hF ?_;intro a W ho hF;replace HB:=HB.tr ho;replace K2:=aw K2 ho;replace hW:=aG hW ho.size;replace Cx:=ai fun w9 (h9:Bw W w9)=>Cx.out w9 (ho.trans (h9.mono ho.size));replace Cy:=ai fun w9 (h9:Bw W w9)=>Cy.out w9 (ho.trans (h9.mono ho.size));refine ej ?_;exact a8 (bR rfl _ _ _) hF.defers ⟨congrArg bw (((hF.g 0 rfl):a.eval (aI 4)=ag af 7).trans (congrArg _ hres.symm)),HB⟩
  replace hF:=hF.tl;have hz:oa b pl (j+1)=0:=by unfold oa;rw[hx,show((j+1)-1)=j from rfl,hy];simp at AZ LH;simp[AZ];omega
  refine dA ?_;have qF:=hF;replace hF:=hF.tl;refine M6 ⟨[],[(1,ag af (((j+1:Nat):Int)+1))],[],[]⟩ [(5,ag af (((j+1:Nat):Int)+1))] qF hF trivial ⟨fun w1 hS _=>ge (congrArg (aD af) (show IntKind.i64.wrap (((j+1:Nat):Int)+1)=(((j+1:Nat):Int)+1) by rw[bO];omega)),trivial⟩ ?_;intro a W ho hF;clear qF;replace HB:=HB.tr ho;replace K2:=aw K2 ho;replace hW:=aG hW ho.size;replace Cx:=ai fun w9 (h9:Bw W w9)=>Cx.out w9 (ho.trans (h9.mono ho.size));replace Cy:=ai fun w9 (h9:Bw W w9)=>Cy.out w9 (ho.trans (h9.mono ho.size));refine⟨⟨(j+1)+1,oM,?_,⟨hF.size,hF.defers,hF.base⟩,K2,HB⟩,?_⟩
  .intro i hi
   by_cases hik:i<(j+1)
   .exact hpre i hik
   obtain rfl:i=(j+1):=oM;exact hz
  rw[show a.eval (aI 5)=ag af (((j+1:Nat):Int)+1) from(hF.g 0 rfl)];simp only[hk5];simp[intOf];omega
 replace hF:=hF.tl;refine wp_exit ?_;have wD:k=pl.length:=by simp at Rs;omega
 rw[wD] at hpre;show F8 aq _ _ a W;refine dg ?_;refine rK ⟨[],[],[(B2,(b.cells bm aH az))],[]⟩ [(37,aA (decide ((pl.length:Int)>b.eN)))] hF hF ⟨fun w1 hS=>⟨_,_,aw K2 hS⟩,trivial⟩ trivial ?_;intro a W ho hF;replace HB:=HB.tr ho;replace K2:=aw K2 ho;refine cF (t:=(decide ((pl.length:Int)>b.eN))) (hF.g 0 rfl) (fun XF=>?_) (fun XF=>?_)
 .replace hF:=hF.tl;have hres:lM b pl=8:=by unfold lM;rw[td _ _ hpre];simp at XF;simp[XF]
  refine fD [(4,ag af 8)] hF ?_;intro a W ho hF;replace HB:=HB.tr ho;replace K2:=aw K2 ho;refine ej ?_;exact a8 (bR rfl _ _ _) hF.defers ⟨congrArg bw (((hF.g 0 rfl):a.eval (aI 4)=ag af 8).trans (congrArg _ hres.symm)),HB⟩
 replace hF:=hF.tl;have hres:lM b pl=0:=by unfold lM;rw[td _ _ hpre];simp at XF;simp;omega
 refine dA ?_;refine fD [(4,ag af 0)] hF ?_;intro a W ho hF;replace HB:=HB.tr ho;replace K2:=aw K2 ho;refine ej ?_;exact a8 (bR rfl _ _ _) hF.defers ⟨congrArg bw (((hF.g 0 rfl):a.eval (aI 4)=ag af 0).trans (congrArg _ hres.symm)),HB⟩
def XZ(n:Int)(pl:List Int)(i:Nat):Int:=if !(aV (pl.getD i 0) 0 (n-1)) then 6 else if 0<i/\pl.getD i 0<=pl.getD (i-1) 0 then 7 else 0
def abn(n:Int)(pl:List Int):Int:=(((aQ pl.length).map (XZ n pl)).find? fun h=>h !=0).getD 0
def Vl{lk:Int}(h0:0<=lk/\lk<=99):∀ {br:List Int},br.length<=3->(∀x∈br,0<=x/\x<=99)->(pG lk br).Ok
 |[],_,_=>⟨⟨h0.1,by show lk<=400;omega⟩,by simp[pG],by simp[pG],by simp[pG]⟩
 |[a],_,h=>⟨⟨h0.1,by show lk<=400;omega⟩,h a sM,by simp[pG],by simp[pG]⟩
 |[a,c],_,h=>⟨⟨h0.1,by show lk<=400;omega⟩,h a sM,h c sM,by simp[pG]⟩
 |[a,c,d],_,h=>⟨⟨h0.1,by show lk<=400;omega⟩,h a sM,h c sM,h d sM⟩
 |_::_::_::_::_,h,_=>by simp at h
def Yg(b:BB)(bm aH az:aj)(ml:List Mn)(ss:List Int)(ms:List Mk)(w:ak)(hL:Laid w)(hB:bW b bm aH az ml ss ms w)(lk:Int)(h0:0<=lk/\lk<=99)(br:List Int)(hbr:∀x∈br,0<=x/\x<=99)(hl:br.length=ml.length)
  (g off cap:Nat) (hg:g<w.heap.size) (LG:br.length<=cap) (hcc:∀j u,(br.map (aD af))[j]?=some u->w.cell? ⟨g,off+j,none⟩=some u) (pl:List Int) (hp:jD b pl) (lv:aj) (hlv:Reads w lv pl.length (pl.map (aD af))) :
  a_ aq 32 #[aN (b.cells bm aH az),aN #[ag af lk,ae (some ⟨g,off,none⟩) br.length cap],lv] w fun e w'=>∃v,e=aU (bB #[v,ag af 0])/\Reads w' v b.minutes.toNat ((b.nz (b.cM+(pG lk br).used) (bM pl) b.minutes.toNat).map (aD af))/\Bw w w':=by
 have cV:=hB.ok;have AX:=cV.minutes;have pw:∀s∈pl,1<=s/\s<=8:=fun s h=>by have:=hp.mem s h;omega
 have Rk:bM pl<512:=nA pl pw;have NU:=hB.eT.len;have hao:=Vl h0 oM hbr;obtain⟨pm,cm,rfl,_⟩:=aR hB.rm;obtain⟨pn,cn,rfl,_⟩:=aR hB.rs;obtain⟨pk,ck,rfl,_⟩:=aR hB.rk;obtain⟨qw,qH,rfl,_⟩:=aR hlv;have b0:Bw w ((w.alloc (au (b.sl pm ml.length cm pn ss.length cn pk ms.length ck) 28)).alloc (au #[ag af lk,ae (some ⟨g,off,none⟩) br.length cap] 42)):=cY.alloc sM _;have HT:mQ (Two w (b.sl pm ml.length cm pn ss.length cn pk ms.length ck) 28 #[ag af lk,ae (some ⟨g,off,none⟩) br.length cap] 42 ((w.alloc (au (b.sl pm ml.length cm pn ss.length cn pk ms.length ck) 28)).alloc (au #[ag af lk,ae (some ⟨g,off,none⟩) br.length cap] 42))):=ai ⟨(Two.mk' w _ _ _ _).one,(Two.mk' w _ _ _ _).two,b0,sM⟩;have ql:=ai (dI b _ _ _ ml ss ms _ (hL.below b0) (hB.below b0))
 have HHd:mQ (∀W,Bw w W->a_ aq 112 #[aN (b.sl pm ml.length cm pn ss.length cn pk ms.length ck),aN #[ag af lk,ae (some ⟨g,off,none⟩) br.length cap]] W fun e w'=>e=aU (bB #[aN (pG lk br).cells,ag af 0])/\Bw W w'):=ai fun W hb=>
  LL b _ _ _ ml NU lk h0 br hbr hl g off cap W (hB.below hb).rm (bD hg hb.size) LG fun j u hj=>(hb.cell (p:=⟨g,off+j,none⟩) hg).trans (hcc j u hj)
 have Zl:mQ (∀W,Bw w W->a_ aq 113 #[aN (b.sl pm ml.length cm pn ss.length cn pk ms.length ck),ae qw pl.length qH] W fun e w'=>e=aU (ag af 0)/\Bw W w'):=ai fun W hb=>tT b cV _ _ _ _ pl hp W (hlv.below hb);have HLv:=ai hlv;have Yl:=ai pw;clear hL hB hlv pw hcc b0 hbr hp;generalize hA:pG lk br=A at *;clear hA;generalize ml.length=lm at *;generalize ss.length=ln at *;generalize ms.length=lk2 at *;generalize br.length=lb at *;subst hl
 go_enter Tryz.func32,Tryz.ntmps32
 go_wp2_with (first
  |(go_at_call 71;refine ql.out.mono ?_;clear ql;rintro e w1 ⟨rfl,hb1⟩
    have sw:=HT.out.next hb1;have o7:=ai sw
    obtain⟨x0,x1,x2,x3,x4,x5,x6,x7,x8,x9,qo,qm,rj,qX,q7⟩:=bU sw.one;have zt:=(aW w1 (au (b.sl pm lb cm pn ln cn pk lk2 ck) 119) (w.heap.size+1) (by have:=sw.size;omega)).trans sw.two;have z0:=aK zt 0 _ rfl;have z1:=aK zt 1 _ rfl;clear zt
    clear sw hb1)
  |(go_at_call 112;refine(HHd.out _ (o7.out.below.alloc (by have:=o7.out.size;omega) _)).mono ?_;clear HHd;rintro e w2 ⟨rfl,hb2⟩
    have hk2:=(hb2.block w1.heap.size sM).trans (ax w1 _);have GQ:=ai hk2;have nN:mQ (Bw w w2):=ai ((o7.out.below.alloc (by have:=o7.out.size;omega) _).trans (hb2.mono (by have:=o7.out.size;simp;omega)));obtain⟨y0,y1,y2,y3,y4,y5,y6,y7,y8,y9,M7,O3,OZ,OY,Ki⟩:=bU ((aW w2 (au A.cells 134) _ (ah.1 hk2).1).trans hk2);have hs2:=hb2.size;simp only[dQ] at hs2
    clear hk2 hb2)
  |(go_at_call 113;refine(Zl.out _ (nN.out.alloc nN.out.size _)).mono ?_;clear Zl;rintro e w3 ⟨rfl,hb3⟩
    have HK3:mQ (w3.heap[w1.heap.size]?=some (au (b.sl pm lb cm pn ln cn pk lk2 ck) 119 (0,0))):=ai ((hb3.block _ sO).trans ((aW _ _ _ oM).trans GQ.out));have HA3:mQ (w3.heap[w2.heap.size]?=some (au A.cells 134 (0,0))):=ai ((hb3.block _ sM).trans (ax w2 _));have o8:mQ (Bw w w3):=ai ((nN.out.alloc nN.out.size _).trans (hb3.mono (by have:=nN.out.size;simp;omega)))
    clear hb3))
 have hl3:=(ah.1 HK3.out).1;have ha3:=(ah.1 HA3.out).1
 refine cj kQ [
 pV (aN (b.sl pm lb cm pn ln cn pk lk2 ck)),
  pV (aN A.cells),
  pV (ae qw pl.length qH),
  pV (ag af (bM pl)),
  fun v ds w9=>Reads w9 v b.minutes.toNat ((b.nz (b.cM+A.used) (bM pl) b.minutes.toNat).map (aD af)),
  fun v ds w9=>Reads w9 v b.minutes.toNat ((b.nz (b.cM+A.used) (bM pl) b.minutes.toNat).map (aD af)),
  pV (ag af 0)]
  (fun w9=>Bw w3 w9) [(2,ae qw pl.length qH),(9,pv w1.heap.size 0),(10,pv w2.heap.size 0)] kQ ?rst (fun w1 w2 h hb=>h.trans (hb.mono h.size)) ((ay _ _).drew) ⟨rfl,rfl,rfl,trivial⟩ ?reach ?rfin
 case rst=>
  refine⟨sV,sV,sV,sV,?_,?_,sV,trivial⟩
  .rintro v ds w1 w2 hS h hb;exact h.below hb
  rintro v ds w1 w2 hS h hb;exact h.below hb
 case reach=>
  refine⟨?_,?_,?_,?_,?_,?_,?_,trivial⟩<;>rintro ev w1 hS hc hg hf ⟨b2,b9,Sp,-⟩ hd
  .obtain⟨u0,u1,u2,u3,u4,u5,u6,u7,u8,u9,u10,u11,u12,u13,u14⟩:=bU ((hS.block _ hl3).trans HK3.out);exact tV
  .obtain⟨u0,u1,u2,u3⟩:=qi ((hS.block _ ha3).trans HA3.out);exact tV
  .exact tV
  .have d2:ev (aI 37)=_:=hd.1 rfl;refine yq (args:=#[ae qw pl.length qH]) (lL pl Yl.out _ _ (HLv.out.below (o8.out.trans (hS.mono o8.out.size)))) ?_ fun _=>rfl;go_simp
  .have d0:ev (aI 35)=_:=hd.1 rfl;have d1:ev (aI 36)=_:=hd.2.1 rfl;have d3:ev (aI 38)=_:=hd.2.2.1 rfl;refine Lag.Yields.call (f:=114) (args:=#[aN (b.sl pm lb cm pn ln cn pk lk2 ck),aN A.cells,ag af (bM pl)]) ?_ (Eg b cV _ _ _ A hao (bM pl) Rk _) ?_
   .go_simp
   rintro e w2 ⟨v,rfl,h1,h2⟩;exact⟨_,rfl,Reads.jL h1 oM (by simp[BB.nz]),cz h2⟩
  .exact yv rfl (hd.1 rfl)
  exact tV
 case rfin=>
  intro a2 w4 hR;have hS:=hR.s;have e5:Reads w4 (a2.tmps.getD 6 ar) b.minutes.toNat ((b.nz (b.cM+A.used) (bM pl) b.minutes.toNat).map (aD af)):=hR.val 5;have e6:a2.tmps.getD 7 ar=_:=hR.val 6;have ha:=hR.lits 40 rfl;simp only[aQ,cg,List.map] at ha;clear hR;have ad2:=ha;rw[e6] at ha;generalize a2.tmps.getD 6 ar=pv6 at *;generalize a2.tmps.getD=zz at ha;have HE:=ai e5;have HF:=ai hS;clear e5 e6 hS ad2;subst ha;go_wp2;go_ret2;exact⟨_,rfl,HE.out,o8.out.trans (HF.out.mono o8.out.size)⟩
def TD(b:BB)(bm aH az:aj)(ml:List Mn)(ss:List Int)(ms:List Mk)(w:ak)(hL:Laid w)(hB:bW b bm aH az ml ss ms w)(hne:aT b ml ss ms≠[])(cp cq:Nat)
  (hown:∀W,Bw w W->a_ aq 131 #[aN (b.cells bm aH az),pv cp 0,pv cq 0] W fun e W'=>e=aU (ag af 0)/\Bw W W') :
  a_ aq 103 #[aN (b.cells bm aH az),.func (.func 131) #[] #[pv cp 0,pv cq 0]] w fun e w'=>∃v,e=aU (bB #[aN (b.open bm aH az v),ag af 0])/\ie w' w.heap.size v (aT b ml ss ms)/\Bw w w':=by
 have ql:mQ (∀W,Bw w W->a_ aq 71 #[aN (b.cells bm aH az)] W fun e w'=>e=aU (ag af 0)/\Bw W w'):=ai fun W hb=>dI b bm aH az ml ss ms W (hL.below hb) (hB.below hb);have MO:mQ (∀W,Bw w W->a_ aq 116 #[.func (.func 117) #[aN (b.cells bm aH az)] #[]] W fun e w'=>∃v,e=aU v/\ie w' W.heap.size v (aT b ml ss ms)/\Bw W w'):=ai fun W hb=>lQ b bm aH az ml ss ms W (hB.below hb);have MK:=ai hown;obtain⟨pm,cm,rfl,_⟩:=aR hB.rm;obtain⟨pn,cn,rfl,_⟩:=aR hB.rs;obtain⟨pk,ck,rfl,_⟩:=aR hB.rk;have jS:0<(aT b ml ss ms).length:=List.length_pos_iff.2 hne;clear hL hB hne hown;generalize aT b ml ss ms=all at *;generalize ml.length=lm at *;generalize ss.length=ln at *;generalize ms.length=lk at *;have b0:Bw w ((w.alloc (au (b.sl pm lm cm pn ln cn pk lk ck) 28)).alloc (au eO 122)):=cY.alloc sM _;have HT:mQ (Two w (b.sl pm lm cm pn ln cn pk lk ck) 28 eO 122 ((w.alloc (au (b.sl pm lm cm pn ln cn pk lk ck) 28)).alloc (au eO 122))):=ai ⟨(Two.mk' w _ _ _ _).one,(Two.mk' w _ _ _ _).two,b0,sM⟩;have Iq:=ai b0;clear b0
 go_enter Tryz.func103,Tryz.ntmps103
 go_wp2_with (first
  |(refine wpList_load_row rfl 122 _ rfl _ rfl 122 _ (0,0) _ HL7.out fS rfl kQ ?_)
  |(refine gH rfl 122 _ _ rfl _ _ rfl rfl 122 _ OV.out kQ rfl (by simp[bK]) ?_)
  |(go_at_call 71;refine(ql.out _ Iq.out).mono ?_;clear ql;rintro e w1 ⟨rfl,hb1⟩
    have sw:=HT.out.next hb1;have o7:=ai sw
    obtain⟨x0,x1,x2,x3,x4,x5,x6,x7,x8,x9,qo,qm,rj,qX,q7⟩:=bU sw.one
    clear sw hb1)
  |(go_at_call 131;refine(MK.out _ (o7.out.below.alloc (by have:=o7.out.size;omega) _)).mono ?_;clear MK;rintro e w2 ⟨rfl,hb2⟩
    have CS:=(o7.out.next ((ay _ _).alloc (aJ _) (au (b.open (ae pm lm cm) (ae pn ln cn) (ae pk lk ck) (ae none 0 0)) 122))).next hb2;have GM:=ai CS
    have hk2:=(hb2.block w1.heap.size sM).trans (ax w1 _);have GQ:=ai hk2;have hs1:=o7.out.size;have hs2:=hb2.size;obtain⟨y0,y1,y2,y3,y4,y5,y6,y7,y8,y9,M7,O3,OZ,OY,Ki,Iw⟩:=jy hk2
    clear CS hk2 hb2)
  |(go_at_call 116;refine(MO.out _ GM.out.below).mono ?_;clear MO;rintro e w3 ⟨v,rfl,iH,hb3⟩
    have FX:=GM.out.next hb3;have Qd:=ai FX;have ML:=ai iH
    simp only[dQ] at hs2;have hk3:=(hb3.block w1.heap.size oM).trans GQ.out;have HK3:=ai hk3;have hs3:=hb3.size;clear y0 y1 y2 y3 y4 y5 y6 y7 y8 y9 M7 O3 OZ OY Ki Iw;have Iw:=aK hk3 15 _ rfl;have f7:=cQ hk3 15;have o8:=ai hb3
    obtain⟨gv,oV,rfl,EJ⟩:∃gv oV,v=ae (some ⟨gv,0,none⟩) all.length oV/\w2.heap.size<=gv:=by
     rcases iH.1.2 with⟨_,h0⟩|⟨g,cap,cur,rfl,hg,_⟩
     .omega
     exact⟨g,cap,rfl,hg⟩
    have HL7:mQ ((w3.setCell ⟨w1.heap.size,15,none⟩ (ae (some ⟨gv,0,none⟩) all.length oV)).heap[w1.heap.size]?=some (au (b.open (ae pm lm cm) (ae pn ln cn) (ae pk lk ck) (ae (some ⟨gv,0,none⟩) all.length oV)) 122 (0,0))):=ai (cX _ hk3);have OV:mQ ((w3.setCell ⟨w1.heap.size,15,none⟩ (ae (some ⟨gv,0,none⟩) all.length oV)).heap[w.heap.size+1]?=some (au eO 122 (0,0))):=ai ((bp _ _ _ _ (by show w.heap.size+1≠w1.heap.size;omega)).trans FX.two)
    clear FX hk3 hb3 iH))
 refine a8 (results_cell_tmp (g:=w.heap.size+1) rfl rfl (eF _ _ 122 122 _ (0,0) _ (bX OV.out) fS rfl kQ)) rfl ⟨_,rfl,?_,?_⟩
 .have hs1:=o7.out.size;refine(ML.out.at_ fun g hg=>?_).base oM;have EM:g=gv:=by simpa [ji] using hg.symm
  subst EM;exact(setRow_other oM).trans (bp _ _ _ _ (by show g≠w1.heap.size;omega))
 have hs1:=o7.out.size;exact cS (Qd.out.below.setCell (p:=⟨w1.heap.size,15,none⟩) (by show _<=w1.heap.size;omega) _) oM
def Fj(w:ak):a_ aq 149 #[ae none 0 0] w fun e w'=>e=aU (ae none 0 0)/\w=w':=by
 have hq:∀w,(binOp BinOp.eql 26 (Value.slice none 0 0) (Value.slice none 0 0)).run aq w=.ok (aA true) w:=fun w=>by kernel_rfl
 go_enter Tryz.func149,Tryz.ntmps149
 go_wp2
 go_ret
 exact⟨rfl,rfl⟩
def Bo(m:Mk)(w:ak)(k:Nat)(hk:w.heap[k]?=some (au m.cells 81 (0,0))):∃v' w',(Builtin.append_ #[26,26] 26 #[ae none 0 0,ae (some ⟨k,0,none⟩) 1 1]).run aq w=.ok v' w'/\w'.ownsRow w.heap.size 81 3 v' 1 (dM [m])/\Bw w w':=by
 obtain⟨i0,hi,hz0,hz1,hz2⟩:=info_parts Jp
 obtain⟨v',w',hr,h2,h3,_⟩:=run_append_own (P:=aq) w w.heap.size 26 26 81 i0 (aN #[ag af 0,ag af 0,ag af 0]) 3 24 Tryz.underlying26 hi hz0 hz1 hz2 rfl dC (ae none 0 0) 0 [] (World.ownsRow_nil _ _ _ _) ⟨k,0,none⟩ 1 1 m.cells.toList rfl
  (fun j u hj=>by
   have h5:=aK hk j u (by simpa using hj);have e:(⟨k,0,none⟩:Addr).add j=⟨k,j,none⟩:=by cases j<;>simp[Addr.add]
   rw[e];exact h5) (by simp[bK]) (by unfold maxLen;omega) oM (aJ _)
 exact⟨v',w',hr,by simpa [dM] using h2,(ay _ _).grown h3 (aJ _) fun j hj=>by simp[ji] at hj⟩
def Yh(b:BB)(bm aH:aj)(ml:List Mn)(ss:List Int)(w:ak)(hL:Laid w)(hB:bW b bm aH (ae none 0 0) ml ss [] w)(m:Mk)(hm:l9 b [m])(hne:aT b ml ss [m]≠[]) :
  a_ aq 75 #[aN (b.cells bm aH (ae none 0 0)),aN m.cells] w fun e w'=>∃m' s' k',e=aU (bB #[aN (b.cells m' s' k'),ag af 0])/\fK b m' s' k' ml ss [m] w'/\Bw w w':=by
 obtain⟨pm,cm,rfl,_⟩:=aR hB.rm;obtain⟨pn,cn,rfl,_⟩:=aR hB.rs;have Ux:=oG w (b.sl pm ml.length cm pn ss.length cn none 0 0) m.cells fP 28 81 28;have b0:Bw w (((w.alloc (au (b.sl pm ml.length cm pn ss.length cn none 0 0) 28)).alloc (au m.cells 81)).alloc (au fP 28)):=(cY.alloc sM _).alloc sO _;have HT:mQ (Two w (b.sl pm ml.length cm pn ss.length cn none 0 0) 28 m.cells 81 (((w.alloc (au (b.sl pm ml.length cm pn ss.length cn none 0 0) 28)).alloc (au m.cells 81)).alloc (au fP 28))):=ai ⟨Ux.1,Ux.2.1,b0,sM⟩;have HZ0:=ai Ux.2.2;have ql:=ai (dI b _ _ _ ml ss [] _ (hL.below b0) (hB.below b0))
 have HAg:mQ (∀W k,Bw w W->Reads W k 1 (dM [m])->a_ aq 150 #[aN (b.cells (ae pm ml.length cm) (ae pn ss.length cn) k)] W fun e w'=>∃m' s' k',e=aU (bB #[aN (b.cells m' s' k'),ag af 0])/\fK b m' s' k' ml ss [m] w'/\px W.heap.size m' s' k'/\Bw W w'):=ai fun W k hb hr=>
  Bp b _ _ _ ml ss [m] W (hL.below hb) ⟨hB.ok,hB.eT,hB.lH,hm,hB.rm.below hb,hB.rs.below hb,hr⟩ hne
 clear hL hB hne b0 Ux hm
 go_enter Tryz.func75,Tryz.ntmps75
 go_wp2_with (first
  |(go_at_call 71;refine ql.out.mono ?_;clear ql;rintro e w1 ⟨rfl,hb1⟩
    have o7:=ai (HT.out.next hb1);have Yk:=ai ((hb1.block (w.heap.size+2) sM).trans HZ0.out)
    clear hb1))
 refine Ph.cj kQ [
 pV (pv w.heap.size 14),
  pV (ae none 0 0),
  pV (ae none 0 0),
  pV (aN m.cells),
  fun v ds w9=>∃k,v=ae (some ⟨k,0,none⟩) 1 1/\w9.heap[k]?=some (au m.cells 81 (0,0)),
  fun v ds w9=>w9.ownsRow (w.heap.size+3) 81 3 v 1 (dM [m]),
  pV (pv w.heap.size 14),
  fun v ds w9=>∃x,ds[1]?=some x/\w9.heap[w.heap.size]?=some (au (b.cells (ae pm ml.length cm) (ae pn ss.length cn) x) 28 (0,0))]
  (fun L w9=>∃k0,w9.heap[w.heap.size]?=some (au (b.cells (ae pm ml.length cm) (ae pn ss.length cn) k0) 28 (0,0))/\(L 7=false->k0=ae none 0 0)/\w9.heap[w.heap.size+1]?=some (au m.cells 81 (0,0))/\w9.heap[w.heap.size+2]?=some (au fP 28 (0,0))/\Bw w w9/\w.heap.size+3<=w9.heap.size) [(2,pv w.heap.size 0),(3,pv (w.heap.size+1) 0)] kQ ?rst (fun L L2 w1 w2 SN h hb=>by
  obtain⟨k0,h1,h2,h3,h4,h5,h6⟩:=h
  exact⟨k0,(hb.block _ (ah.1 h1).1).trans h1,fun q=>h2 (SN 7 q),(hb.block _ (ah.1 h3).1).trans h3,(hb.block _ (ah.1 h4).1).trans h4,h5.trans (hb.mono oM),aG h6 hb.size⟩) (⟨_,o7.out.one,fun _=>rfl,o7.out.two,Yk.out,o7.out.below.drew,(ah.1 Yk.out).1⟩) ⟨rfl,rfl,trivial⟩ ?reach ?rfin
 case rst=>
  refine⟨Ph.sV,Ph.sV,Ph.sV,Ph.sV,?_,?_,Ph.sV,?_,trivial⟩
  .rintro v ds L w1 w2 hS ⟨k,h1,h2⟩ hb;exact⟨k,h1,(hb.block _ (ah.1 h2).1).trans h2⟩
  .rintro v ds L w1 w2 hS h hb;exact dW h hb
  rintro v ds L w1 w2 hS ⟨x,h1,h2⟩ hb;exact⟨x,h1,(hb.block _ (ah.1 h2).1).trans h2⟩
 case reach=>
  refine⟨?_,?_,?_,?_,?_,?_,?_,?_,trivial⟩<;>rintro Lf ev w1 hn xr hS hc hg hf ⟨b2,b3,-⟩ hd
  .exact Ph.tV
  .have d0:ev (aI 13)=_:=hd.1 rfl;obtain⟨k0,hb0,q1,_⟩:=hS;obtain rfl:=q1 (hn 7 kQ);have x:=aK hb0 14 _ rfl;exact Ph.tV
  .have d1:ev (aI 14)=_:=hd.1 rfl;refine Lag.Yields.call (f:=149) (args:=#[ae none 0 0]) ?_ (Fj w1) ?_
   .go_simp
   rintro e w2 ⟨rfl,rfl⟩;exact⟨_,rfl,rfl,cz (ay _ _)⟩
  .obtain⟨k0,hb0,q1,hm1,_⟩:=hS;have x0:=aK hm1 0 _ rfl;have x1:=aK hm1 1 _ rfl;have x2:=aK hm1 2 _ rfl;exact Ph.tV
  .have d3:ev (aI 16)=_:=hd.1 rfl;refine F5 (v:=ae (some ⟨w1.heap.size,0,none⟩) 1 1) (w':=w1.alloc (au m.cells 81)) ?_ ⟨⟨_,rfl,ax _ _⟩,cz cY⟩;go_simp
  .have d2:ev (aI 15)=_:=hd.1 rfl;obtain⟨k,e17,hk⟩:=hd.2.1 rfl;replace e17:ev (aI 17)=_:=e17;obtain⟨v',w',hr,ho,hb⟩:=Bo m w1 k hk;refine F5 (v:=v') (w':=w') ?_ ⟨ownsRow_base ho (by obtain⟨_,_,_,_,_,_,h⟩:=hS;exact h),cz hb⟩;simp[execOp,resolve,invoke,builtin,d2,e17,hr,Result.andThen]
  .exact Ph.tV
  have d6:ev (aI 19)=_:=hd.1 rfl;have d5:w1.ownsRow (w.heap.size+3) 81 3 (ev (aI 18)) 1 (dM [m]):=hd.2.1 rfl;obtain⟨p5,c5,F3⟩:=dV d5;obtain⟨k0,hb0,q1,hm1,hz1,hbl,hsz⟩:=hS;have c1:=aK hb0 14 _ rfl;have f1:=cQ hb0 14;refine Lag.Yields.skip (w':=w1.setCell ⟨w.heap.size,14,none⟩ (ev (aI 18))) ?_ ⟨⟨_,rfl,cX _ hb0⟩,.inr ⟨⟨_,cX _ hb0,(by intro h;simp[Ph.upd] at h),(bp _ _ _ _ (by show _≠w.heap.size;omega)).trans hm1,(bp _ _ _ _ (by show _≠w.heap.size;omega)).trans hz1,hbl.setCell (p:=⟨w.heap.size,14,none⟩) (aJ _) _,by simpa using hsz⟩,?_⟩⟩
  .rw[F3];go_simp
  .intro j u ds hj hL hp
   match j,hp with
   |0,hp|1,hp|2,hp|3,hp=>exact hp
   |4,⟨k,h1,h2⟩=>exact⟨k,h1,(bp _ _ _ _ (by rintro rfl;rw[hb0] at h2;simp at h2)).trans h2⟩
   |5,hp=>exact dt hp hb0 dC
   |6,hp=>exact hp
   |7,_=>exact(hj rfl).elim
   |j+8,_=>trivial
 case rfin=>
  intro a2 w2 hR;have hS:=hR.s;have e5:w2.ownsRow (w.heap.size+3) 81 3 (a2.tmps.getD 18 ar) 1 (dM [m]):=hR.val 5;obtain⟨x,h18,lg⟩:=hR.val 7;have k2:a2.tmps.getD 2 ar=pv w.heap.size 0:=hR.kept kQ;have k4:a2.tmps.getD 4 ar=dB (some ⟨w.heap.size+1+1,0,none⟩):=hR.kept kQ;have ha:=hR.lits 24 rfl;simp only[aQ,cg,List.map] at ha;clear hR;have F3:a2.tmps.getD 18 ar=x:=a7 h18;rw[F3] at e5;rw[k2,k4] at ha;generalize a2.tmps.getD=zz at ha;obtain⟨p5,c5,rfl⟩:=dV e5;obtain⟨_,_,_,_,hz,hbl,hsz⟩:=hS;have HK:=ai lg;have HZ:=ai hz;have FQ:=ai hbl;have Sv:=ai (Reads.jL e5 oM (by rfl));clear k2 k4 h18 F3 e5 lg hz hbl;subst ha
  go_wp2_with (first
   |(refine wpList_load_row rfl 28 _ rfl _ rfl 28 _ (0,0) _ HK.out bL rfl kQ ?_)
   |(refine gH rfl 28 _ _ rfl _ _ rfl rfl 28 _ HZ5.out kQ rfl (by simp[bK]) ?_)
   |(go_at_call 150;refine(HAg.out _ _ FQ.out Sv.out).mono ?_;clear HAg;rintro e w5 ⟨m',s',k',rfl,UH,hf5,hb5⟩
     have HZ5:=ai ((hb5.block _ (ah.1 HZ.out).1).trans HZ.out);obtain⟨p6,c6,rfl,_⟩:=aR UH.rm;obtain⟨p8,c8,rfl,_⟩:=aR UH.rs;obtain⟨VN,c11,rfl,_⟩:=aR UH.rk;have VB:mQ (fK b (ae p6 ml.length c6) (ae p8 ss.length c8) (ae VN ([m]:List Mk).length c11) ml ss [m] (w5.setRow (w.heap.size+2) (b.cells (ae p6 ml.length c6) (ae p8 ss.length c8) (ae VN ([m]:List Mk).length c11)))):=ai (UH.setRow hf5 (ah.1 HZ.out).1);have HB5:=ai (FQ.out.trans (hb5.mono FQ.out.size))
     clear UH hb5 hf5))
  refine a8 (results_cell_tmp (g:=w.heap.size+2) rfl rfl (eF _ _ 28 28 _ (0,0) _ (bX HZ5.out) bL rfl kQ)) rfl ⟨_,_,_,rfl,VB.out,cS HB5.out oM⟩
def J2(b:BB)(bm aH az:aj)(ml:List Mn)(ss:List Int)(ms:List Mk)(w:ak)(hL:Laid w)(hB:bW b bm aH az ml ss ms w)(mi:Int)(h1:1<=mi)(h2:mi<=b.minutes)(h3:mi<di ss ms) :
  a_ aq 82 #[aN (b.cells bm aH az),ag af mi] w (Rt w (bB #[aN fP,ag af 7])):=by
 have AX:=hB.ok.minutes;have pw:∀s∈ss,1<=s/\s<=8:=fun s h=>by have:=hB.lH.mem s h;omega
 have Lt:∀m∈ms,1<=m.minute/\m.minute<=8:=fun m h=>by have:=hB.jM.mem m h;omega
 obtain⟨pm,cm,rfl,_⟩:=aR hB.rm;obtain⟨pn,cn,rfl,_⟩:=aR hB.rs;obtain⟨pk,ck,rfl,_⟩:=aR hB.rk;have b0:Bw w ((w.alloc (au (b.sl pm ml.length cm pn ss.length cn pk ms.length ck) 28)).alloc (au fP 28)):=cY.alloc sM _;have HT:mQ (Two w (b.sl pm ml.length cm pn ss.length cn pk ms.length ck) 28 fP 28 ((w.alloc (au (b.sl pm ml.length cm pn ss.length cn pk ms.length ck) 28)).alloc (au fP 28))):=ai ⟨(Two.mk' w _ _ _ _).one,(Two.mk' w _ _ _ _).two,b0,sM⟩;have ql:=ai (dI b _ _ _ ml ss ms _ (hL.below b0) (hB.below b0));have HBh:mQ (∀W,Bw w W->a_ aq 155 #[aN (b.sl pm ml.length cm pn ss.length cn pk ms.length ck)] W fun e w'=>e=aU (ag af (di ss ms))/\Bw W w'):=ai fun W hb=>FI b _ _ _ ss ms pw Lt W (hB.below hb).rs (hB.below hb).rk;clear hL hB b0 pw Lt;generalize di ss ms=bh at *;generalize ml.length=lm at *;generalize ss.length=ln at *;generalize ms.length=lk at *
 go_enter Tryz.func82,Tryz.ntmps82
 go_wp2_with (first
  |(refine gH rfl 28 _ _ rfl _ _ rfl rfl 28 _ HZ.out kQ rfl (by simp[bK]) ?_)
  |(go_at_call 71;refine ql.out.mono ?_;clear ql;rintro e w1 ⟨rfl,hb1⟩
    have sw:=HT.out.next hb1;have o7:=ai sw
    obtain⟨x0,x1,x2,x3,x4,x5,x6,x7,x8,x9,qo,qm,rj,qX,q7⟩:=bU sw.one
    clear sw hb1)
  |(go_at_call 132;refine(nH b _ _ _ mi h1 h2 _).mono ?_;rintro e w2 ⟨rfl,hb2⟩
    have GQ:=ai ((hb2.block w1.heap.size sM).trans (ax w1 _));have GM:=ai ((o7.out.next ((ay _ _).alloc (aJ _) (au (b.sl pm lm cm pn ln cn pk lk ck) 119))).next hb2);clear x0 x1 x2 x3 x4 x5 x6 x7 x8 x9 qo qm rj qX q7;obtain⟨x0,x1,x2,x3,x4,x5,x6,x7,x8,x9,qo,qm,rj,qX,q7⟩:=bU GQ.out
    clear hb2)
  |(go_at_call 155;refine(HBh.out _ GM.out.below).mono ?_;clear HBh;rintro e w3 ⟨rfl,hb3⟩
    have Qd:=ai (GM.out.next hb3);have HZ:=ai Qd.out.two
    clear hb3))
 (try simp only[Exit.inBlock,Exit.then])
 exact a8 (results_cell_tmp (g:=w.heap.size+1) rfl rfl (eF _ _ 28 28 _ (0,0) _ (bX HZ.out) bL rfl kQ)) rfl ⟨rfl,cS Qd.out.below oM⟩
section
variable(b:BB)(bm aH az:aj)(ml:List Mn)(ss:List Int)(ms:List Mk)(w:ak)
theorem Vx(hL:Laid w)(hB:bW b bm aH az ml ss ms w) :
  a_ aq 33 #[aN (b.cells bm aH az)] w (Rt w (bB #[ag af b.holds,ag af 0])):=by
 have b0:Bw w (w.alloc (au (b.cells bm aH az) 28)):=cY;have ql:=ai (dI b bm aH az ml ss ms _ (hL.below b0) (hB.below b0));have cV:=hB.ok;have HOk:=ai cV;have Iq:=ai b0;clear hL hB b0 cV
 go_enter Tryz.func33,Tryz.ntmps33
 go_wp2_with (first
  |(go_at_call 71;refine ql.out.mono ?_;clear ql;rintro e w1 ⟨rfl,hb1⟩
    have lg:=(hb1.block w.heap.size sM).trans (ax w _);obtain⟨x0,x1,x2,x3,x4,x5,x6,x7,x8,x9,qo,qm,rj,qX,q7⟩:=bU lg
    have vV:=ai hb1;clear lg hb1)
  |(go_at_call 115;refine(Hz b HOk.out bm aH az _).mono ?_;rintro e w2 ⟨rfl,hb2⟩;have nN:=ai hb2;clear hb2))
 go_ret2;have h1:=Iq.out.trans (vV.out.mono Iq.out.size);exact⟨rfl,h1.trans (nN.out.mono h1.size)⟩
theorem abK(hL:Laid w)(hB:bW b bm aH az ml ss ms w)(n:Int)(hn:0<=n/\n<=999) :
  a_ aq 65 #[aN (b.cells bm aH az),ag af n] w (Rt w (bB #[ag af (b.RS n),ag af 0])):=by
 have b0:Bw w (w.alloc (au (b.cells bm aH az) 28)):=cY;have ql:=ai (dI b bm aH az ml ss ms _ (hL.below b0) (hB.below b0));have cV:=hB.ok;have HOk:=ai cV;have Iq:=ai b0;clear hL hB b0 cV
 go_enter Tryz.func65,Tryz.ntmps65
 go_wp2_with (first
  |(go_at_call 71;refine ql.out.mono ?_;clear ql;rintro e w1 ⟨rfl,hb1⟩
    have lg:=(hb1.block w.heap.size sM).trans (ax w _);obtain⟨x0,x1,x2,x3,x4,x5,x6,x7,x8,x9,qo,qm,rj,qX,q7⟩:=bU lg
    have vV:=ai hb1;clear lg hb1)
  |(go_at_call 138;refine(je _ _ _ oM oM _).mono ?_;rintro e w' ⟨rfl,rfl⟩)
  |(go_at_call 139;refine(JN b HOk.out bm aH az n hn _).mono ?_;rintro e w2 ⟨rfl,hb2⟩;have nN:=ai hb2;clear hb2))
 go_ret2;have h1:=Iq.out.trans (vV.out.mono Iq.out.size);exact⟨rfl,h1.trans (nN.out.mono h1.size)⟩
theorem qR(hL:Laid w)(hB:bW b bm aH az ml ss ms w) :
  a_ aq 42 #[aN (b.cells bm aH az)] w (Rt w (bB #[ag af (aT b ml ss ms).length,ag af 0])):=by
 have b0:Bw w (w.alloc (au (b.cells bm aH az) 28)):=cY;have ql:=ai (dI b bm aH az ml ss ms _ (hL.below b0) (hB.below b0));have HBk:=ai (hB.below b0);have Iq:=ai b0;have hlen:=ic ss ms hB.ok hB.eT;clear hL hB b0
 go_enter Tryz.func42,Tryz.ntmps42
 go_wp2_with (first
  |(go_at_call 71;refine ql.out.mono ?_;clear ql;rintro e w1 ⟨rfl,hb1⟩
    have lg:=(hb1.block w.heap.size sM).trans (ax w _);obtain⟨x0,x1,x2,x3,x4,x5,x6,x7,x8,x9,qo,qm,rj,qX,q7⟩:=bU lg
    have vV:=ai hb1;clear lg hb1)
  |(go_at_call 116;refine(lQ b bm aH az ml ss ms _ (HBk.out.below vV.out)).mono ?_;rintro e w2 ⟨v,rfl,iH,hb2⟩;have nN:=ai hb2
    obtain⟨p,cap,rfl,_⟩:=aR (iH.reads oM);clear hb2 iH))
 go_ret2;have h1:=Iq.out.trans (vV.out.mono Iq.out.size);exact⟨rfl,h1.trans (nN.out.mono h1.size)⟩
end
def eL(s:ByteArray)(k:Nat):Int:=if h:k<s.size then(s[k].toNat:Int) else 0
def vS(s:ByteArray)(k:Nat):0<=eL s k/\eL s k<256:=by
 unfold eL;split
 .have:=s[k].toNat_lt;omega
 omega
def xZ(s:ByteArray)(k:Nat)(h:k<s.size)(w:ak):(Instr.index 9 (.string s) (ag af (k:Int))).run aq w=.ok (ag .u8 (eL s k)) w:=by
 rw[run_index_string w 9 s af _ Tryz.underlying9,dif_pos ⟨oM,oM⟩];simp[eL,h]
def zV(c:Int)(h:0<=c/\c<256):IntKind.i64.wrap c=c:=by rw[bO];omega
def oL(s:ByteArray)(k:Nat):Bool:=aV (eL s k) 97 122||aV (eL s k) 48 57
def kE(s:ByteArray):Bool:=(aV s.size 1 12&&aV (eL s 0) 97 122)&&(List.range' 1 (s.size-1)).all (oL s)
def Rc{s:ByteArray}(h0:aV s.size 1 12=true)(h1:aV (eL s 0) 97 122=true)(h:∀i,1<=i->i<s.size->oL s i=true):kE s=true:=by
 unfold kE;simp only[h0,h1,Bool.and_self,Bool.true_and,bf,List.mem_range'_1];intro x hx;exact h x hx.1 oM
def NN{s:ByteArray}(h:(aV s.size 1 12&&aV (eL s 0) 97 122)=false):kE s=false:=by
 unfold kE;rw[h];rfl
def Rf{s:ByteArray}(i:Nat)(h1:1<=i)(h2:i<s.size)(h:oL s i=false):kE s=false:=by
 unfold kE;rw[Bool.and_eq_false_iff];right;rw[List.all_eq_false];exact⟨i,List.mem_range'_1.2 ⟨h1,oM⟩,by rw[h];simp⟩
def NM{s:ByteArray}(h:kE s=true):J5 s:=by
 unfold kE at h;simp only[aF,bf,List.mem_range'_1] at h;obtain⟨⟨h0,h1⟩,h2⟩:=h;have h0:=gF.1 h0;refine⟨⟨oM,oM⟩,fun k hk=>?_⟩;rcases Nat.eq_zero_or_pos k with rfl|hp
 .left;have:=gF.1 h1;unfold eL at this;rw[dif_pos hk] at this;exact⟨oM,oM⟩
 have h3:=h2 k ⟨hp,oM⟩;unfold oL eL at h3;rw[dif_pos hk,Bool.or_eq_true,gF,gF] at h3;rcases h3 with h3|h3
 .left;exact⟨oM,oM⟩
 right;exact⟨oM,oM,oM⟩
def zB(c:Int)(hc0:0<=c/\c<256)(w:ak):a_ aq 183 #[ag .u8 c] w (Rt w (aA (aV c 97 122))):=by
 refine kP Tryz.func183 rfl rfl [(0,ag .u8 c)] ⟨iL rfl,trivial⟩ fun a hF=>?_;refine(fun h:∀W,Bw w W->F8 aq _ _ a W=>h w (ay _ _)) ?_;intro W HB;refine fD [(2,aA false)] hF ?_;intro a W ho hF;replace HB:=HB.tr ho;replace hF:=hF.tl
 refine nV [pV (ag .u8 c),pV (ag af c),pV (aA (aV c 97 122)),pV (aA (aV c 97 122))]
  _ kQ hF.size hF.base ?_ ?_ ?_
 .exact⟨sV,sV,sV,sV,trivial⟩
 .refine⟨?_,?_,?_,?_,trivial⟩<;>rintro ev w1 hS hc hg hf ⟨b0,-⟩ hd
  all_goals try
   try have d0:ev (aI _)=_:=hd.1 rfl
   refine yw rfl ?_ rfl;go_simp;done
  .have d0:ev (aI 3)=_:=hd.1 rfl;have hw:=zV c hc0;exact tV
  have d1:ev (aI 4)=_:=hd.1 rfl;refine yc (gT c 97 122 w1) ?_ (fun _=>rfl);go_simp
 intro a W hR;have ho:=hR.s;replace HB:=HB.tr ho;replace hF:=(hR.fr hF).cons (t:=2) (hR.val 3);clear hR ho;refine ej ?_;exact a8 (bR rfl _ _ _) hF.defers ⟨congrArg bw ((hF.g 0 rfl):a.eval (aI 2)=aA (aV c 97 122)),HB⟩
def Ll(c:Int)(hc0:0<=c/\c<256)(w:ak):a_ aq 184 #[ag .u8 c] w (Rt w (aA (aV c 48 57))):=by
 refine kP Tryz.func184 rfl rfl [(0,ag .u8 c)] ⟨iL rfl,trivial⟩ fun a hF=>?_;refine(fun h:∀W,Bw w W->F8 aq _ _ a W=>h w (ay _ _)) ?_;intro W HB;refine fD [(2,aA false)] hF ?_;intro a W ho hF;replace HB:=HB.tr ho;replace hF:=hF.tl
 refine nV [pV (ag .u8 c),pV (ag af c),pV (aA (aV c 48 57)),pV (aA (aV c 48 57))]
  _ kQ hF.size hF.base ?_ ?_ ?_
 .exact⟨sV,sV,sV,sV,trivial⟩
 .refine⟨?_,?_,?_,?_,trivial⟩<;>rintro ev w1 hS hc hg hf ⟨b0,-⟩ hd
  all_goals try
   try have d0:ev (aI _)=_:=hd.1 rfl
   refine yw rfl ?_ rfl;go_simp;done
  .have d0:ev (aI 3)=_:=hd.1 rfl;have hw:=zV c hc0;exact tV
  have d1:ev (aI 4)=_:=hd.1 rfl;refine yc (gT c 48 57 w1) ?_ (fun _=>rfl);go_simp
 intro a W hR;have ho:=hR.s;replace HB:=HB.tr ho;replace hF:=(hR.fr hF).cons (t:=2) (hR.val 3);clear hR ho;refine ej ?_;exact a8 (bR rfl _ _ _) hF.defers ⟨congrArg bw ((hF.g 0 rfl):a.eval (aI 2)=aA (aV c 48 57)),HB⟩
def Rb(s:ByteArray)(w:ak):a_ aq 177 #[.string s] w (Rt w (aA (kE s))):=by
 refine kP Tryz.func177 rfl rfl [(0,.string s)] ⟨iL rfl,trivial⟩ fun a hF=>?_;refine(fun h:∀W,Bw w W->F8 aq _ _ a W=>h w (ay _ _)) ?_;intro W HB;refine fD [(2,aA false)] hF ?_;intro a W ho hF;replace HB:=HB.tr ho;refine dg ?_
 refine nV [pV (.string s),pV (ag af (s.size:Int)),pV (aA (aV (s.size:Int) 1 12)),pV (aA (!(aV (s.size:Int) 1 12))),pV (aA (!(aV (s.size:Int) 1 12))),pC (!(!(aV (s.size:Int) 1 12))) (.string s),pC (!(!(aV (s.size:Int) 1 12))) (ag .u8 (eL s 0)),pC (!(!(aV (s.size:Int) 1 12))) (aA (aV (eL s 0) 97 122)),pC (!(!(aV (s.size:Int) 1 12))) (aA (!(aV (eL s 0) 97 122))),pV (aA ((!(aV (s.size:Int) 1 12))||(!(aV (eL s 0) 97 122))))]
  _ kQ hF.size hF.base ?_ ?_ ?_
 .exact⟨sV,sV,sV,sV,sV,sC,sC,sC,sC,sV,trivial⟩
 .refine⟨?_,?_,?_,?_,?_,?_,?_,?_,?_,?_,trivial⟩<;>rintro ev w1 hS hc hg hf ⟨-,b0,-⟩ hd
  all_goals try
   try have d0:ev (aI _)=_:=hd.1 rfl
   refine yw rfl ?_ rfl;go_simp;done
  all_goals try
   try have d0:ev (aI _)=_:=hd.1 rfl
   try have c0:_->ev (aI _)=_:=hd.1 rfl
   try have d1:ev (aI _)=_:=hd.2.1 rfl
   first|refine gC d0 mE fun hA=>?_|refine gC d1 mE fun hA=>?_
   try replace c0:=c0 hA
   refine yw rfl ?_ (fun _=>rfl);go_simp;done
  .have d1:ev (aI 5)=_:=hd.1 rfl;refine yc (gT (s.size:Int) 1 12 w1) ?_ (fun _=>rfl);go_simp
  .have d5:_->ev (aI 9)=_:=hd.1 rfl;have d4:ev (aI 8)=_:=hd.2.1 rfl;refine gC d4 mE fun hA=>?_;have y5:=d5 hA
   have NV:0<s.size:=by
    have h9:aV (s.size:Int) 1 12=true:=by revert hA;simp
    have:=gF.1 h9;omega
   have hi:=xZ s 0 NV w1;refine F5 (v:=(ag .u8 (eL s 0):aj)) (w':=w1) ?_ ⟨fun _=>rfl,cz (ay _ _)⟩;rw[show eL s 0=((s[0]'NV).toNat:Int) from dif_pos NV];go_simp
  .have d6:_->ev (aI 10)=_:=hd.1 rfl;have d4:ev (aI 8)=_:=hd.2.1 rfl;refine gC d4 mE fun hA=>?_;have y6:=d6 hA;refine yc (args:=#[ag .u8 (eL s 0)]) (zB (eL s 0) (vS _ _) w1) ?_ (fun _=>fun _=>rfl);go_simp
  have d4:ev (aI 8)=_:=hd.1 rfl;have d8:_->ev (aI 12)=_:=hd.2.1 rfl;exact yO rfl hc d4 (fun hq=>d8 (by simp[hq])) (rfl)
 intro a W hR;have ho:=hR.s;replace HB:=HB.tr ho;replace hF:=(hR.fr hF).cons (t:=13) (hR.val 9);clear hR ho;refine cF (t:=((!(aV (s.size:Int) 1 12))||(!(aV (eL s 0) 97 122)))) (hF.g 0 rfl) (fun Ru=>?_) (fun Ru=>?_)
 .replace hF:=hF.tl;have hres:kE s=false:=NN (by revert Ru;cases aV (s.size:Int) 1 12<;>cases aV (eL s 0) 97 122<;>simp);replace hF:=hF.tl;refine fD [(2,aA false)] hF ?_;intro a W ho hF;replace HB:=HB.tr ho;refine ej ?_;exact a8 (bR rfl _ _ _) hF.defers ⟨congrArg bw (((hF.g 0 rfl):a.eval (aI 2)=aA false).trans (congrArg _ hres.symm)),HB⟩
 replace hF:=hF.tl;have h0:aV (s.size:Int) 1 12=true:=by revert Ru;cases aV (s.size:Int) 1 12<;>simp
 have h1:aV (eL s 0) 97 122=true:=by revert Ru;cases aV (eL s 0) 97 122<;>simp
 have hn:=gF.1 h0;refine dA ?_;refine dg ?_;refine fD [(3,ag af 1)] hF ?_;intro a W ho hF;replace HB:=HB.tr ho;refine kg ?_;refine wp_loop (fun a W=>∃k:Nat,k<=s.size/\(1<=k/\∀i,1<=i->i<k->oL s i=true)/\ik 32 a [(3,ag af (k:Nat)),(0,.string s)]/\Bw w W) (fun a _=>s.size-(intOf (a.eval (aI 3))).toNat) ⟨1,oM,⟨aJ _,fun i h1 h2=>by omega⟩,⟨hF.size,hF.defers,(by obtain⟨b3,-,b0,-⟩:=hF.base;exact⟨b3,b0,trivial⟩)⟩,HB⟩ ?_;clear hF HB
 try clear a
 try clear W
 rintro a W ⟨k,rE,oO,hF,HB⟩;have hk3:a.eval (aI 3)=ag af (k:Nat):=(hF.g 0 rfl)
 refine dg ?_;refine fD [(17,aA (decide ((k:Int)<(s.size:Int))))] hF ?_;intro a W ho hF;replace HB:=HB.tr ho;refine cF (t:=(decide ((k:Int)<(s.size:Int)))) (hF.g 0 rfl) (fun JE=>?_) (fun JE=>?_)
 .replace hF:=hF.tl;have yb:k<s.size:=by simpa using JE
  have hw1:IntKind.i64.wrap ((k:Int)+1)=(k:Int)+1:=by rw[bO];omega
  refine dA ?_;refine dg ?_;refine kg ?_
  refine nV [pV (.string s),pV (ag af (k:Nat)),pV (ag .u8 (eL s k)),pV (aA (aV (eL s k) 97 122)),pV (aA (!(aV (eL s k) 97 122))),pV (aA (!(aV (eL s k) 97 122))),pC (!(aV (eL s k) 97 122)) (.string s),pC (!(aV (eL s k) 97 122)) (ag af (k:Nat)),pC (!(aV (eL s k) 97 122)) (ag .u8 (eL s k)),pC (!(aV (eL s k) 97 122)) (aA (aV (eL s k) 48 57)),pC (!(aV (eL s k) 97 122)) (aA (!(aV (eL s k) 48 57))),pV (aA ((!(aV (eL s k) 97 122))&&(!(aV (eL s k) 48 57))))]
   _ kQ hF.size hF.base ?_ ?_ ?_
  .exact⟨sV,sV,sV,sV,sV,sV,sC,sC,sC,sC,sC,sV,trivial⟩
  .refine⟨?_,?_,?_,?_,?_,?_,?_,?_,?_,?_,?_,?_,trivial⟩<;>rintro ev w1 hS hc hg hf ⟨b3,b0,-⟩ hd
   all_goals try
    try have d0:ev (aI _)=_:=hd.1 rfl
    refine yw rfl ?_ rfl;go_simp;done
   all_goals try
    try have d0:ev (aI _)=_:=hd.1 rfl
    try have c0:_->ev (aI _)=_:=hd.1 rfl
    try have d1:ev (aI _)=_:=hd.2.1 rfl
    first|refine gC d0 yE fun hA=>?_|refine gC d1 yE fun hA=>?_
    try replace c0:=c0 hA
    refine yw rfl ?_ (fun _=>rfl);go_simp;done
   .have d0:ev (aI 20)=_:=hd.1 rfl;have d1:ev (aI 21)=_:=hd.2.1 rfl;have hi:=xZ s k yb w1;refine F5 (v:=(ag .u8 (eL s k):aj)) (w':=w1) ?_ ⟨rfl,cz (ay _ _)⟩;go_simp
   .have d2:ev (aI 22)=_:=hd.1 rfl;refine yc (args:=#[ag .u8 (eL s k)]) (zB (eL s k) (vS _ _) w1) ?_ (fun _=>rfl);go_simp
   .have d6:_->ev (aI 26)=_:=hd.1 rfl;have d7:_->ev (aI 27)=_:=hd.2.1 rfl;have d5:ev (aI 25)=_:=hd.2.2.1 rfl;refine gC d5 yE fun hA=>?_;have y6:=d6 hA;have y7:=d7 hA;have hi:=xZ s k yb w1;refine F5 (v:=(ag .u8 (eL s k):aj)) (w':=w1) ?_ ⟨fun _=>rfl,cz (ay _ _)⟩;go_simp
   .have d8:_->ev (aI 28)=_:=hd.1 rfl;have d5:ev (aI 25)=_:=hd.2.1 rfl;refine gC d5 yE fun hA=>?_;have y8:=d8 hA;refine yc (args:=#[ag .u8 (eL s k)]) (Ll (eL s k) (vS _ _) w1) ?_ (fun _=>fun _=>rfl);go_simp
   have d5:ev (aI 25)=_:=hd.1 rfl;have d10:_->ev (aI 30)=_:=hd.2.1 rfl;exact yA rfl hc d5 (fun hq=>d10 (by simp[hq])) (rfl)
  intro a W hR;have ho:=hR.s;replace HB:=HB.tr ho;replace hF:=(hR.fr hF).cons (t:=31) (hR.val 11);clear hR ho;refine cF (t:=((!(aV (eL s k) 97 122))&&(!(aV (eL s k) 48 57)))) (hF.g 0 rfl) (fun aaG=>?_) (fun aaG=>?_)
  .replace hF:=hF.tl;have hres:kE s=false:=Rf k oO.1 yb (by unfold oL;revert aaG;cases aV (eL s k) 97 122<;>cases aV (eL s k) 48 57<;>simp);refine fD [(2,aA false)] hF ?_;intro a W ho hF;replace HB:=HB.tr ho;refine ej ?_;exact a8 (bR rfl _ _ _) hF.defers ⟨congrArg bw (((hF.g 0 rfl):a.eval (aI 2)=aA false).trans (congrArg _ hres.symm)),HB⟩
  replace hF:=hF.tl;have hz:oL s k=true:=by unfold oL;revert aaG;cases aV (eL s k) 97 122<;>cases aV (eL s k) 48 57<;>simp
  refine dA ?_;have qF:=hF;replace hF:=hF.tl;refine M6 ⟨[],[(1,ag af ((k:Nat)+1))],[],[]⟩ [(3,ag af ((k:Nat)+1))] qF hF trivial ⟨fun w1 hS _=>ge (congrArg (aD af) (show IntKind.i64.wrap ((k:Nat)+1)=((k:Nat)+1) by rw[bO];omega)),trivial⟩ ?_;intro a W ho hF;clear qF;replace HB:=HB.tr ho;refine⟨⟨k+1,oM,⟨oM,fun i h1 h2=>if hik:i<k then oO.2 i h1 hik else by have e:i=k:=(by omega);rw[e];exact hz⟩,⟨hF.size,hF.defers,hF.base⟩,HB⟩,?_⟩;rw[show a.eval (aI 3)=ag af ((k:Nat)+1) from(hF.g 0 rfl)];simp only[hk3];simp[intOf];omega
 replace hF:=hF.tl;refine wp_exit ?_;have Ut:k=s.size:=by simp at JE;omega
 have hres:kE s=true:=Rc h0 h1 fun i Ck hi2=>oO.2 i Ck oM;show F8 aq _ _ a W;refine fD [(2,aA true)] hF ?_;intro a W ho hF;replace HB:=HB.tr ho;refine ej ?_;exact a8 (bR rfl _ _ _) hF.defers ⟨congrArg bw (((hF.g 0 rfl):a.eval (aI 2)=aA true).trans (congrArg _ hres.symm)),HB⟩
def pq(l:List Mn)(i:Nat):Mn:=l.getD i ⟨⟨#[]⟩,0,0⟩
def zo(l:List Mn)(i:Nat)(h:i<l.length):pq l i=l[i]:=by simp[pq,h]
def xE(ml:List Mn)(g off:Nat)(W:ak):Prop:=g<W.heap.size/\∀i,i<ml.length->W.cell? ⟨g,off+i*3,none⟩=some (.string (pq ml i).name)/\W.cell? ⟨g,off+i*3+1,none⟩=some (ag af (pq ml i).lo)/\W.cell? ⟨g,off+i*3+2,none⟩=some (ag af (pq ml i).hi)
def xE.below{ml:List Mn}{g off:Nat}{W W':ak}(h:xE ml g off W)(ho:Bw W W'):xE ml g off W':=
 ⟨bD h.1 ho.size,fun i hi=>⟨(ho.cell (p:=⟨g,off+i*3,none⟩) h.1).trans (h.2 i hi).1,(ho.cell (p:=⟨g,off+i*3+1,none⟩) h.1).trans (h.2 i hi).2.1,(ho.cell (p:=⟨g,off+i*3+2,none⟩) h.1).trans (h.2 i hi).2.2⟩⟩
def Reads.bm{w:ak}{p:Option Addr}{n c:Nat}{ml:List Mn}(h:Reads w (ae p n c) n (eA ml))(k:Nat)(hk:k<ml.length):∃g off,p=some ⟨g,off,none⟩/\xE ml g off w:=by
 rcases h with⟨_,_,h⟩|⟨g,off,cap,h,_,hg,hc⟩
 .have:=congrArg List.length h;rw[pZ] at this;simp at this;omega
 cases h;refine⟨g,off,rfl,hg,fun i hi=>?_⟩;rw[zo ml i hi];exact zn hc i hi
def DU(a b:ByteArray):Bool:=a.toList==b.toList
def QB{a b:ByteArray}:DU a b=true↔a=b:=by
 unfold DU;constructor
 .intro h
  by_cases e:a=b
  .exact e
  exact absurd (by simpa using h) (Mx e)
 rintro rfl;simp
def twice(l:List Mn)(i:Nat):Bool:=(aQ i).any fun j=>DU (pq l j).name (pq l i).name
def He{l:List Mn}{i:Nat}(j:Nat)(hj:j<i)(h:DU (pq l j).name (pq l i).name=true):twice l i=true:=by
 unfold twice;rw[List.any_eq_true];exact⟨j,bQ.2 hj,h⟩
def S8{l:List Mn}{i:Nat}(h:∀j,j<i->DU (pq l j).name (pq l i).name=false):twice l i=false:=by
 unfold twice;rw[List.any_eq_false];intro j hj;rw[h j (bQ.1 hj)];simp
def qh(m:Mn):Bool:=(!(cC m.lo m.hi 1 99))||decide (m.hi-m.lo≥3)
def nC(l:List Mn)(i:Nat):Int:=if (!(kE (pq l i).name))=true then 4 else if twice l i=true then 5 else if qh (pq l i)=true then 1 else 0
def qA(l:List Mn):Int:=if (l.length:Int)>3 then 2 else(((aQ l.length).map (nC l)).find? fun h=>h !=0).getD 0
def Qq{lo hi:Int}(h:cC lo hi 1 99=true):IntKind.i64.wrap (hi-lo)=hi-lo:=by
 unfold cC at h;simp at h;rw[bO];omega
def Eu{l:List Mn}{i:Nat}(h:nC l i=0):kE (pq l i).name=true/\twice l i=false/\qh (pq l i)=false:=by
 unfold nC at h;cases h1:kE (pq l i).name<;>cases h2:twice l i<;>cases h3:qh (pq l i)<;>simp_all
def TS{l:List Mn}(h:qA l=0):uJ l:=by
 unfold qA at h
 have h3:(l.length:Int)<=3:=by
  refine Int.not_lt.1 fun h'=>?_;rw[if_pos h'] at h;cases h
 rw[if_neg oM] at h
 have hz:∀i,i<l.length->nC l i=0:=by
  intro i hi;refine fh fun hne=>?_
  have hs:((aQ l.length).map (nC l)).find? (fun h=>h !=0)≠none:=by
   rw[Ne,List.find?_eq_none];intro hall;exact hall _ (dm.2 ⟨i,bQ.2 hi,rfl⟩) (by simpa using hne)
  cases e:((aQ l.length).map (nC l)).find? (fun h=>h !=0) with
  |none=>exact hs e
  |some x=>
   rw[e] at h;have:=List.find?_some e;simp at h this;exact this h
 refine⟨fun m hm=>?_,fun i k hi hk hik he=>?_,oM⟩
 .obtain⟨i,hi,rfl⟩:=fZ hm;obtain⟨h1,-,h2⟩:=Eu (hz i hi);rw[zo l i hi] at h1 h2;unfold qh cC at h2;simp at h2;exact⟨NM h1,oM,oM,oM,oM⟩
 obtain⟨-,h2,-⟩:=Eu (hz k hk);have:=He (l:=l) i hik (QB.2 (by rw[zo l i hi,zo l k hk];exact he));rw[this] at h2;cases h2
def Jg{l:List Mn}(i:Nat)(h3:¬(l.length:Int)>3)(hi:i<l.length)(hpre:∀k,k<i->nC l k=0)(h:nC l i≠0):qA l=nC l i:=by
 unfold qA;rw[if_neg h3,zK _ _ i hi hpre h];rfl
def Q0{l:List Mn}(h3:¬(l.length:Int)>3)(hpre:∀k,k<l.length->nC l k=0):qA l=0:=by
 unfold qA;rw[if_neg h3,td _ _ hpre];rfl
def JO(b:BB)(aH az:aj)(p1:Option Addr)(c1:Nat)(ml:List Mn)(hlen:ml.length<=1000000)(w:ak)(hv:Reads w (ae p1 ml.length c1) ml.length (eA ml)):a_ aq 146 #[aN (b.cells (ae p1 ml.length c1) aH az)] w (Rt w (ag af (qA ml))):=by
 refine kP Tryz.func146 rfl rfl [(0,aN (b.cells (ae p1 ml.length c1) aH az))] ⟨iL rfl,trivial⟩ fun a hF=>?_;refine(fun h:∀W,Bw w W->F8 aq _ _ a W=>h w (ay _ _)) ?_;intro W HB;have HC:mQ (∀k,k<ml.length->∃g off,p1=some ⟨g,off,none⟩/\xE ml g off w):=ai fun k hk=>hv.bm k hk;clear hv
 refine nV [fun v ds w9=>∃B,v=pv B 0/\w9.heap[B]?=some (au (b.cells (ae p1 ml.length c1) aH az) 28 (0,0)),pV (ag af 0)]
  _ kQ hF.size hF.base ?_ ?_ ?_
 .refine⟨?_,sV,trivial⟩
  .rintro v ds w1 w2 hS ⟨B,h1,h2⟩ hb;exact⟨B,h1,aw h2 hb⟩
 .refine⟨?_,?_,trivial⟩<;>rintro ev w1 hS hc hg hf ⟨b0,-⟩ hd
  .refine F5 (v:=pv w1.heap.size 0) (w':=w1.alloc (au (b.cells (ae p1 ml.length c1) aH az) 28)) ?_ ⟨⟨_,rfl,ax _ _⟩,cz cY⟩;go_simp
  exact tV
 intro a W hR;have ho:=hR.s;obtain⟨B1,e1,K1⟩:=hR.val 0;replace e1:a.eval (aI 1)=pv B1 0:=e1;replace HB:=HB.tr ho;replace hF:=((hR.fr hF).cons (t:=1) e1).cons (t:=2) (hR.val 1);clear hR ho e1;refine dg ?_;refine rK ⟨[],[],[(B1,(b.cells (ae p1 ml.length c1) aH az))],[]⟩ [(9,aA (decide ((ml.length:Int)>3)))] hF hF ⟨fun w1 hS=>⟨_,_,aw K1 hS⟩,trivial⟩ trivial ?_;intro a W ho hF;replace HB:=HB.tr ho;replace K1:=aw K1 ho;refine cF (t:=(decide ((ml.length:Int)>3))) (hF.g 0 rfl) (fun Rs=>?_) (fun Rs=>?_)
 .replace hF:=hF.tl;have hres:qA ml=2:=by unfold qA;rw[if_pos (by simpa using Rs)]
  replace hF:=hF.tl;refine fD [(2,ag af 2)] hF ?_;intro a W ho hF;replace HB:=HB.tr ho;replace K1:=aw K1 ho;refine ej ?_;exact a8 (bR rfl _ _ _) hF.defers ⟨congrArg bw (((hF.g 0 rfl):a.eval (aI 2)=ag af 2).trans (congrArg _ hres.symm)),HB⟩
 replace hF:=hF.tl;have h3:¬(ml.length:Int)>3:=by simpa using Rs
 refine dA ?_;refine dg ?_;refine fD [(3,ag af 0)] hF ?_;intro a W ho hF;replace HB:=HB.tr ho;replace K1:=aw K1 ho;refine kg ?_;refine wp_loop (fun a W=>∃k:Nat,k<=ml.length/\(∀i,i<k->nC ml i=0)/\ik 54 a [(3,ag af (k:Nat)),(1,pv B1 0),(0,aN (b.cells (ae p1 ml.length c1) aH az))]/\Bw w W/\W.heap[B1]?=some (au (b.cells (ae p1 ml.length c1) aH az) 28 (0,0))) (fun a _=>ml.length-(intOf (a.eval (aI 3))).toNat) ⟨0,oM,fun i hi=>by omega,⟨hF.size,hF.defers,(by obtain⟨b3,-,b1,b0,-⟩:=hF.base;exact⟨b3,b1,b0,trivial⟩)⟩,HB,K1⟩ ?_;clear hF HB K1
 try clear a
 try clear W
 rintro a W ⟨k,rE,oO,hF,HB,K1⟩;have hk3:a.eval (aI 3)=ag af (k:Nat):=(hF.g 0 rfl)
 refine dg ?_;refine rK ⟨[],[],[(B1,(b.cells (ae p1 ml.length c1) aH az))],[]⟩ [(14,aA (decide ((k:Int)<(ml.length:Int))))] hF hF ⟨fun w1 hS=>⟨_,_,aw K1 hS⟩,trivial⟩ trivial ?_;intro a W ho hF;replace HB:=HB.tr ho;replace K1:=aw K1 ho;refine cF (t:=(decide ((k:Int)<(ml.length:Int)))) (hF.g 0 rfl) (fun Uw=>?_) (fun Uw=>?_)
 .replace hF:=hF.tl;have yb:k<ml.length:=by simpa using Uw
  obtain⟨g,off,rfl,hM⟩:=HC.out k yb;have CM:=hM.below HB;clear hM;obtain⟨m,hm⟩:∃m,pq ml k=m:=⟨_,rfl⟩
  have hw1:IntKind.i64.wrap ((k:Int)+1)=(k:Int)+1:=by rw[bO];omega
  refine dA ?_;refine dg ?_;refine kg ?_
  refine nV [pV (pv B1 12),pV (ae (some ⟨g,off,none⟩) ml.length c1),pV (ag af (k:Nat)),pV (dB (some ⟨g,off+k*3,none⟩)),pV (aN #[.string m.name,ag af m.lo,ag af m.hi]),fun v ds w9=>∃B,∃z:Array aj,v=pv B 0/\w9.heap[B]?=some (au z 79 (0,0))/\z.size=3/\W.heap.size<=B,fun v ds w9=>∃B,ds[0]?=some (pv B 0)/\W.heap.size<=B/\w9.heap[B]?=some (au #[.string m.name,ag af m.lo,ag af m.hi] 79 (0,0))]
   _ kQ hF.size hF.base ?_ ?_ ?_
  .refine⟨sV,sV,sV,sV,sV,?_,?_,trivial⟩
   .rintro v ds w1 w2 hS ⟨B,z,h1,h2,h3,h4⟩ hb;exact⟨B,z,h1,aw h2 hb,h3,h4⟩
   rintro v ds w1 w2 hS ⟨B,h1,h4,h2⟩ hb;exact⟨B,h1,h4,aw h2 hb⟩
  .refine⟨?_,?_,?_,?_,?_,?_,?_,trivial⟩<;>rintro ev w1 hS hc hg hf ⟨b3,b1,-,-⟩ hd
   all_goals try
    refine yw rfl ?_ rfl;go_simp;done
   .have d0:ev (aI 17)=_:=hd.1 rfl;have z:=aK (aw K1 hS) 12 _ rfl;exact tV
   .have d1:ev (aI 18)=_:=hd.1 rfl;have d2:ev (aI 19)=_:=hd.2.1 rfl;have Ck:¬(ml.length<=k):=oM;exact tV
   .have d3:ev (aI 20)=_:=hd.1 rfl;obtain⟨z1,z2,z3⟩:=(xE.below CM hS).2 k oM;rw[hm] at z1 z2 z3;exact tV
   .refine F5 (v:=pv w1.heap.size 0) (w':=w1.alloc (au #[.string ⟨#[]⟩,ag af 0,ag af 0] 79)) ?_ ⟨⟨_,_,rfl,ax _ _,rfl,hS.size⟩,cz cY⟩;go_simp
   .have d5:∃B,∃z:Array aj,(ev (aI 4))=pv B 0/\w1.heap[B]?=some (au z 79 (0,0))/\z.size=3/\W.heap.size<=B:=hd.1 rfl;have d4:ev (aI 21)=_:=hd.2.1 rfl;obtain⟨B,z,eB,hB,hz,hge⟩:=d5;refine Lag.Yields.ia 79 _ _ rfl B #[.string m.name,ag af m.lo,ag af m.hi] eB d4 79 z hB kQ hz (by simp[bK]) ⟨⟨B,congrArg some eB,hge,bX hB⟩,.inr ⟨cS hS hge,?_⟩⟩;intro j u ds hj hp
    match j,hp with
    |0,hp|1,hp|2,hp|3,hp|4,hp=>exact hp
    |5,⟨B',z',h1,h2,h3,h4⟩=>
     by_cases o6:B'=B
     .subst o6;rw[hB] at h2;cases h2;exact⟨B',_,h1,bX hB,hz.symm.trans h3,h4⟩
     exact⟨B',z',h1,(setRow_other o6).trans h2,h3,h4⟩
    |6,_=>exact(hj rfl).elim
    |j+7,_=>trivial
  intro a W hR;have ho:=hR.s;obtain⟨B4,q4,-,K4⟩:=hR.val 6;have e4:a.eval (aI 4)=pv B4 0:=a7 q4;clear q4;replace HB:=HB.tr ho;replace K1:=aw K1 ho;replace CM:=CM.below ho;replace hF:=(hR.fr hF).cons (t:=4) e4;clear hR ho e4;refine dg ?_;refine rK ⟨[],[(2,aA (kE m.name))],[(B4,#[.string m.name,ag af m.lo,ag af m.hi])],[]⟩ [(25,aA (!(kE m.name)))] hF hF ⟨fun w1 hS=>⟨_,_,aw K4 hS⟩,trivial⟩ ⟨fun w1 hS _=>gc (Rb m.name w1),trivial⟩ ?_;intro a W ho hF;replace HB:=HB.tr ho;replace K1:=aw K1 ho;replace CM:=CM.below ho;replace K4:=aw K4 ho;refine cF (t:=(!(kE m.name))) (hF.g 0 rfl) (fun JC=>?_) (fun JC=>?_)
  .replace hF:=hF.tl;have h4:nC ml k=4:=by unfold nC;rw[hm,if_pos JC]
   have hres:qA ml=4:=(Jg k h3 yb oO (by rw[h4];decide)).trans h4;refine fD [(2,ag af 4)] hF ?_;intro a W ho hF;replace HB:=HB.tr ho;replace K1:=aw K1 ho;replace CM:=CM.below ho;replace K4:=aw K4 ho;refine ej ?_;exact a8 (bR rfl _ _ _) hF.defers ⟨congrArg bw (((hF.g 0 rfl):a.eval (aI 2)=ag af 4).trans (congrArg _ hres.symm)),HB⟩
  replace hF:=hF.tl;have Ro:(!(kE m.name))≠true:=by rw[JC];simp
  refine dA ?_;refine dg ?_;refine fD [(5,ag af 0)] hF ?_;intro a W ho hF;replace HB:=HB.tr ho;replace K1:=aw K1 ho;replace CM:=CM.below ho;replace K4:=aw K4 ho;refine kg ?_;refine wp_loop (fun a W=>∃j:Nat,j<=k/\(∀i,i<j->DU (pq ml i).name m.name=false)/\ik 54 a [(5,ag af (j:Nat)),(4,pv B4 0),(3,ag af (k:Nat)),(1,pv B1 0),(0,aN (b.cells (ae (some ⟨g,off,none⟩) ml.length c1) aH az))]/\Bw w W/\W.heap[B1]?=some (au (b.cells (ae (some ⟨g,off,none⟩) ml.length c1) aH az) 28 (0,0))/\xE ml g off W/\W.heap[B4]?=some (au #[.string m.name,ag af m.lo,ag af m.hi] 79 (0,0))) (fun a _=>k-(intOf (a.eval (aI 5))).toNat) ⟨0,oM,fun i hi=>by omega,⟨hF.size,hF.defers,hF.base⟩,HB,K1,CM,K4⟩ ?_;clear hF HB K1 CM K4
  try clear a
  try clear W
  rintro a W ⟨j,hkj,YH,hF,HB,K1,CM,K4⟩;have hk5:a.eval (aI 5)=ag af (j:Nat):=(hF.g 0 rfl)
  refine dg ?_;refine fD [(28,aA (decide ((j:Int)<(k:Int))))] hF ?_;intro a W ho hF;replace HB:=HB.tr ho;replace K1:=aw K1 ho;replace CM:=CM.below ho;replace K4:=aw K4 ho;refine cF (t:=(decide ((j:Int)<(k:Int)))) (hF.g 0 rfl) (fun aaH=>?_) (fun aaH=>?_)
  .replace hF:=hF.tl;have agY:j<k:=by simpa using aaH
   have hw2:IntKind.i64.wrap ((j:Int)+1)=(j:Int)+1:=by rw[bO];omega
   refine dA ?_;refine dg ?_;refine kg ?_
   refine Cv kQ [pV (pv B1 12),pV (ae (some ⟨g,off,none⟩) ml.length c1),pV (ag af (j:Nat)),pV (dB (some ⟨g,off+j*3,none⟩)),pV (dB (some ⟨g,off+j*3,none⟩)),pV (.string (pq ml j).name),pV (pv B4 0),pV (.string m.name),pV (aA (((pq ml j).name).toList==m.name.toList))]
    _ kQ hF.size hF.base ?_ ?_ ?_
   .exact⟨sV,sV,sV,sV,sV,sV,sV,sV,sV,trivial⟩
   .refine⟨?_,?_,?_,?_,?_,?_,?_,?_,?_,trivial⟩<;>rintro ev w1 hS hc hg hf ⟨b5,b4,-,b1,-,-⟩ hd
    all_goals try
     try have d0:ev (aI _)=_:=hd.1 rfl
     try have d1:ev (aI _)=_:=hd.2.1 rfl
     refine yw rfl ?_ rfl;go_simp;done
    .have d0:ev (aI 31)=_:=hd.1 rfl;have z:=aK (aw K1 hS) 12 _ rfl;exact tV
    .have d1:ev (aI 32)=_:=hd.1 rfl;have d2:ev (aI 33)=_:=hd.2.1 rfl;have Ck:¬(ml.length<=j):=oM;exact tV
    .have d4:ev (aI 35)=_:=hd.1 rfl;obtain⟨z1,z2,z3⟩:=(xE.below CM hS).2 j oM;exact tV
    have d6:ev (aI 37)=_:=hd.1 rfl;have z:=aK (aw K4 hS) 0 _ rfl;exact tV
   intro a W hR;have ho:=hR.s;replace HB:=HB.tr ho;replace K1:=aw K1 ho;replace CM:=CM.below ho;replace K4:=aw K4 ho;replace hF:=(hR.fr hF).cons (t:=39) (hR.val 8);clear hR ho;refine cF (t:=(((pq ml j).name).toList==m.name.toList)) (hF.g 0 rfl) (fun aaE=>?_) (fun aaE=>?_)
   .replace hF:=hF.tl;have h5:nC ml k=5:=by unfold nC;rw[hm,if_neg Ro,if_pos (He j agY (by rw[hm];exact aaE))]
    have hres:qA ml=5:=(Jg k h3 yb oO (by rw[h5];decide)).trans h5;refine fD [(2,ag af 5)] hF ?_;intro a W ho hF;replace HB:=HB.tr ho;replace K1:=aw K1 ho;replace CM:=CM.below ho;replace K4:=aw K4 ho;refine ej ?_;exact a8 (bR rfl _ _ _) hF.defers ⟨congrArg bw (((hF.g 0 rfl):a.eval (aI 2)=ag af 5).trans (congrArg _ hres.symm)),HB⟩
   replace hF:=hF.tl;have hz:DU (pq ml j).name m.name=false:=aaE;refine dA ?_;have qF:=hF;replace hF:=hF.tl;refine M6 ⟨[],[(1,ag af ((j:Nat)+1))],[],[]⟩ [(5,ag af ((j:Nat)+1))] qF hF trivial ⟨fun w1 hS _=>ge (congrArg (aD af) (show IntKind.i64.wrap ((j:Nat)+1)=((j:Nat)+1) by rw[bO];omega)),trivial⟩ ?_;intro a W ho hF;clear qF;replace HB:=HB.tr ho;replace K1:=aw K1 ho;replace CM:=CM.below ho;replace K4:=aw K4 ho;refine⟨⟨j+1,oM,fun i hi=>if hik:i<j then YH i hik else by have e:i=j:=(by omega);rw[e];exact hz,⟨hF.size,hF.defers,hF.base⟩,HB,K1,CM,K4⟩,?_⟩;rw[show a.eval (aI 5)=ag af ((j:Nat)+1) from(hF.g 0 rfl)];simp only[hk5];simp[intOf];omega
  replace hF:=hF.tl;refine wp_exit ?_;have ajY:j=k:=by simp at aaH;omega
  have htw:twice ml k=false:=S8 fun i hi=>by rw[hm];exact YH i oM
  show F8 aq _ _ a W
  refine nV [pV (pv B4 1),pV (aN #[ag af m.lo,ag af m.hi]),pV (aA (cC m.lo m.hi 1 99)),pV (aA (!(cC m.lo m.hi 1 99))),pV (aA (!(cC m.lo m.hi 1 99))),pC (!(!(cC m.lo m.hi 1 99))) (pv B4 1),pC (!(!(cC m.lo m.hi 1 99))) (pv B4 2),pC (!(!(cC m.lo m.hi 1 99))) (ag af m.hi),pC (!(!(cC m.lo m.hi 1 99))) (pv B4 1),pC (!(!(cC m.lo m.hi 1 99))) (pv B4 1),pC (!(!(cC m.lo m.hi 1 99))) (ag af m.lo),pC (!(!(cC m.lo m.hi 1 99))) (ag af (m.hi-m.lo)),pC (!(!(cC m.lo m.hi 1 99))) (aA (decide ((m.hi-m.lo)≥3))),pV (aA ((!(cC m.lo m.hi 1 99))||(decide ((m.hi-m.lo)≥3))))]
   _ kQ hF.size hF.base ?_ ?_ ?_
  .exact⟨sV,sV,sV,sV,sV,sC,sC,sC,sC,sC,sC,sC,sC,sV,trivial⟩
  .refine⟨?_,?_,?_,?_,?_,?_,?_,?_,?_,?_,?_,?_,?_,?_,trivial⟩<;>rintro ev w1 hS hc hg hf ⟨-,b4,-,-,-,-⟩ hd
   all_goals try
    try have d0:ev (aI _)=_:=hd.1 rfl
    refine yw rfl ?_ rfl;go_simp;done
   all_goals try
    try have d0:ev (aI _)=_:=hd.1 rfl
    try have c0:_->ev (aI _)=_:=hd.1 rfl
    try have d1:ev (aI _)=_:=hd.2.1 rfl
    first|refine gC d0 mE fun hA=>?_|refine gC d1 mE fun hA=>?_
    try replace c0:=c0 hA
    refine yw rfl ?_ (fun _=>rfl);go_simp;done
   .have d0:ev (aI 40)=_:=hd.1 rfl;have z1:=aK (aw K4 hS) 1 _ rfl;have z2:=aK (aw K4 hS) 2 _ rfl;exact tV
   .have d1:ev (aI 41)=_:=hd.1 rfl;refine yc (rC m.lo m.hi 1 99 w1) ?_ (fun _=>rfl);go_simp
   .have d6:_->ev (aI 46)=_:=hd.1 rfl;have d4:ev (aI 44)=_:=hd.2.1 rfl;refine gC d4 mE fun hA=>?_;have y6:=d6 hA;have z:=aK (aw K4 hS) 2 _ rfl;refine yv ?_ (fun _=>rfl);go_simp
   .have d9:_->ev (aI 49)=_:=hd.1 rfl;have d4:ev (aI 44)=_:=hd.2.1 rfl;refine gC d4 mE fun hA=>?_;have y9:=d9 hA;have z:=aK (aw K4 hS) 1 _ rfl;refine yv ?_ (fun _=>rfl);go_simp
   .have d7:_->ev (aI 47)=_:=hd.1 rfl;have d10:_->ev (aI 50)=_:=hd.2.1 rfl;have d4:ev (aI 44)=_:=hd.2.2.1 rfl;refine gC d4 mE fun hA=>?_;have y7:=d7 hA;have M7:=d10 hA;have hw:=Qq (lo:=m.lo) (hi:=m.hi) (by revert hA;cases cC m.lo m.hi 1 99<;>simp);refine yv ?_ (fun _=>rfl);go_simp
   have d4:ev (aI 44)=_:=hd.1 rfl;have d12:_->ev (aI 52)=_:=hd.2.1 rfl;exact yO rfl hc d4 (fun hq=>d12 (by simp[hq])) (rfl)
  intro a W hR;have ho:=hR.s;replace HB:=HB.tr ho;replace K1:=aw K1 ho;replace CM:=CM.below ho;replace K4:=aw K4 ho;replace hF:=(hR.fr hF).cons (t:=53) (hR.val 13);clear hR ho;refine cF (t:=((!(cC m.lo m.hi 1 99))||(decide ((m.hi-m.lo)≥3)))) (hF.g 0 rfl) (fun aaC=>?_) (fun aaC=>?_)
  .replace hF:=hF.tl;have h1:nC ml k=1:=by unfold nC;rw[hm,if_neg Ro,if_neg (by rw[htw];simp),if_pos (show qh m=true from aaC)]
   have hres:qA ml=1:=(Jg k h3 yb oO (by rw[h1];decide)).trans h1;refine fD [(2,ag af 1)] hF ?_;intro a W ho hF;replace HB:=HB.tr ho;replace K1:=aw K1 ho;replace CM:=CM.below ho;replace K4:=aw K4 ho;refine ej ?_;exact a8 (bR rfl _ _ _) hF.defers ⟨congrArg bw (((hF.g 0 rfl):a.eval (aI 2)=ag af 1).trans (congrArg _ hres.symm)),HB⟩
  replace hF:=hF.tl;have hz:nC ml k=0:=by unfold nC;rw[hm,if_neg Ro,if_neg (by rw[htw];simp),if_neg (by rw[show qh m=_ from aaC];simp)]
  refine dA ?_;have qF:=hF;replace hF:=hF.del 3;simp only[jn,bq,reduceIte] at hF;refine M6 ⟨[],[(1,ag af ((k:Nat)+1))],[],[]⟩ [(3,ag af ((k:Nat)+1))] qF hF trivial ⟨fun w1 hS _=>ge (congrArg (aD af) (show IntKind.i64.wrap ((k:Nat)+1)=((k:Nat)+1) by rw[bO];omega)),trivial⟩ ?_;intro a W ho hF;clear qF;replace HB:=HB.tr ho;replace K1:=aw K1 ho;replace CM:=CM.below ho;replace K4:=aw K4 ho;refine⟨⟨k+1,oM,fun i hi=>if hik:i<k then oO i hik else by have e:i=k:=(by omega);rw[e];exact hz,⟨hF.size,hF.defers,(by obtain⟨b3,-,-,b1,b0,-⟩:=hF.base;exact⟨b3,b1,b0,trivial⟩)⟩,HB,K1⟩,?_⟩;rw[show a.eval (aI 3)=ag af ((k:Nat)+1) from(hF.g 0 rfl)];simp only[hk3];simp[intOf];omega
 replace hF:=hF.tl;refine wp_exit ?_;have Ut:k=ml.length:=by simp at Uw;omega
 have hres:qA ml=0:=Q0 h3 fun i hi=>oO i oM;show F8 aq _ _ a W;refine fD [(2,ag af 0)] hF ?_;intro a W ho hF;replace HB:=HB.tr ho;replace K1:=aw K1 ho;refine ej ?_;exact a8 (bR rfl _ _ _) hF.defers ⟨congrArg bw (((hF.g 0 rfl):a.eval (aI 2)=ag af 0).trans (congrArg _ hres.symm)),HB⟩
def Jf(l:List Mk)(i:Nat):Mk:=l.getD i ⟨0,0,0⟩
def KZ(l:List Mk)(i:Nat)(h:i<l.length):Jf l i=l[i]:=by simp[Jf,h]
def OP(ms:List Mk)(g off:Nat)(W:ak):Prop:=g<W.heap.size/\∀i,i<ms.length->W.cell? ⟨g,off+i*3,none⟩=some (ag af (Jf ms i).minute)/\W.cell? ⟨g,off+i*3+1,none⟩=some (ag af (Jf ms i).lo)/\W.cell? ⟨g,off+i*3+2,none⟩=some (ag af (Jf ms i).hi)
def OP.below{ml:List Mk}{g off:Nat}{W W':ak}(h:OP ml g off W)(ho:Bw W W'):OP ml g off W':=
 ⟨bD h.1 ho.size,fun i hi=>⟨(ho.cell (p:=⟨g,off+i*3,none⟩) h.1).trans (h.2 i hi).1,(ho.cell (p:=⟨g,off+i*3+1,none⟩) h.1).trans (h.2 i hi).2.1,(ho.cell (p:=⟨g,off+i*3+2,none⟩) h.1).trans (h.2 i hi).2.2⟩⟩
def Reads.mks{w:ak}{p:Option Addr}{n c:Nat}{ms:List Mk}(h:Reads w (ae p n c) n (dM ms))(k:Nat)(hk:k<ms.length):∃g off,p=some ⟨g,off,none⟩/\OP ms g off w:=by
 rcases h with⟨_,_,h⟩|⟨g,off,cap,h,_,hg,hc⟩
 .have:=congrArg List.length h;rw[p_] at this;simp at this;omega
 cases h;refine⟨g,off,rfl,hg,fun i hi=>?_⟩;rw[KZ ms i hi];exact wC hc i hi
def zm(l:List Mn)(i:Nat):Bool:=decide (((pq l i).name.size:Int)>100)
def JH(ml:List Mn)(ss:List Int)(ms:List Mk):Bool:=(decide ((ml.length:Int)>20)||decide ((ss.length:Int)>20))||decide ((ms.length:Int)>20)
def jU(ml:List Mn)(ss:List Int)(ms:List Mk):Bool:=JH ml ss ms||(aQ ml.length).any (zm ml)
def oh(b:BB)(ms:List Mk)(i:Nat):Int:=if (!(aV (Jf ms i).minute 1 b.minutes))=true then 6 else if (!(cC (Jf ms i).lo (Jf ms i).hi 0 99))=true then 1 else 0
def tY(b:BB)(ms:List Mk):Int:=if (ms.length:Int)>3 then 2 else(((aQ ms.length).map (oh b ms)).find? fun h=>h !=0).getD 0
def Hq{b:BB}{l:List Mk}(i:Nat)(h3:¬(l.length:Int)>3)(hi:i<l.length)(hpre:∀k,k<i->oh b l k=0)(h:oh b l i≠0):tY b l=oh b l i:=by
 unfold tY;rw[if_neg h3,zK _ _ i hi hpre h];rfl
def K8{b:BB}{l:List Mk}(h3:¬(l.length:Int)>3)(hpre:∀k,k<l.length->oh b l k=0):tY b l=0:=by
 unfold tY;rw[if_neg h3,td _ _ hpre];rfl
def nu(b:BB)(ml:List Mn)(ss:List Int)(ms:List Mk):Int:=if (oY b !=0)=true then oY b else if (qA ml !=0)=true then qA ml else if (lM b ss !=0)=true then lM b ss else tY b ms
def RF(b:BB)(p1 p2 p3:Option Addr)(c1 c2 c3:Nat)(ml:List Mn)(ss:List Int)(ms:List Mk)(w:ak)(hv:Reads w (ae p1 ml.length c1) ml.length (eA ml)):a_ aq 18 #[aN (b.sl p1 ml.length c1 p2 ss.length c2 p3 ms.length c3)] w (Rt w (aA (jU ml ss ms))):=by
 refine kP Tryz.func18 rfl rfl [(0,aN (b.sl p1 ml.length c1 p2 ss.length c2 p3 ms.length c3))] ⟨iL rfl,trivial⟩ fun a hF=>?_;refine(fun h:∀W,Bw w W->F8 aq _ _ a W=>h w (ay _ _)) ?_;intro W HB;have HC:mQ (∀k,k<ml.length->∃g off,p1=some ⟨g,off,none⟩/\xE ml g off w):=ai fun k hk=>hv.bm k hk;clear hv
 refine nV [fun v ds w9=>∃B,v=pv B 0/\w9.heap[B]?=some (au (b.sl p1 ml.length c1 p2 ss.length c2 p3 ms.length c3) 28 (0,0)),pV (aA false)]
  _ kQ hF.size hF.base ?_ ?_ ?_
 .refine⟨?_,sV,trivial⟩
  .rintro v ds w1 w2 hS ⟨B,h1,h2⟩ hb;exact⟨B,h1,aw h2 hb⟩
 .refine⟨?_,?_,trivial⟩<;>rintro ev w1 hS hc hg hf ⟨b0,-⟩ hd
  .refine F5 (v:=pv w1.heap.size 0) (w':=w1.alloc (au (b.sl p1 ml.length c1 p2 ss.length c2 p3 ms.length c3) 28)) ?_ ⟨⟨_,rfl,ax _ _⟩,cz cY⟩;go_simp
  exact tV
 intro a W hR;have ho:=hR.s;obtain⟨B1,e1,K1⟩:=hR.val 0;replace e1:a.eval (aI 1)=pv B1 0:=e1;replace HB:=HB.tr ho;replace hF:=((hR.fr hF).cons (t:=1) e1).cons (t:=2) (hR.val 1);clear hR ho e1;refine dg ?_;refine rK ⟨[],[],[(B1,(b.sl p1 ml.length c1 p2 ss.length c2 p3 ms.length c3))],[]⟩ [(19,aA (((decide ((ml.length:Int)>20))||(decide ((ss.length:Int)>20)))||(decide ((ms.length:Int)>20))))] hF hF ⟨fun w1 hS=>⟨_,_,aw K1 hS⟩,trivial⟩ trivial ?_;intro a W ho hF;replace HB:=HB.tr ho;replace K1:=aw K1 ho;refine cF (t:=(((decide ((ml.length:Int)>20))||(decide ((ss.length:Int)>20)))||(decide ((ms.length:Int)>20)))) (hF.g 0 rfl) (fun N6=>?_) (fun N6=>?_)
 .replace hF:=hF.tl;have hres:jU ml ss ms=true:=by unfold jU;rw[show JH ml ss ms=true from N6];rfl
  replace hF:=hF.tl;refine fD [(2,aA true)] hF ?_;intro a W ho hF;replace HB:=HB.tr ho;replace K1:=aw K1 ho;refine ej ?_;exact a8 (bR rfl _ _ _) hF.defers ⟨congrArg bw (((hF.g 0 rfl):a.eval (aI 2)=aA true).trans (congrArg _ hres.symm)),HB⟩
 replace hF:=hF.tl;have h20:ml.length<=20:=by revert N6;simp;omega
 refine dA ?_;refine dg ?_;refine fD [(3,ag af 0)] hF ?_;intro a W ho hF;replace HB:=HB.tr ho;replace K1:=aw K1 ho;refine kg ?_;refine wp_loop (fun a W=>∃k:Nat,k<=ml.length/\(∀i,i<k->zm ml i=false)/\ik 35 a [(3,ag af (k:Nat)),(1,pv B1 0),(0,aN (b.sl p1 ml.length c1 p2 ss.length c2 p3 ms.length c3))]/\Bw w W/\W.heap[B1]?=some (au (b.sl p1 ml.length c1 p2 ss.length c2 p3 ms.length c3) 28 (0,0))) (fun a _=>ml.length-(intOf (a.eval (aI 3))).toNat) ⟨0,oM,fun i hi=>by omega,⟨hF.size,hF.defers,(by obtain⟨b3,-,b1,b0,-⟩:=hF.base;exact⟨b3,b1,b0,trivial⟩)⟩,HB,K1⟩ ?_;clear hF HB K1
 try clear a
 try clear W
 rintro a W ⟨k,rE,oO,hF,HB,K1⟩;have hk3:a.eval (aI 3)=ag af (k:Nat):=(hF.g 0 rfl)
 refine dg ?_;refine rK ⟨[],[],[(B1,(b.sl p1 ml.length c1 p2 ss.length c2 p3 ms.length c3))],[]⟩ [(24,aA (decide ((k:Int)<(ml.length:Int))))] hF hF ⟨fun w1 hS=>⟨_,_,aw K1 hS⟩,trivial⟩ trivial ?_;intro a W ho hF;replace HB:=HB.tr ho;replace K1:=aw K1 ho;refine cF (t:=(decide ((k:Int)<(ml.length:Int)))) (hF.g 0 rfl) (fun JD=>?_) (fun JD=>?_)
 .replace hF:=hF.tl;have yb:k<ml.length:=by simpa using JD
  obtain⟨g,off,rfl,hM⟩:=HC.out k yb;have CM:=hM.below HB;clear hM;obtain⟨m,hm⟩:∃m,pq ml k=m:=⟨_,rfl⟩
  have hw1:IntKind.i64.wrap ((k:Int)+1)=(k:Int)+1:=by rw[bO];omega
  refine dA ?_;refine dg ?_;refine kg ?_
  refine nV [pV (pv B1 12),pV (ae (some ⟨g,off,none⟩) ml.length c1),pV (ag af (k:Nat)),pV (dB (some ⟨g,off+k*3,none⟩)),pV (dB (some ⟨g,off+k*3,none⟩)),pV (.string m.name),pV (ag af (m.name.size:Int)),pV (aA (decide ((m.name.size:Int)>100)))]
   _ kQ hF.size hF.base ?_ ?_ ?_
  .exact⟨sV,sV,sV,sV,sV,sV,sV,sV,trivial⟩
  .refine⟨?_,?_,?_,?_,?_,?_,?_,?_,trivial⟩<;>rintro ev w1 hS hc hg hf ⟨b3,b1,-,-⟩ hd
   all_goals try
    try have d0:ev (aI _)=_:=hd.1 rfl
    refine yw rfl ?_ rfl;go_simp;done
   .have d0:ev (aI 27)=_:=hd.1 rfl;have z:=aK (aw K1 hS) 12 _ rfl;exact tV
   .have d1:ev (aI 28)=_:=hd.1 rfl;have d2:ev (aI 29)=_:=hd.2.1 rfl;have Ck:¬(ml.length<=k):=oM;exact tV
   have d4:ev (aI 31)=_:=hd.1 rfl;obtain⟨z1,z2,z3⟩:=(xE.below CM hS).2 k oM;rw[hm] at z1 z2 z3;exact tV
  intro a W hR;have ho:=hR.s;replace HB:=HB.tr ho;replace K1:=aw K1 ho;replace CM:=CM.below ho;replace hF:=(hR.fr hF).cons (t:=34) (hR.val 7);clear hR ho;refine cF (t:=(decide ((m.name.size:Int)>100))) (hF.g 0 rfl) (fun aaF=>?_) (fun aaF=>?_)
  .replace hF:=hF.tl;have hres:jU ml ss ms=true:=by unfold jU;rw[Bool.or_eq_true];right;rw[List.any_eq_true];exact⟨k,bQ.2 yb,by unfold zm;rw[hm];exact aaF⟩
   refine fD [(2,aA true)] hF ?_;intro a W ho hF;replace HB:=HB.tr ho;replace K1:=aw K1 ho;replace CM:=CM.below ho;refine ej ?_;exact a8 (bR rfl _ _ _) hF.defers ⟨congrArg bw (((hF.g 0 rfl):a.eval (aI 2)=aA true).trans (congrArg _ hres.symm)),HB⟩
  replace hF:=hF.tl;have hz:zm ml k=false:=by unfold zm;rw[hm];exact aaF
  refine dA ?_;have qF:=hF;replace hF:=hF.tl;refine M6 ⟨[],[(1,ag af ((k:Nat)+1))],[],[]⟩ [(3,ag af ((k:Nat)+1))] qF hF trivial ⟨fun w1 hS _=>ge (congrArg (aD af) (show IntKind.i64.wrap ((k:Nat)+1)=((k:Nat)+1) by rw[bO];omega)),trivial⟩ ?_;intro a W ho hF;clear qF;replace HB:=HB.tr ho;replace K1:=aw K1 ho;replace CM:=CM.below ho;refine⟨⟨k+1,oM,fun i hi=>if hik:i<k then oO i hik else by have e:i=k:=(by omega);rw[e];exact hz,⟨hF.size,hF.defers,hF.base⟩,HB,K1⟩,?_⟩;rw[show a.eval (aI 3)=ag af ((k:Nat)+1) from(hF.g 0 rfl)];simp only[hk3];simp[intOf];omega
 replace hF:=hF.tl;refine wp_exit ?_;have Ut:k=ml.length:=by simp at JD;omega
 have hres:jU ml ss ms=false:=by
  unfold jU;rw[show JH ml ss ms=false from N6,Bool.false_or,List.any_eq_false];intro i hi;rw[oO i (by have:=bQ.1 hi;omega)];simp
 show F8 aq _ _ a W;refine fD [(2,aA false)] hF ?_;intro a W ho hF;replace HB:=HB.tr ho;replace K1:=aw K1 ho;refine ej ?_;exact a8 (bR rfl _ _ _) hF.defers ⟨congrArg bw (((hF.g 0 rfl):a.eval (aI 2)=aA false).trans (congrArg _ hres.symm)),HB⟩
def KL(b:BB)(p1 p2 p3:Option Addr)(c1 c2 c3:Nat)(ml:List Mn)(ss:List Int)(ms:List Mk)(hl:ml.length<=20/\ss.length<=20)(w:ak)(hv:Reads w (ae p1 ml.length c1) ml.length (eA ml))(hu:Reads w (ae p2 ss.length c2) ss.length (ss.map (aD af)))(hk3:Reads w (ae p3 ms.length c3) ms.length (dM ms)):a_ aq 72 #[aN (b.sl p1 ml.length c1 p2 ss.length c2 p3 ms.length c3)] w (Rt w (ag af (nu b ml ss ms))):=by
 refine kP Tryz.func72 rfl rfl [(0,aN (b.sl p1 ml.length c1 p2 ss.length c2 p3 ms.length c3))] ⟨iL rfl,trivial⟩ fun a hF=>?_;refine(fun h:∀W,Bw w W->F8 aq _ _ a W=>h w (ay _ _)) ?_;intro W HB;have HC:mQ (∀k,k<ms.length->∃g off,p3=some ⟨g,off,none⟩/\OP ms g off w):=ai fun k hk=>hk3.mks k hk;clear hk3
 refine nV [fun v ds w9=>∃B,v=pv B 0/\w9.heap[B]?=some (au (b.sl p1 ml.length c1 p2 ss.length c2 p3 ms.length c3) 28 (0,0)),pV (ag af 0)]
  _ kQ hF.size hF.base ?_ ?_ ?_
 .refine⟨?_,sV,trivial⟩
  .rintro v ds w1 w2 hS ⟨B,h1,h2⟩ hb;exact⟨B,h1,aw h2 hb⟩
 .refine⟨?_,?_,trivial⟩<;>rintro ev w1 hS hc hg hf ⟨b0,-⟩ hd
  .refine F5 (v:=pv w1.heap.size 0) (w':=w1.alloc (au (b.sl p1 ml.length c1 p2 ss.length c2 p3 ms.length c3) 28)) ?_ ⟨⟨_,rfl,ax _ _⟩,cz cY⟩;go_simp
  exact tV
 intro a W hR;have ho:=hR.s;obtain⟨B1,e1,K1⟩:=hR.val 0;replace e1:a.eval (aI 1)=pv B1 0:=e1;replace HB:=HB.tr ho;replace hF:=((hR.fr hF).cons (t:=1) e1).cons (t:=2) (hR.val 1);clear hR ho e1;refine dg ?_;refine rK ⟨[],[(1,ag af (oY b))],[(B1,(b.sl p1 ml.length c1 p2 ss.length c2 p3 ms.length c3))],[]⟩ [(3,ag af (oY b))] hF hF ⟨fun w1 hS=>⟨_,_,aw K1 hS⟩,trivial⟩ ⟨fun w1 hS _=>gc (Gx b (ae p1 ml.length c1) (ae p2 ss.length c2) (ae p3 ms.length c3) w1),trivial⟩ ?_;intro a W ho hF;replace HB:=HB.tr ho;replace K1:=aw K1 ho;refine fD [(10,aA ((oY b) !=0))] hF ?_;intro a W ho hF;replace HB:=HB.tr ho;replace K1:=aw K1 ho;refine cF (t:=((oY b) !=0)) (hF.g 0 rfl) (fun N7=>?_) (fun N7=>?_)
 .replace hF:=hF.tl;have hres:nu b ml ss ms=oY b:=by unfold nu;rw[if_pos N7]
  replace hF:=hF.del 2;simp only[jn,bq,reduceIte] at hF;refine fD [(2,ag af (oY b))] hF ?_;intro a W ho hF;replace HB:=HB.tr ho;replace K1:=aw K1 ho;refine ej ?_;exact a8 (bR rfl _ _ _) hF.defers ⟨congrArg bw (((hF.g 0 rfl):a.eval (aI 2)=ag af (oY b)).trans (congrArg _ hres.symm)),HB⟩
 replace hF:=hF.tl;refine dA ?_;refine dg ?_;refine rK ⟨[],[(1,ag af (qA ml))],[(B1,(b.sl p1 ml.length c1 p2 ss.length c2 p3 ms.length c3))],[]⟩ [(4,ag af (qA ml))] hF hF ⟨fun w1 hS=>⟨_,_,aw K1 hS⟩,trivial⟩ ⟨fun w1 hS _=>gc (args:=#[aN (b.sl p1 ml.length c1 p2 ss.length c2 p3 ms.length c3)]) (JO b (ae p2 ss.length c2) (ae p3 ms.length c3) _ _ ml oM w1 (hv.below (HB.tr hS))),trivial⟩ ?_;intro a W ho hF;replace HB:=HB.tr ho;replace K1:=aw K1 ho;refine fD [(15,aA ((qA ml) !=0))] hF ?_;intro a W ho hF;replace HB:=HB.tr ho;replace K1:=aw K1 ho;refine cF (t:=((qA ml) !=0)) (hF.g 0 rfl) (fun XG=>?_) (fun XG=>?_)
 .replace hF:=hF.tl;have hres:nu b ml ss ms=qA ml:=by unfold nu;rw[if_neg (by rw[N7];simp),if_pos XG]
  replace hF:=hF.del 2;simp only[jn,bq,reduceIte] at hF;refine fD [(2,ag af (qA ml))] hF ?_;intro a W ho hF;replace HB:=HB.tr ho;replace K1:=aw K1 ho;refine ej ?_;exact a8 (bR rfl _ _ _) hF.defers ⟨congrArg bw (((hF.g 0 rfl):a.eval (aI 2)=ag af (qA ml)).trans (congrArg _ hres.symm)),HB⟩
 replace hF:=hF.tl;refine dA ?_;refine dg ?_;refine rK ⟨[],[(3,ag af (lM b ss))],[(B1,(b.sl p1 ml.length c1 p2 ss.length c2 p3 ms.length c3))],[]⟩ [(5,ag af (lM b ss))] hF hF ⟨fun w1 hS=>⟨_,_,aw K1 hS⟩,trivial⟩ ⟨fun w1 hS _=>gc (args:=#[aN (b.sl p1 ml.length c1 p2 ss.length c2 p3 ms.length c3),ae p2 ss.length c2]) (Gw b (ae p1 ml.length c1) (ae p2 ss.length c2) (ae p3 ms.length c3) _ _ ss oM w1 (hu.below (HB.tr hS))),trivial⟩ ?_;intro a W ho hF;replace HB:=HB.tr ho;replace K1:=aw K1 ho;refine fD [(22,aA ((lM b ss) !=0))] hF ?_;intro a W ho hF;replace HB:=HB.tr ho;replace K1:=aw K1 ho;refine cF (t:=((lM b ss) !=0)) (hF.g 0 rfl) (fun aaJ=>?_) (fun aaJ=>?_)
 .replace hF:=hF.tl;have hres:nu b ml ss ms=lM b ss:=by unfold nu;rw[if_neg (by rw[N7];simp),if_neg (by rw[XG];simp),if_pos aaJ]
  replace hF:=hF.del 2;simp only[jn,bq,reduceIte] at hF;refine fD [(2,ag af (lM b ss))] hF ?_;intro a W ho hF;replace HB:=HB.tr ho;replace K1:=aw K1 ho;refine ej ?_;exact a8 (bR rfl _ _ _) hF.defers ⟨congrArg bw (((hF.g 0 rfl):a.eval (aI 2)=ag af (lM b ss)).trans (congrArg _ hres.symm)),HB⟩
 replace hF:=hF.tl;have hh:nu b ml ss ms=tY b ms:=by unfold nu;rw[if_neg (by rw[N7];simp),if_neg (by rw[XG];simp),if_neg (by rw[aaJ];simp)]
 refine dA ?_;refine dg ?_;refine rK ⟨[],[],[(B1,(b.sl p1 ml.length c1 p2 ss.length c2 p3 ms.length c3))],[]⟩ [(27,aA (decide ((ms.length:Int)>3)))] hF hF ⟨fun w1 hS=>⟨_,_,aw K1 hS⟩,trivial⟩ trivial ?_;intro a W ho hF;replace HB:=HB.tr ho;replace K1:=aw K1 ho;refine cF (t:=(decide ((ms.length:Int)>3))) (hF.g 0 rfl) (fun aaI=>?_) (fun aaI=>?_)
 .replace hF:=hF.tl;have hres:nu b ml ss ms=2:=by rw[hh];unfold tY;rw[if_pos (by simpa using aaI)]
  replace hF:=hF.del 2;simp only[jn,bq,reduceIte] at hF;refine fD [(2,ag af 2)] hF ?_;intro a W ho hF;replace HB:=HB.tr ho;replace K1:=aw K1 ho;refine ej ?_;exact a8 (bR rfl _ _ _) hF.defers ⟨congrArg bw (((hF.g 0 rfl):a.eval (aI 2)=ag af 2).trans (congrArg _ hres.symm)),HB⟩
 replace hF:=hF.tl;have h3:¬(ms.length:Int)>3:=by simpa using aaI
 refine dA ?_;refine dg ?_;refine fD [(6,ag af 0)] hF ?_;intro a W ho hF;replace HB:=HB.tr ho;replace K1:=aw K1 ho;refine kg ?_;refine wp_loop (fun a W=>∃k:Nat,k<=ms.length/\(∀i,i<k->oh b ms i=0)/\ik 52 a [(6,ag af (k:Nat)),(1,pv B1 0),(0,aN (b.sl p1 ml.length c1 p2 ss.length c2 p3 ms.length c3))]/\Bw w W/\W.heap[B1]?=some (au (b.sl p1 ml.length c1 p2 ss.length c2 p3 ms.length c3) 28 (0,0))) (fun a _=>ms.length-(intOf (a.eval (aI 6))).toNat) ⟨0,oM,fun i hi=>by omega,⟨hF.size,hF.defers,(by obtain⟨b6,-,-,-,-,b1,b0,-⟩:=hF.base;exact⟨b6,b1,b0,trivial⟩)⟩,HB,K1⟩ ?_;clear hF HB K1
 try clear a
 try clear W
 rintro a W ⟨k,rE,oO,hF,HB,K1⟩;have hk6:a.eval (aI 6)=ag af (k:Nat):=(hF.g 0 rfl)
 refine dg ?_;refine rK ⟨[],[],[(B1,(b.sl p1 ml.length c1 p2 ss.length c2 p3 ms.length c3))],[]⟩ [(32,aA (decide ((k:Int)<(ms.length:Int))))] hF hF ⟨fun w1 hS=>⟨_,_,aw K1 hS⟩,trivial⟩ trivial ?_;intro a W ho hF;replace HB:=HB.tr ho;replace K1:=aw K1 ho;refine cF (t:=(decide ((k:Int)<(ms.length:Int)))) (hF.g 0 rfl) (fun LH=>?_) (fun LH=>?_)
 .replace hF:=hF.tl;have yb:k<ms.length:=by simpa using LH
  obtain⟨g,off,rfl,hM⟩:=HC.out k yb;have CM:=hM.below HB;clear hM;obtain⟨m,hm⟩:∃m,Jf ms k=m:=⟨_,rfl⟩
  have hw1:IntKind.i64.wrap ((k:Int)+1)=(k:Int)+1:=by rw[bO];omega
  refine dA ?_;refine dg ?_;refine kg ?_;refine dg ?_
  refine Cv kQ [pV (aN (b.sl p1 ml.length c1 p2 ss.length c2 (some ⟨g,off,none⟩) ms.length c3)),pV (pv B1 14),pV (ae (some ⟨g,off,none⟩) ms.length c3),pV (ag af (k:Nat)),pV (dB (some ⟨g,off+k*3,none⟩)),pV (dB (some ⟨g,off+k*3,none⟩)),pV (ag af m.minute),pV (aA (aV m.minute 1 b.minutes)),pV (aA (!(aV m.minute 1 b.minutes)))]
   _ kQ hF.size hF.base ?_ ?_ ?_
  .exact⟨sV,sV,sV,sV,sV,sV,sV,sV,sV,trivial⟩
  .refine⟨?_,?_,?_,?_,?_,?_,?_,?_,?_,trivial⟩<;>rintro ev w1 hS hc hg hf ⟨b6,b1,-,-⟩ hd
   all_goals try
    try have d0:ev (aI _)=_:=hd.1 rfl
    refine yw rfl ?_ rfl;go_simp;done
   .have lg:=aw K1 hS;exact wP 28 rfl b1 lg bL rfl kQ (rfl)
   .have d1:ev (aI 36)=_:=hd.1 rfl;have z:=aK (aw K1 hS) 14 _ rfl;exact tV
   .have d2:ev (aI 37)=_:=hd.1 rfl;have d3:ev (aI 38)=_:=hd.2.1 rfl;have Ck:¬(ms.length<=k):=oM;exact tV
   .have d5:ev (aI 40)=_:=hd.1 rfl;obtain⟨z1,z2,z3⟩:=(OP.below CM hS).2 k oM;rw[hm] at z1 z2 z3;exact tV
   have d0:ev (aI 35)=_:=hd.1 rfl;have d6:ev (aI 41)=_:=hd.2.1 rfl;refine yc (rU b (ae p1 ml.length c1) (ae p2 ss.length c2) (ae (some ⟨g,off,none⟩) ms.length c3) m.minute w1) ?_ (fun _=>rfl);go_simp
  intro a W hR;have ho:=hR.s;replace HB:=HB.tr ho;replace K1:=aw K1 ho;replace CM:=CM.below ho;replace hF:=(hR.fr hF).cons (t:=43) (hR.val 8);clear hR ho;refine cF (t:=(!(aV m.minute 1 b.minutes))) (hF.g 0 rfl) (fun XE=>?_) (fun XE=>?_)
  .replace hF:=hF.tl;have h6:oh b ms k=6:=by unfold oh;rw[hm,if_pos XE]
   have hres:nu b ml ss ms=6:=hh.trans ((Hq k h3 yb oO (by rw[h6];decide)).trans h6);refine fD [(2,ag af 6)] hF ?_;intro a W ho hF;replace HB:=HB.tr ho;replace K1:=aw K1 ho;replace CM:=CM.below ho;refine ej ?_;exact a8 (bR rfl _ _ _) hF.defers ⟨congrArg bw (((hF.g 0 rfl):a.eval (aI 2)=ag af 6).trans (congrArg _ hres.symm)),HB⟩
  replace hF:=hF.tl;refine dA ?_
  refine nV [pV (pv B1 14),pV (ae (some ⟨g,off,none⟩) ms.length c3),pV (ag af (k:Nat)),pV (dB (some ⟨g,off+k*3,none⟩)),pV (dB (some ⟨g,off+k*3+1,none⟩)),pV (aN #[ag af m.lo,ag af m.hi]),pV (aA (cC m.lo m.hi 0 99)),pV (aA (!(cC m.lo m.hi 0 99)))]
   _ kQ hF.size hF.base ?_ ?_ ?_
  .exact⟨sV,sV,sV,sV,sV,sV,sV,sV,trivial⟩
  .refine⟨?_,?_,?_,?_,?_,?_,?_,?_,trivial⟩<;>rintro ev w1 hS hc hg hf ⟨b6,b1,-,-⟩ hd
   all_goals try
    try have d0:ev (aI _)=_:=hd.1 rfl
    refine yw rfl ?_ rfl;go_simp;done
   .have d0:ev (aI 44)=_:=hd.1 rfl;have z:=aK (aw K1 hS) 14 _ rfl;exact tV
   .have d1:ev (aI 45)=_:=hd.1 rfl;have d2:ev (aI 46)=_:=hd.2.1 rfl;have Ck:¬(ms.length<=k):=oM;exact tV
   .have d4:ev (aI 48)=_:=hd.1 rfl;obtain⟨z1,z2,z3⟩:=(OP.below CM hS).2 k oM;rw[hm] at z1 z2 z3;exact tV
   have d5:ev (aI 49)=_:=hd.1 rfl;refine yc (rC m.lo m.hi 0 99 w1) ?_ (fun _=>rfl);go_simp
  intro a W hR;have ho:=hR.s;replace HB:=HB.tr ho;replace K1:=aw K1 ho;replace CM:=CM.below ho;replace hF:=(hR.fr hF).cons (t:=51) (hR.val 7);clear hR ho;refine cF (t:=(!(cC m.lo m.hi 0 99))) (hF.g 0 rfl) (fun aaD=>?_) (fun aaD=>?_)
  .replace hF:=hF.tl;have h1:oh b ms k=1:=by unfold oh;rw[hm,if_neg (by rw[XE];simp),if_pos aaD]
   have hres:nu b ml ss ms=1:=hh.trans ((Hq k h3 yb oO (by rw[h1];decide)).trans h1);refine fD [(2,ag af 1)] hF ?_;intro a W ho hF;replace HB:=HB.tr ho;replace K1:=aw K1 ho;replace CM:=CM.below ho;refine ej ?_;exact a8 (bR rfl _ _ _) hF.defers ⟨congrArg bw (((hF.g 0 rfl):a.eval (aI 2)=ag af 1).trans (congrArg _ hres.symm)),HB⟩
  replace hF:=hF.tl;have hz:oh b ms k=0:=by unfold oh;rw[hm,if_neg (by rw[XE];simp),if_neg (by rw[aaD];simp)]
  refine dA ?_;have qF:=hF;replace hF:=hF.tl;refine M6 ⟨[],[(1,ag af ((k:Nat)+1))],[],[]⟩ [(6,ag af ((k:Nat)+1))] qF hF trivial ⟨fun w1 hS _=>ge (congrArg (aD af) (show IntKind.i64.wrap ((k:Nat)+1)=((k:Nat)+1) by rw[bO];omega)),trivial⟩ ?_;intro a W ho hF;clear qF;replace HB:=HB.tr ho;replace K1:=aw K1 ho;replace CM:=CM.below ho;refine⟨⟨k+1,oM,fun i hi=>if hik:i<k then oO i hik else by have e:i=k:=(by omega);rw[e];exact hz,⟨hF.size,hF.defers,hF.base⟩,HB,K1⟩,?_⟩;rw[show a.eval (aI 6)=ag af ((k:Nat)+1) from(hF.g 0 rfl)];simp only[hk6];simp[intOf];omega
 replace hF:=hF.tl;refine wp_exit ?_;have Ut:k=ms.length:=by simp at LH;omega
 have hres:nu b ml ss ms=0:=hh.trans (K8 h3 fun i hi=>oO i oM);show F8 aq _ _ a W;refine fD [(2,ag af 0)] hF ?_;intro a W ho hF;replace HB:=HB.tr ho;replace K1:=aw K1 ho;refine ej ?_;exact a8 (bR rfl _ _ _) hF.defers ⟨congrArg bw (((hF.g 0 rfl):a.eval (aI 2)=ag af 0).trans (congrArg _ hres.symm)),HB⟩
def E6(b:BB)(ml:List Mn)(ss:List Int)(ms:List Mk):Bool:=(!(jU ml ss ms))&&(nu b ml ss ms==0)
def RD{ml:List Mn}{ss:List Int}{ms:List Mk}(h:jU ml ss ms=false):ml.length<=20/\ss.length<=20:=by
 unfold jU JH at h;simp at h;omega
def PV(b:BB)(p1 p2 p3:Option Addr)(c1 c2 c3:Nat)(ml:List Mn)(ss:List Int)(ms:List Mk)(w:ak)(hv:Reads w (ae p1 ml.length c1) ml.length (eA ml))(hu:Reads w (ae p2 ss.length c2) ss.length (ss.map (aD af)))(hk3:Reads w (ae p3 ms.length c3) ms.length (dM ms)):a_ aq 29 #[aN (b.sl p1 ml.length c1 p2 ss.length c2 p3 ms.length c3)] w (Rt w (aA (E6 b ml ss ms))):=by
 refine kP Tryz.func29 rfl rfl [(0,aN (b.sl p1 ml.length c1 p2 ss.length c2 p3 ms.length c3))] ⟨iL rfl,trivial⟩ fun a hF=>?_;refine(fun h:∀W,Bw w W->F8 aq _ _ a W=>h w (ay _ _)) ?_;intro W HB
 refine nV [fun v ds w9=>∃B,v=pv B 0/\w9.heap[B]?=some (au (b.sl p1 ml.length c1 p2 ss.length c2 p3 ms.length c3) 28 (0,0)),pV (aA false)]
  _ kQ hF.size hF.base ?_ ?_ ?_
 .refine⟨?_,sV,trivial⟩
  .rintro v ds w1 w2 hS ⟨B,h1,h2⟩ hb;exact⟨B,h1,aw h2 hb⟩
 .refine⟨?_,?_,trivial⟩<;>rintro ev w1 hS hc hg hf ⟨b0,-⟩ hd
  .refine F5 (v:=pv w1.heap.size 0) (w':=w1.alloc (au (b.sl p1 ml.length c1 p2 ss.length c2 p3 ms.length c3) 28)) ?_ ⟨⟨_,rfl,ax _ _⟩,cz cY⟩;go_simp
  exact tV
 intro a W hR;have ho:=hR.s;obtain⟨B1,e1,K1⟩:=hR.val 0;replace e1:a.eval (aI 1)=pv B1 0:=e1;replace HB:=HB.tr ho;replace hF:=((hR.fr hF).cons (t:=1) e1).cons (t:=2) (hR.val 1);clear hR ho e1;replace hF:=hF.tl
 refine nV [pV (aN (b.sl p1 ml.length c1 p2 ss.length c2 p3 ms.length c3)),pV (aA (jU ml ss ms)),pV (aA (!(jU ml ss ms))),pV (aA (!(jU ml ss ms))),pC (!(jU ml ss ms)) (aN (b.sl p1 ml.length c1 p2 ss.length c2 p3 ms.length c3)),pC (!(jU ml ss ms)) (ag af (nu b ml ss ms)),pC (!(jU ml ss ms)) (aA ((nu b ml ss ms)==0)),pV (aA ((!(jU ml ss ms))&&((nu b ml ss ms)==0))),pV (aA ((!(jU ml ss ms))&&((nu b ml ss ms)==0)))]
  _ kQ hF.size hF.base ?_ ?_ ?_
 .exact⟨sV,sV,sV,sV,sC,sC,sC,sV,sV,trivial⟩
 .refine⟨?_,?_,?_,?_,?_,?_,?_,?_,?_,trivial⟩<;>rintro ev w1 hS hc hg hf ⟨b1,-,-⟩ hd
  all_goals try
   try have d0:ev (aI _)=_:=hd.1 rfl
   refine yw rfl ?_ rfl;go_simp;done
  .have lg:=aw K1 hS;exact wP 28 rfl b1 lg bL rfl kQ (rfl)
  .have d0:ev (aI 3)=_:=hd.1 rfl;refine yc (args:=#[aN (b.sl p1 ml.length c1 p2 ss.length c2 p3 ms.length c3)]) (RF b _ _ _ _ _ _ ml ss ms w1 (hv.below (HB.tr hS))) ?_ (fun _=>rfl);go_simp
  .have d3:ev (aI 6)=_:=hd.1 rfl;refine gC d3 yE fun hA=>?_;have lg:=aw K1 hS;exact wP 28 rfl b1 lg bL rfl kQ (fun _=>rfl)
  .have d4:_->ev (aI 7)=_:=hd.1 rfl;have d3:ev (aI 6)=_:=hd.2.1 rfl;refine gC d3 yE fun hA=>?_;have y4:=d4 hA;refine yc (args:=#[aN (b.sl p1 ml.length c1 p2 ss.length c2 p3 ms.length c3)]) (KL b _ _ _ _ _ _ ml ss ms (RD (ms:=ms) (by revert hA;cases jU ml ss ms<;>simp)) w1 (hv.below (HB.tr hS)) (hu.below (HB.tr hS)) (hk3.below (HB.tr hS))) ?_ (fun _=>fun _=>rfl);go_simp
  .have d5:_->ev (aI 8)=_:=hd.1 rfl;have d3:ev (aI 6)=_:=hd.2.1 rfl;refine gC d3 yE fun hA=>?_;have y5:=d5 hA;refine yv ?_ (fun _=>rfl);go_simp
  have d3:ev (aI 6)=_:=hd.1 rfl;have d6:_->ev (aI 9)=_:=hd.2.1 rfl;exact yA rfl hc d3 (fun hq=>d6 (by simp[hq])) (rfl)
 intro a W hR;have ho:=hR.s;replace HB:=HB.tr ho;replace K1:=aw K1 ho;replace hF:=(hR.fr hF).cons (t:=2) (hR.val 8);clear hR ho;refine ej ?_;exact a8 (bR rfl _ _ _) hF.defers ⟨congrArg bw (((hF.g 0 rfl):a.eval (aI 2)=aA ((!(jU ml ss ms))&&((nu b ml ss ms)==0))).trans rfl),HB⟩
def LO{l:List Int}{i:Nat}(h:i<l.length):l.getD i 0=l[i]:=by simp[h]
def H7{f:Nat->Int}{n:Nat}{c:Int}(h:(((aQ n).map f).find? fun h=>h !=0).getD c=0):(∀i,i<n->f i=0)/\c=0:=by
 cases e:((aQ n).map f).find? (fun h=>h !=0) with
 |none=>
  rw[e] at h;rw[List.find?_eq_none] at e;refine⟨fun i hi=>?_,h⟩;have:=e _ (dm.2 ⟨i,bQ.2 hi,rfl⟩);simpa using this
 |some x=>
  rw[e] at h;have:=List.find?_some e;simp at h this;exact absurd h this
def Sc{b:BB}(h:oY b=0):b.Ok:=by
 unfold oY at h;have h1:CD b=false:=by cases e:CD b<;>simp_all
 have h2:FE b=false:=by cases e:FE b<;>simp_all
 have h3:Ig b=false:=by cases e:Ig b<;>simp_all
 unfold CD aV at h1;unfold FE aV at h2;unfold Ig cC at h3;simp at h1 h2 h3;constructor<;>omega
def QM{b:BB}{ss:List Int}(h:lM b ss=0):jD b ss:=by
 unfold lM at h;obtain⟨h1,h2⟩:=H7 h
 have hc:(ss.length:Int)<=b.eN:=by
  refine Int.not_lt.1 fun h'=>?_;rw[if_pos h'] at h2;cases h2
 have hk:∀i (hi:i<ss.length),(1<=ss[i]/\ss[i]<=b.minutes)/\¬(0<i/\ss[i]<=ss.getD (i-1) 0):=by
  intro i hi;have:=h1 i hi;unfold oa at this;rw[LO hi] at this;cases e:aV ss[i] 1 b.minutes with
  |false=>rw[e] at this;simp at this
  |true=>
   refine⟨gF.1 e,fun h'=>?_⟩;rw[e,if_neg sM,if_pos h'] at this;cases this
 refine⟨fun p hp=>?_,fun k qY=>?_,hc⟩
 .obtain⟨i,hi,rfl⟩:=fZ hp;exact(hk i hi).1
 have:=(hk (k+1) qY).2;rw[show k+1-1=k from rfl,LO oM] at this;omega
def NH{b:BB}{ms:List Mk}(h:tY b ms=0):l9 b ms:=by
 unfold tY at h
 have h3:(ms.length:Int)<=3:=by
  refine Int.not_lt.1 fun h'=>?_;rw[if_pos h'] at h;cases h
 rw[if_neg oM] at h;obtain⟨h1,-⟩:=H7 h;refine⟨fun m hm=>?_,oM⟩;obtain⟨i,hi,rfl⟩:=fZ hm;have:=h1 i hi;unfold oh at this;rw[KZ ms i hi] at this;cases e:aV ms[i].minute 1 b.minutes with
 |false=>rw[e] at this;simp at this
 |true=>
  rw[e,if_neg sM] at this;cases e2:cC ms[i].lo ms[i].hi 0 99 with
  |false=>rw[e2] at this;simp at this
  |true=>
   have e:=gF.1 e;unfold cC at e2;simp at e2;omega
def UW{b:BB}{ml:List Mn}{ss:List Int}{ms:List Mk}(h:E6 b ml ss ms=true):b.Ok/\uJ ml/\jD b ss/\l9 b ms:=by
 unfold E6 at h;rw[aF] at h;have h:=h.2;unfold nu at h
 have h1:oY b=0:=by
  refine fh fun hn=>?_;rw[if_pos (by simpa using hn)] at h;simp at h;exact hn h
 rw[h1,if_neg sM] at h
 have h2:qA ml=0:=by
  refine fh fun hn=>?_;rw[if_pos (by simpa using hn)] at h;simp at h;exact hn h
 rw[h2,if_neg sM] at h
 have h3:lM b ss=0:=by
  refine fh fun hn=>?_;rw[if_pos (by simpa using hn)] at h;simp at h;exact hn h
 rw[h3,if_neg sM] at h;exact⟨Sc h1,TS h2,QM h3,NH (by simpa using h)⟩
end Go.Proofs.YtffladgmkiimjaaGreatDoor
