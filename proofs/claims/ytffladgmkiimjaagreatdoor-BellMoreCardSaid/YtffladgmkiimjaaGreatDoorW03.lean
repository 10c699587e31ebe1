/- LONE WALKS: CheckPlan (107) of the reference. LONE WALKS: Climbs (49)  .. -/
import Derived.Test.YtffladgmkiimjaaGreatDoorW02
set_option linter.all false
set_option maxHeartbeats 0
set_option maxRecDepth 1000000
open Go.Lag.Yields renaming value -> yN
open Array renaming getElem?_eq_some_iff -> ag
open Bool renaming and_eq_true -> aI
open Classical renaming byContradiction -> fH
open Go renaming Value -> ai,World -> ak,undef -> au,wp_cond_split -> b_,bodyPost_ret -> bf,Calls -> bm,results_tmp -> cg,wp_seq -> dZ,Addr -> dc,wp_skip -> eN,wp_ret -> fQ,wpList_store_row -> fY,run_loadVar_row -> gY,wp_block -> jC,wpList_load_row -> mS
open Go.Code renaming wp -> CU
open Go.Ending renaming returned -> aU,returned -> bq
open Go.Instr renaming indexAt -> eX
open Go.IntKind renaming i64 -> af,wrap_i64 -> bp
open Go.Lib renaming hid -> aj
open Go.Obj renaming cells -> ar
open Go.Operand renaming tmp -> aD
open Go.Proofs.Tryz renaming prog -> aq,underlying28 -> cF,underlying122 -> js
open Go.RowKit renaming Hid -> nz
open Go.RowKit.Below renaming heap_setCell -> aW,heap_alloc -> aY,refl -> ay
open Go.Value renaming bool -> aH,agg -> aO,slice -> ae,int -> ah,int -> ax,oneCell' -> bJ,tuple -> cR,pointer -> fP,ownBlock -> jD,bool -> jM
open Go.World renaming alloc_heap_new -> aw
open List renaming all_eq_true -> a7,range -> aP,mem_range -> bO,getElem?_eq_getElem -> bT,mem_map -> dW,getElem_of_mem -> jJ,getElem?_map -> jU,range_eq_range' -> nv,any_eq_true -> xq
open Nat renaming le_trans -> aG,le_refl -> aJ,lt_of_lt_of_le -> bA,reduceEqDiff -> bR
open Option.some renaming inj -> aT
open Or renaming inl -> bV
namespace Go.Proofs.YtffladgmkiimjaaGreatDoor
open Go.RowKit Go.Lag
def oG(b:BB)(pl:List Int)(i:Nat):Int:=if !(aS (pl.getD i 0) 1 b.minutes) then 6 else if 0<i/\pl.getD i 0<=pl.getD (i-1) 0 then 7 else 0
def lY(b:BB)(pl:List Int):Int:=(((aP pl.length).map (oG b pl)).find? fun h=>h !=0).getD (if (pl.length:Int)>b.ey then 8 else 0)
def ux(f:Nat->Int):∀(n:Nat),(∀i,i<n->f i=0)->((aP n).map f).find? (fun h=>h !=0)=none:=by
 intro n h;rw[List.find?_eq_none];intro x hx;obtain⟨i,hi,rfl⟩:=dW.1 hx;simp[h i (bO.1 hi)]
def AP(f:Nat->Int)(n k:Nat)(hk:k<n)(h:∀i,i<k->f i=0)(h0:f k≠0):((aP n).map f).find? (fun h=>h !=0)=some (f k):=by
 have e:aP n=aP k++k::List.range' (k+1) (n-k-1):=by
  rw[nv,nv,show n=k+(1+(n-k-1)) by omega,<-List.range'_append_1,Nat.zero_add,Nat.add_comm 1,List.range'_succ]
  congr 3
  omega
 have h1:(f k !=0)=true:=by simpa using h0
 rw[e,List.map_append,List.find?_append,ux f k h,List.map_cons,List.find?_cons,h1];rfl
def Reads.atK{w:ak}{p:Option dc}{n c:Nat}{zs:List Int}(h:Reads w (ae p n c) n (zs.map (ax af)))(k:Nat)(hk:k<zs.length):∃g off,p=some ⟨g,off,none⟩/\g<w.heap.size/\∀j (hj:j<zs.length),w.cell? ⟨g,off+j,none⟩=some (ah af (zs.getD j 0)):=by
 rcases h with⟨_,_,h⟩|⟨g,off,cap,h,_,hg,hc⟩
 .rw[List.map_eq_nil_iff.1 h] at hk;simp at hk
 cases h;refine⟨g,off,rfl,hg,fun j hj=>hc j _ ?_⟩;simp[hj]
def Ih(b:BB)(bn aL az:ai)(p1:Option dc)(c1:Nat)(pl:List Int)(hlen:pl.length<=1000)(w:ak)(hv:Reads w (ae p1 pl.length c1) pl.length (pl.map (ax af))):bm aq 107 #[aO (b.cells bn aL az),ae p1 pl.length c1] w (Rt w (ah af (lY b pl))):=by
 refine lu Tryz.func107 rfl rfl [(1,ae p1 pl.length c1),(0,aO (b.cells bn aL az))] ⟨jB rfl,jB rfl,trivial⟩ fun a hF=>?_;refine(fun h:∀W,Bw w W->CU aq _ _ a W=>h w (ay _ _)) ?_;intro W HB;have HC:nz (∀k,k<pl.length->∃g off,p1=some ⟨g,off,none⟩/\g<w.heap.size/\∀j (hj:j<pl.length),w.cell? ⟨g,off+j,none⟩=some (ah af (pl.getD j 0))):=aj fun k hk=>hv.atK k hk;clear hv
 refine ox [fun v ds w9=>∃B,v=pv B 0/\w9.heap[B]?=some (ar (b.cells bn aL az) 28 (0,0)),pV (ah af 0)]
  _ kQ hF.size hF.base ?_ ?_ ?_
 .refine⟨?_,sV,trivial⟩
  .rintro v ds w1 w2 hS ⟨B,h1,h2⟩ hb;exact⟨B,h1,aA h2 hb⟩
 .refine⟨?_,?_,trivial⟩<;>rintro ev w1 hS hc hg hf ⟨-,b0,-⟩ hd
  .refine yN (v:=pv w1.heap.size 0) (w':=w1.alloc (ar (b.cells bn aL az) 28)) ?_ ⟨⟨_,rfl,aw _ _⟩,bV dF⟩;go_simp
  exact tV
 intro a W hR;have ho:=hR.s;obtain⟨B2,e2,K2⟩:=hR.val 0;replace e2:a.eval (aD 2)=pv B2 0:=e2;replace HB:=HB.tr ho;replace hF:=((hR.fr hF).cons (t:=2) e2).cons (t:=4) (hR.val 1);clear hR ho e2;refine dZ ?_;refine fe [(5,ah af 0)] hF ?_;intro a W ho hF;replace HB:=HB.tr ho;replace K2:=aA K2 ho;refine jC ?_;refine wp_loop (fun a W=>∃k:Nat,k<=pl.length/\(∀i,i<k->oG b pl i=0)/\iw 38 a [(5,ah af (k:Nat)),(2,pv B2 0),(1,ae p1 pl.length c1),(0,aO (b.cells bn aL az))]/\W.heap[B2]?=some (ar (b.cells bn aL az) 28 (0,0))/\Bw w W) (fun a _=>pl.length-(intOf (a.eval (aD 5))).toNat) ⟨0,Nat.zero_le _,fun i hi=>by omega,⟨hF.size,hF.defers,(by obtain⟨b5,-,b2,b1,b0,-⟩:=hF.base;exact⟨b5,b2,b1,b0,trivial⟩)⟩,K2,HB⟩ ?_;clear hF K2 HB
 try clear a
 try clear W
 rintro a W ⟨k,hk,hpre,hF,K2,HB⟩;have hk5:a.eval (aD 5)=ah af (k:Nat):=(hF.g 0 rfl)
 refine dZ ?_;refine fe [(9,aH (decide ((k:Int)<(pl.length:Int))))] hF ?_;intro a W ho hF;replace HB:=HB.tr ho;replace K2:=aA K2 ho;refine b_ (t:=(decide ((k:Int)<(pl.length:Int)))) (hF.g 0 rfl) (fun Ti=>?_) (fun Ti=>?_)
 .replace hF:=hF.tl;have hlt:k<pl.length:=by simpa using Ti
  obtain⟨g,off,rfl,hg,hcell⟩:=HC.out k hlt;have hW:w.heap.size<=W.heap.size:=HB.size;obtain⟨x,hx⟩:∃x,pl.getD k 0=x:=⟨_,rfl⟩
  have CX:∀w9,Bw w w9->w9.cell? ⟨g,off+k,none⟩=some (ah af x):=fun w9 h9=>(h9.cell (p:=⟨g,off+k,none⟩) hg).trans (by rw[<-hx];exact hcell k hlt);rcases k with _|j
  .have Cx:nz (∀w9,Bw W w9->w9.cell? ⟨g,off,none⟩=some (ah af x)):=aj fun w9 h9=>CX w9 (HB.trans (h9.mono hW));refine eN ?_;refine dZ ?_;refine jC ?_;refine dZ ?_;refine DV kQ ⟨[],[(3,pv g off),(4,ah af x),(5,aH (aS x 1 b.minutes))],[(B2,(b.cells bn aL az))],[]⟩ [(18,aH (!(aS x 1 b.minutes)))] hF ⟨fun w1 hS=>⟨_,_,aA K2 hS⟩,trivial⟩ ⟨fun w1 hS _=>gs (eX 25 (ae (some ⟨g,off,none⟩) pl.length c1) (ah af ((0:Nat):Int))) (by go_simp),fun w1 hS _=>gl (Cx.out w1 hS),fun w1 hS _=>gc (tj b bn aL az x w1),trivial⟩ ?_;intro a W ho hF;replace HB:=HB.tr ho;replace K2:=aA K2 ho;replace hW:=aG hW ho.size;replace Cx:=aj fun w9 (h9:Bw W w9)=>Cx.out w9 (ho.trans (h9.mono ho.size));refine b_ (t:=(!(aS x 1 b.minutes))) (hF.g 0 rfl) (fun Ce=>?_) (fun Ce=>?_)
   .replace hF:=hF.tl
    have hres:lY b pl=6:=by
     have h6:oG b pl 0=6:=by unfold oG;rw[hx];simp at Ce;simp[Ce]
     unfold lY;rw[AP _ _ 0 hlt hpre (by rw[h6];decide),h6];rfl
    refine fe [(4,ah af 6)] hF ?_;intro a W ho hF;replace HB:=HB.tr ho;replace K2:=aA K2 ho;replace hW:=aG hW ho.size;replace Cx:=aj fun w9 (h9:Bw W w9)=>Cx.out w9 (ho.trans (h9.mono ho.size));refine fQ ?_;exact bf (cg rfl _ _ _) hF.defers ⟨congrArg bq (((hF.g 0 rfl):a.eval (aD 4)=ah af 6).trans (congrArg _ hres.symm)),HB⟩
   replace hF:=hF.tl;refine eN ?_;refine DV kQ ⟨[(2,false)],[(1,aH false)],[],[]⟩ [(32,aH false)] hF trivial ⟨fun w1 hS _=>ge (congrArg jM (show(decide ((((0:Nat):Int):Int)>(0:Int)))=false from decide_eq_false oM)),trivial⟩ ?_;intro a W ho hF;replace HB:=HB.tr ho;replace K2:=aA K2 ho;replace hW:=aG hW ho.size;replace Cx:=aj fun w9 (h9:Bw W w9)=>Cx.out w9 (ho.trans (h9.mono ho.size));refine wp_cond (t:=false) (hF.g 0 rfl) ?_;replace hF:=hF.tl;have hz:oG b pl 0=0:=by unfold oG;rw[hx];simp at Ce;simp[Ce]
   refine eN ?_;have qo:=hF;replace hF:=hF.tl;refine Ou ⟨[],[(1,ah af (((0:Nat):Int)+1))],[],[]⟩ [(5,ah af (((0:Nat):Int)+1))] qo hF trivial ⟨fun w1 hS _=>ge (congrArg (ax af) (show IntKind.i64.wrap (((0:Nat):Int)+1)=(((0:Nat):Int)+1) by rw[bp];omega)),trivial⟩ ?_;intro a W ho hF;clear qo;replace HB:=HB.tr ho;replace K2:=aA K2 ho;replace hW:=aG hW ho.size;replace Cx:=aj fun w9 (h9:Bw W w9)=>Cx.out w9 (ho.trans (h9.mono ho.size));refine⟨⟨0+1,oM,?_,⟨hF.size,hF.defers,hF.base⟩,K2,HB⟩,?_⟩
   .intro i hi
    by_cases hik:i<0
    .exact hpre i hik
    obtain rfl:i=0:=oM;exact hz
   rw[show a.eval (aD 5)=ah af (((0:Nat):Int)+1) from(hF.g 0 rfl)];simp only[hk5];simp[intOf];omega
  have Cx:nz (∀w9,Bw W w9->w9.cell? ⟨g,off+(j+1),none⟩=some (ah af x)):=aj fun w9 h9=>CX w9 (HB.trans (h9.mono hW));obtain⟨y,hy⟩:∃y,pl.getD j 0=y:=⟨_,rfl⟩
  have Cy:nz (∀w9,Bw W w9->w9.cell? ⟨g,off+j,none⟩=some (ah af y)):=aj fun w9 h9=>((HB.trans (h9.mono hW)).cell (p:=⟨g,off+j,none⟩) hg).trans (by rw[<-hy];exact hcell j oM);refine eN ?_;refine dZ ?_;refine jC ?_;refine dZ ?_;refine DV kQ ⟨[],[(3,fP (some ⟨g,off+(j+1),none⟩)),(4,ah af x),(5,aH (aS x 1 b.minutes))],[(B2,(b.cells bn aL az))],[]⟩ [(18,aH (!(aS x 1 b.minutes)))] hF ⟨fun w1 hS=>⟨_,_,aA K2 hS⟩,trivial⟩ ⟨fun w1 hS _=>gs (eX 25 (ae (some ⟨g,off,none⟩) pl.length c1) (ah af ((j+1:Nat):Int))) (by have Bv:¬((pl.length:Int)<=(j:Int)+1):=(by omega);have Zg:0<=(j:Int)+1:=(by omega);go_simp),fun w1 hS _=>gl (Cx.out w1 hS),fun w1 hS _=>gc (tj b bn aL az x w1),trivial⟩ ?_;intro a W ho hF;replace HB:=HB.tr ho;replace K2:=aA K2 ho;replace hW:=aG hW ho.size;replace Cx:=aj fun w9 (h9:Bw W w9)=>Cx.out w9 (ho.trans (h9.mono ho.size));replace Cy:=aj fun w9 (h9:Bw W w9)=>Cy.out w9 (ho.trans (h9.mono ho.size));refine b_ (t:=(!(aS x 1 b.minutes))) (hF.g 0 rfl) (fun Ce=>?_) (fun Ce=>?_)
  .replace hF:=hF.tl
   have hres:lY b pl=6:=by
    have h6:oG b pl (j+1)=6:=by unfold oG;rw[hx];simp at Ce;simp[Ce]
    unfold lY;rw[AP _ _ (j+1) hlt hpre (by rw[h6];decide),h6];rfl
   refine fe [(4,ah af 6)] hF ?_;intro a W ho hF;replace HB:=HB.tr ho;replace K2:=aA K2 ho;replace hW:=aG hW ho.size;replace Cx:=aj fun w9 (h9:Bw W w9)=>Cx.out w9 (ho.trans (h9.mono ho.size));replace Cy:=aj fun w9 (h9:Bw W w9)=>Cy.out w9 (ho.trans (h9.mono ho.size));refine fQ ?_;exact bf (cg rfl _ _ _) hF.defers ⟨congrArg bq (((hF.g 0 rfl):a.eval (aD 4)=ah af 6).trans (congrArg _ hres.symm)),HB⟩
  replace hF:=hF.tl;refine eN ?_;refine DV kQ ⟨[(2,true)],[(1,aH true),(5,fP (some ⟨g,off+(j+1),none⟩)),(6,ah af x),(9,ah af (j:Int)),(10,pv g (off+j)),(11,ah af y)],[],[]⟩ [(32,aH (decide (x<=y)))] hF trivial ⟨fun w1 hS _=>ge (congrArg jM (show(decide ((((j+1:Nat):Int):Int)>(0:Int)))=true from decide_eq_true oM)),fun w1 hS _=>gs (eX 25 (ae (some ⟨g,off,none⟩) pl.length c1) (ah af ((j+1:Nat):Int))) (by have Bv:¬((pl.length:Int)<=(j:Int)+1):=(by omega);have Zg:0<=(j:Int)+1:=(by omega);go_simp),fun w1 hS _=>gl (Cx.out w1 hS),fun w1 hS _=>ge (congrArg (ax af) (show IntKind.i64.wrap (((j+1:Nat):Int)-1)=(j:Int) by rw[bp];omega)),fun w1 hS _=>gs (eX 25 (ae (some ⟨g,off,none⟩) pl.length c1) (ah af (j:Int))) (by have Bv:¬(pl.length<=j):=(by omega);go_simp),fun w1 hS _=>gl (Cy.out w1 hS),trivial⟩ ?_;intro a W ho hF;replace HB:=HB.tr ho;replace K2:=aA K2 ho;replace hW:=aG hW ho.size;replace Cx:=aj fun w9 (h9:Bw W w9)=>Cx.out w9 (ho.trans (h9.mono ho.size));replace Cy:=aj fun w9 (h9:Bw W w9)=>Cy.out w9 (ho.trans (h9.mono ho.size));refine b_ (t:=(decide (x<=y))) (hF.g 0 rfl) (fun Na=>?_) (fun Na=>?_)
  .replace hF:=hF.tl
   have hres:lY b pl=7:=by
    have h7:oG b pl (j+1)=7:=by unfold oG;rw[hx,show((j+1)-1)=j from rfl,hy];simp at Ce Na;simp[Ce,Na]
    unfold lY;rw[AP _ _ (j+1) hlt hpre (by rw[h7];decide),h7];rfl
   refine fe [(4,ah af 7)] hF ?_;intro a W ho hF;replace HB:=HB.tr ho;replace K2:=aA K2 ho;replace hW:=aG hW ho.size;replace Cx:=aj fun w9 (h9:Bw W w9)=>Cx.out w9 (ho.trans (h9.mono ho.size));replace Cy:=aj fun w9 (h9:Bw W w9)=>Cy.out w9 (ho.trans (h9.mono ho.size));refine fQ ?_;exact bf (cg rfl _ _ _) hF.defers ⟨congrArg bq (((hF.g 0 rfl):a.eval (aD 4)=ah af 7).trans (congrArg _ hres.symm)),HB⟩
  replace hF:=hF.tl;have hz:oG b pl (j+1)=0:=by unfold oG;rw[hx,show((j+1)-1)=j from rfl,hy];simp at Ce Na;simp[Ce];omega
  refine eN ?_;have qo:=hF;replace hF:=hF.tl;refine Ou ⟨[],[(1,ah af (((j+1:Nat):Int)+1))],[],[]⟩ [(5,ah af (((j+1:Nat):Int)+1))] qo hF trivial ⟨fun w1 hS _=>ge (congrArg (ax af) (show IntKind.i64.wrap (((j+1:Nat):Int)+1)=(((j+1:Nat):Int)+1) by rw[bp];omega)),trivial⟩ ?_;intro a W ho hF;clear qo;replace HB:=HB.tr ho;replace K2:=aA K2 ho;replace hW:=aG hW ho.size;replace Cx:=aj fun w9 (h9:Bw W w9)=>Cx.out w9 (ho.trans (h9.mono ho.size));replace Cy:=aj fun w9 (h9:Bw W w9)=>Cy.out w9 (ho.trans (h9.mono ho.size));refine⟨⟨(j+1)+1,oM,?_,⟨hF.size,hF.defers,hF.base⟩,K2,HB⟩,?_⟩
  .intro i hi
   by_cases hik:i<(j+1)
   .exact hpre i hik
   obtain rfl:i=(j+1):=oM;exact hz
  rw[show a.eval (aD 5)=ah af (((j+1:Nat):Int)+1) from(hF.g 0 rfl)];simp only[hk5];simp[intOf];omega
 replace hF:=hF.tl;refine wp_exit ?_;have yB:k=pl.length:=by simp at Ti;omega
 rw[yB] at hpre;show CU aq _ _ a W;refine dZ ?_;refine EN ⟨[],[],[(B2,(b.cells bn aL az))],[]⟩ [(37,aH (decide ((pl.length:Int)>b.ey)))] hF hF ⟨fun w1 hS=>⟨_,_,aA K2 hS⟩,trivial⟩ trivial ?_;intro a W ho hF;replace HB:=HB.tr ho;replace K2:=aA K2 ho;refine b_ (t:=(decide ((pl.length:Int)>b.ey))) (hF.g 0 rfl) (fun Zl=>?_) (fun Zl=>?_)
 .replace hF:=hF.tl;have hres:lY b pl=8:=by unfold lY;rw[ux _ _ hpre];simp at Zl;simp[Zl]
  refine fe [(4,ah af 8)] hF ?_;intro a W ho hF;replace HB:=HB.tr ho;replace K2:=aA K2 ho;refine fQ ?_;exact bf (cg rfl _ _ _) hF.defers ⟨congrArg bq (((hF.g 0 rfl):a.eval (aD 4)=ah af 8).trans (congrArg _ hres.symm)),HB⟩
 replace hF:=hF.tl;have hres:lY b pl=0:=by unfold lY;rw[ux _ _ hpre];simp at Zl;simp;omega
 refine eN ?_;refine fe [(4,ah af 0)] hF ?_;intro a W ho hF;replace HB:=HB.tr ho;replace K2:=aA K2 ho;refine fQ ?_;exact bf (cg rfl _ _ _) hF.defers ⟨congrArg bq (((hF.g 0 rfl):a.eval (aD 4)=ah af 0).trans (congrArg _ hres.symm)),HB⟩
def ZB(n:Int)(pl:List Int)(i:Nat):Int:=if !(aS (pl.getD i 0) 0 (n-1)) then 6 else if 0<i/\pl.getD i 0<=pl.getD (i-1) 0 then 7 else 0
def ac8(n:Int)(pl:List Int):Int:=(((aP pl.length).map (ZB n pl)).find? fun h=>h !=0).getD 0
def U5(b:BB)(bn aL az:ai)(ml:List Mn)(ss:List Int)(ms:List Mk)(w:ak)(hL:Laid w)(hB:dh b bn aL az ml ss ms w)(hne:bu b ml ss ms≠[])(cp cq:Nat)
  (hown:∀W,Bw w W->bm aq 131 #[aO (b.cells bn aL az),pv cp 0,pv cq 0] W fun e W'=>e=aU (ah af 0)/\Bw W W') :
  bm aq 103 #[aO (b.cells bn aL az),.func (.func 131) #[] #[pv cp 0,pv cq 0]] w fun e w'=>∃v,e=aU (cR #[aO (b.open bn aL az v),ah af 0])/\iE w' w.heap.size v (bu b ml ss ms)/\Bw w w':=by
 have uL:nz (∀W,Bw w W->bm aq 71 #[aO (b.cells bn aL az)] W fun e w'=>e=aU (ah af 0)/\Bw W w'):=aj fun W hb=>fh b bn aL az ml ss ms W (hL.below hb) (hB.below hb);have XG:nz (∀W,Bw w W->bm aq 116 #[.func (.func 117) #[aO (b.cells bn aL az)] #[]] W fun e w'=>∃v,e=aU v/\iE w' W.heap.size v (bu b ml ss ms)/\Bw W w'):=aj fun W hb=>pY b bn aL az ml ss ms W (hB.below hb);have Og:=aj hown;obtain⟨pm,cm,rfl,_⟩:=aR hB.rm;obtain⟨pn,cn,rfl,_⟩:=aR hB.rs;obtain⟨pk,ck,rfl,_⟩:=aR hB.rk;have kY:0<(bu b ml ss ms).length:=List.length_pos_iff.2 hne;clear hL hB hne hown;generalize bu b ml ss ms=all at *;generalize ml.length=lm at *;generalize ss.length=ln at *;generalize ms.length=lk at *;have b0:Bw w ((w.alloc (ar (b.sl pm lm cm pn ln cn pk lk ck) 28)).alloc (ar iM 122)):=dF.alloc sM _;have HT:nz (Two w (b.sl pm lm cm pn ln cn pk lk ck) 28 iM 122 ((w.alloc (ar (b.sl pm lm cm pn ln cn pk lk ck) 28)).alloc (ar iM 122))):=aj ⟨(Two.mk' w _ _ _ _).one,(Two.mk' w _ _ _ _).two,b0,sM⟩;have LB:=aj b0;clear b0
 go_enter Tryz.func103,Tryz.ntmps103
 go_wp2_with (first
  |(refine mS rfl 122 _ rfl _ rfl 122 _ (0,0) _ HL7.out js rfl kQ ?_)
  |(refine fY rfl 122 _ _ rfl _ _ rfl rfl 122 _ Qu.out kQ rfl (by simp[bJ]) ?_)
  |(go_at_call 71;refine(uL.out _ LB.out).mono ?_;clear uL;rintro e w1 ⟨rfl,hb1⟩
    have tO:=HT.out.next hb1;have qf:=aj tO
    obtain⟨x0,x1,x2,x3,x4,x5,x6,x7,x8,x9,qY,qX,r8,rT,rW⟩:=bZ tO.one
    clear tO hb1)
  |(go_at_call 131;refine(Og.out _ (qf.out.below.alloc (by have:=qf.out.size;omega) _)).mono ?_;clear Og;rintro e w2 ⟨rfl,hb2⟩
    have Ea:=(qf.out.next ((ay _ _).alloc (aJ _) (ar (b.open (ae pm lm cm) (ae pn ln cn) (ae pk lk ck) (ae none 0 0)) 122))).next hb2;have Iw:=aj Ea
    have hk2:=(hb2.block w1.heap.size sM).trans (aw w1 _);have Iz:=aj hk2;have hs1:=qf.out.size;have hs2:=hb2.size;obtain⟨y0,y1,y2,y3,y4,y5,y6,y7,y8,y9,Ow,Qz,Qy,Qx,LD,JL⟩:=jO hk2
    clear Ea hk2 hb2)
  |(go_at_call 116;refine(XG.out _ Iw.out.below).mono ?_;clear XG;rintro e w3 ⟨v,rfl,jA,hb3⟩
    have Hg:=Iw.out.next hb3;have RN:=aj Hg;have Oh:=aj jA
    simp only[World.size_alloc] at hs2;have hk3:=(hb3.block w1.heap.size oM).trans Iz.out;have HK3:=aj hk3;have hs3:=hb3.size;clear y0 y1 y2 y3 y4 y5 y6 y7 y8 y9 Ow Qz Qy Qx LD JL;have JL:=aF hk3 15 _ rfl;have f7:=dm hk3 15;have qz:=aj hb3
    obtain⟨gv,pZ,rfl,FY⟩:∃gv pZ,v=ae (some ⟨gv,0,none⟩) all.length pZ/\w2.heap.size<=gv:=by
     rcases jA.1.2 with⟨_,h0⟩|⟨g,cap,cur,rfl,hg,_⟩
     .omega
     exact⟨g,cap,rfl,hg⟩
    have HL7:nz ((w3.setCell ⟨w1.heap.size,15,none⟩ (ae (some ⟨gv,0,none⟩) all.length pZ)).heap[w1.heap.size]?=some (ar (b.open (ae pm lm cm) (ae pn ln cn) (ae pk lk ck) (ae (some ⟨gv,0,none⟩) all.length pZ)) 122 (0,0))):=aj (dn _ hk3);have Qu:nz ((w3.setCell ⟨w1.heap.size,15,none⟩ (ae (some ⟨gv,0,none⟩) all.length pZ)).heap[w.heap.size+1]?=some (ar iM 122 (0,0))):=aj ((aW _ _ _ _ (by show w.heap.size+1≠w1.heap.size;omega)).trans Hg.two)
    clear Hg hk3 hb3 jA))
 refine bf (results_cell_tmp (g:=w.heap.size+1) rfl rfl (gY _ _ 122 122 _ (0,0) _ (cD Qu.out) js rfl kQ)) rfl ⟨_,rfl,?_,?_⟩
 .have hs1:=qf.out.size;refine(Oh.out.at_ fun g hg=>?_).base oM;have Cc:g=gv:=by simpa [jD] using hg.symm
  subst Cc;exact(setRow_other oM).trans (aW _ _ _ _ (by show g≠w1.heap.size;omega))
 have hs1:=qf.out.size;exact dx (RN.out.below.setCell (p:=⟨w1.heap.size,15,none⟩) (by show _<=w1.heap.size;omega) _) oM
abbrev iL:Array Value:=zP
def JE(b:BB)(bn aL az:ai)(ml:List Mn)(ss:List Int)(ms:List Mk)(w:ak)(hL:Laid w)(hB:dh b bn aL az ml ss ms w)(hne:bu b ml ss ms≠[]) :
  bm aq 150 #[aO (b.cells bn aL az)] w fun e w'=>∃m' s' k',e=aU (cR #[aO (b.cells m' s' k'),ah af 0])/\fX b m' s' k' ml ss ms w'/\tN w.heap.size m' s' k'/\Bw w w':=by
 obtain⟨pm,cm,rfl,_⟩:=aR hB.rm;obtain⟨pn,cn,rfl,_⟩:=aR hB.rs;obtain⟨pk,ck,rfl,_⟩:=aR hB.rk;have b0:Bw w ((w.alloc (ar (b.sl pm ml.length cm pn ss.length cn pk ms.length ck) 28)).alloc (ar iL 28)):=dF.alloc sM _;have HT:nz (Two w (b.sl pm ml.length cm pn ss.length cn pk ms.length ck) 28 iL 28 ((w.alloc (ar (b.sl pm ml.length cm pn ss.length cn pk ms.length ck) 28)).alloc (ar iL 28))):=aj ⟨(Two.mk' w _ _ _ _).one,(Two.mk' w _ _ _ _).two,b0,sM⟩;have uL:=aj (fh b _ _ _ ml ss ms _ (hL.below b0) (hB.below b0))
 have ZZ:nz (∀W,Bw w W->bm aq 119 #[aO (b.sl pm ml.length cm pn ss.length cn pk ms.length ck)] W fun e w'=>e=aU (aH true)/\Bw W w'):=aj fun W hb=>by
  have:=LV b _ _ _ ml ss ms W (hB.below hb);rw[decide_eq_true hne] at this;exact this
 have Og:nz (∀W,Bw w W->bm aq 157 #[aO (b.sl pm ml.length cm pn ss.length cn pk ms.length ck)] W fun e w'=>∃m' s' k',e=aU (aO (b.cells m' s' k'))/\fX b m' s' k' ml ss ms w'/\tN W.heap.size m' s' k'/\Bw W w'):=aj fun W hb=>YD b _ _ _ ml ss ms W (hB.below hb);have HML:=aj hB.iF;clear hL hB hne b0
 go_enter Tryz.func150,Tryz.ntmps150
 go_wp2_with (first
  |(refine fY rfl 28 _ _ rfl _ _ rfl rfl 28 _ HZ.out kQ rfl (by simp[bJ]) ?_)
  |(go_at_call 71;refine uL.out.mono ?_;clear uL;rintro e w1 ⟨rfl,hb1⟩
    have tO:=HT.out.next hb1;have qf:=aj tO
    obtain⟨x0,x1,x2,x3,x4,x5,x6,x7,x8,x9,qY,qX,r8,rT,rW⟩:=bZ tO.one
    clear tO hb1)
  |(go_at_call 119;refine(ZZ.out _ qf.out.below).mono ?_;clear ZZ;rintro e w2 ⟨rfl,hb2⟩
    have Ea:=qf.out.next hb2;have Iw:=aj Ea
    clear x0 x1 x2 x3 x4 x5 x6 x7 x8 x9 qY qX r8 rT rW;obtain⟨x0,x1,x2,x3,x4,x5,x6,x7,x8,x9,qY,qX,r8,rT,rW⟩:=bZ Ea.one
    clear Ea hb2)
  |(go_at_call 157;refine(Og.out _ Iw.out.below).mono ?_;clear Og;rintro e w3 ⟨m',s',k',rfl,Rl,hf3,hb3⟩
    have RN:=aj (Iw.out.next hb3);have HZ:=aj RN.out.two;obtain⟨p5,c5,rfl,_⟩:=aR Rl.rm;obtain⟨p8,c8,rfl,_⟩:=aR Rl.rs;obtain⟨XQ,c11,rfl,_⟩:=aR Rl.rk;have qz:=aj Rl;have XD:nz (fX b (ae p5 ml.length c5) (ae p8 ss.length c8) (ae XQ ms.length c11) ml ss ms (w3.setRow (w.heap.size+1) (b.sl p5 ml.length c5 p8 ss.length c8 XQ ms.length c11))):=aj (Rl.setRow hf3 (by have:=Iw.out.size;omega));have HF3:=aj (hf3.base Iw.out.below.size)
    clear Rl hb3 hf3))
 refine bf (results_cell_tmp (g:=w.heap.size+1) rfl rfl (gY _ _ 28 28 _ (0,0) _ (cD HZ.out) cF rfl kQ)) rfl ⟨_,_,_,rfl,XD.out,HF3.out,dx RN.out.below oM⟩
def Ar(a1 a2 b1 b2 m1 m2:Int)(w:ak)(a:Act)(h4:a.tmps.getD 4 au=fP (some ⟨w.heap.size+1+1,0,none⟩))(h5:a.tmps.getD 5 au=aH (decide (m1<=m2)))(hd:a.defers=[]) :
  bodyPost aq Tryz.f153 (fun e w'=>e=aU (cR #[aO #[ah af m1,ah af m2],aH (decide (m1<=m2))])/\Bw w w') Exit.ret a
   ((((w.alloc (ar #[ah af a1,ah af a2] 23)).alloc (ar #[ah af b1,ah af b2] 23)).alloc (ar #[ah af m1,ah af m2] 23)).alloc (ar #[ah af m1,ah af m2] 23)).drew:=by
 have b0:=(((((ay w.heap.size w).alloc (aJ _) (ar #[ah af a1,ah af a2] 23)).alloc sM (ar #[ah af b1,ah af b2] 23)).alloc sO (ar #[ah af m1,ah af m2] 23)).alloc sO (ar #[ah af m1,ah af m2] 23)).drew;have hk:=(nB w #[ah af a1,ah af a2] #[ah af b1,ah af b2] #[ah af m1,ah af m2] 23 23 23).2.2;have hk2:=(aY _ (ar #[ah af m1,ah af m2] 23) _ (ag.1 hk).1).trans hk;refine bf (results_cell_tmp (g:=w.heap.size+1+1) rfl h4 (gY _ _ 23 23 _ (0,0) _ hk2 Tryz.underlying23 rfl kQ)) hd ⟨by rw[h5],b0⟩
def Vk(a1 a2 b1 b2:Int)(w:ak) :
  bm aq 153 #[aO #[ah af a1,ah af a2],aO #[ah af b1,ah af b2]] w (Rt w (cR #[aO #[ah af (max a1 b1),ah af (min a2 b2)],aH (decide (max a1 b1<=min a2 b2))])):=by
 have key:∀(m1 m2:Int),max a1 b1=m1->min a2 b2=m2->bm aq 153 #[aO #[ah af a1,ah af a2],aO #[ah af b1,ah af b2]] w (Rt w (cR #[aO #[ah af m1,ah af m2],aH (decide (m1<=m2))])):=by
  intro m1 m2 h1 h2
  go_enter Tryz.func153,Tryz.ntmps153
  rcases Int.lt_or_le a1 b1 with q1|q1<;>rcases Int.lt_or_le b2 a2 with q2|q2
  .obtain rfl:m1=b1:=oM;obtain rfl:m2=b2:=oM;clear h1 h2;go_wp2
   go_region
   go_wp2;exact Ar a1 a2 m1 m2 m1 m2 w _ rfl rfl rfl
  .obtain rfl:m1=b1:=oM;obtain rfl:m2=a2:=oM;clear h1 h2;go_wp2
   go_region
   go_wp2;exact Ar a1 m2 m1 b2 m1 m2 w _ rfl rfl rfl
  .obtain rfl:m1=a1:=oM;obtain rfl:m2=b2:=oM;clear h1 h2;go_wp2
   go_region
   go_wp2;exact Ar m1 a2 b1 m2 m1 m2 w _ rfl rfl rfl
  obtain rfl:m1=a1:=oM;obtain rfl:m2=a2:=oM;clear h1 h2;go_wp2
  go_region
  go_wp2;exact Ar m1 m2 b1 b2 m1 m2 w _ rfl rfl rfl
 exact key _ _ rfl rfl
def BB.lk(b:BB)(l m:Int):BB:={ b with ll:=l,lm:=m }
def BB.aeY{b:BB}(h:b.Ok){l m:Int}(h0:0<=l)(h1:l<=m)(h2:m<=99)(h3:m-l<3):(b.lk l m).Ok:=⟨h.room,h.depth,h.least,h.minutes,h.cI,h.jP,h.ey,h.iC,⟨h0,h1,h2,h3⟩,h.Fs⟩
def dh.lk{b:BB}{bn aL az:ai}{ml:List Mn}{ss:List Int}{ms:List Mk}{w:ak}(h:dh b bn aL az ml ss ms w){l m:Int}(h0:0<=l)(h1:l<=m)(h2:m<=99)(h3:m-l<3):dh (b.lk l m) bn aL az ml ss ms w:=
 ⟨BB.aeY h.ok h0 h1 h2 h3,h.iF,⟨h.ng.mem,h.ng.Xn,h.ng.len⟩,⟨h.lK.mem,h.lK.len⟩,h.rm,h.rs,h.rk⟩
def XP(b:BB)(bn aL az:ai)(ml:List Mn)(ss:List Int)(ms:List Mk)(w:ak)(hL:Laid w)(hB:dh b bn aL az ml ss ms w)(lo hi:Int)(h0:0<=lo)(h1:lo<=hi)(h2:hi<=99)(z1 z2:Int)(hz1:max b.ll lo=z1)(hz2:min b.lm hi=z2)(hz:z1<=z2)
  (hne:bu (b.lk z1 z2) ml ss ms≠[]) :
  bm aq 80 #[aO (b.cells bn aL az),aO #[ah af lo,ah af hi]] w fun e w'=>∃m' s' k',e=aU (cR #[aO ((b.lk z1 z2).cells m' s' k'),ah af 0])/\fX (b.lk z1 z2) m' s' k' ml ss ms w'/\Bw w w':=by
 have hlk:=hB.ok.leak;obtain⟨pm,cm,rfl,_⟩:=aR hB.rm;obtain⟨pn,cn,rfl,_⟩:=aR hB.rs;obtain⟨pk,ck,rfl,_⟩:=aR hB.rk;have V7:=nB w (b.sl pm ml.length cm pn ss.length cn pk ms.length ck) #[ah af lo,ah af hi] iL 28 23 28;have b0:Bw w (((w.alloc (ar (b.sl pm ml.length cm pn ss.length cn pk ms.length ck) 28)).alloc (ar #[ah af lo,ah af hi] 23)).alloc (ar iL 28)):=(dF.alloc sM _).alloc sO _;have HT:nz (Two w (b.sl pm ml.length cm pn ss.length cn pk ms.length ck) 28 #[ah af lo,ah af hi] 23 (((w.alloc (ar (b.sl pm ml.length cm pn ss.length cn pk ms.length ck) 28)).alloc (ar #[ah af lo,ah af hi] 23)).alloc (ar iL 28))):=aj ⟨V7.1,V7.2.1,b0,sM⟩;have HZ0:=aj V7.2.2;have uL:=aj (fh b _ _ _ ml ss ms _ (hL.below b0) (hB.below b0))
 have HAg:nz (∀W,Bw w W->bm aq 150 #[aO ((b.lk z1 z2).cells (ae pm ml.length cm) (ae pn ss.length cn) (ae pk ms.length ck))] W fun e w'=>∃m' s' k',e=aU (cR #[aO ((b.lk z1 z2).cells m' s' k'),ah af 0])/\fX (b.lk z1 z2) m' s' k' ml ss ms w'/\tN W.heap.size m' s' k'/\Bw W w'):=aj fun W hb=>
  JE (b.lk z1 z2) _ _ _ ml ss ms W (hL.below hb) ((hB.below hb).lk oM hz oM oM) hne
 have XV:=fun W=>Vk b.ll b.lm lo hi W;rw[hz1,hz2,decide_eq_true hz] at XV;have HMt:=aj XV;clear hL hB hne b0 V7 XV hz1 hz2
 go_enter Tryz.func80,Tryz.ntmps80
 go_wp2_with (first
  |(refine mS rfl 28 _ rfl _ rfl 28 _ (0,0) _ HK4.out cF rfl kQ ?_)
  |(refine fY rfl 28 _ _ rfl _ _ rfl rfl 28 _ HZ5.out kQ rfl (by simp[bJ]) ?_)
  |(go_at_call 71;refine uL.out.mono ?_;clear uL;rintro e w1 ⟨rfl,hb1⟩
    have tO:=HT.out.next hb1;have qf:=aj tO
    have ZX:=aj ((hb1.block (w.heap.size+2) sM).trans HZ0.out);have y0:=aF tO.two 0 _ rfl;have y1:=aF tO.two 1 _ rfl
    clear tO hb1)
  |(go_at_call 152;refine(ud lo hi 0 99 _ h0 h1 h2).mono ?_;rintro e w2 ⟨rfl,hb2⟩
    have Ea:=qf.out.next hb2;have Iw:=aj Ea
    have HZ2:=aj ((hb2.block _ (ag.1 ZX.out).1).trans ZX.out);have x8:=aF Ea.one 8 _ rfl;have x9:=aF Ea.one 9 _ rfl;have v0:=aF Ea.two 0 _ rfl;have v1:=aF Ea.two 1 _ rfl
    clear Ea hb2)
  |(go_at_call 153;refine(HMt.out _).mono ?_;rintro e w3 ⟨rfl,hb3⟩
    have Hg:=Iw.out.next hb3;have RN:=aj Hg
    have HZ3:=aj ((hb3.block _ (ag.1 HZ2.out).1).trans HZ2.out);have hx3:=(aY w3 (ar #[ah af z1,ah af z2] 23) _ (ag.1 Hg.one).1).trans Hg.one;have u8:=aF hx3 8 _ rfl;have u9:=aF hx3 9 _ rfl;have f8:=dm hx3 8;have f9:=dm hx3 9;have HK4:nz ((((w3.alloc (ar #[ah af z1,ah af z2] 23)).setCell ⟨w.heap.size,8,none⟩ (ah af z1)).setCell ⟨w.heap.size,9,none⟩ (ah af z2)).heap[w.heap.size]?=some (ar ((b.lk z1 z2).cells (ae pm ml.length cm) (ae pn ss.length cn) (ae pk ms.length ck)) 28 (0,0))):=aj (dn _ (dn _ hx3));have HB4:nz (Bw w (((w3.alloc (ar #[ah af z1,ah af z2] 23)).setCell ⟨w.heap.size,8,none⟩ (ah af z1)).setCell ⟨w.heap.size,9,none⟩ (ah af z2))):=aj (((Hg.below.alloc Hg.below.size _).setCell (p:=⟨w.heap.size,8,none⟩) (aJ _) _).setCell (p:=⟨w.heap.size,9,none⟩) (aJ _) _);have Qu:nz ((((w3.alloc (ar #[ah af z1,ah af z2] 23)).setCell ⟨w.heap.size,8,none⟩ (ah af z1)).setCell ⟨w.heap.size,9,none⟩ (ah af z2)).heap[w.heap.size+2]?=some (ar iL 28 (0,0))):=aj ((aW _ _ _ _ (by show w.heap.size+2≠w.heap.size;omega)).trans ((aW _ _ _ _ (by show w.heap.size+2≠w.heap.size;omega)).trans ((aY _ _ _ (ag.1 HZ3.out).1).trans HZ3.out)))
    clear Hg hb3 hx3)
  |(go_at_call 150;refine(HAg.out _ HB4.out).mono ?_;clear HAg;rintro e w5 ⟨m',s',k',rfl,Wi,hf5,hb5⟩
    have HZ5:=aj ((hb5.block _ (ag.1 Qu.out).1).trans Qu.out);obtain⟨p5,c5,rfl,_⟩:=aR Wi.rm;obtain⟨p8,c8,rfl,_⟩:=aR Wi.rs;obtain⟨XQ,c11,rfl,_⟩:=aR Wi.rk;have XD:nz (fX (b.lk z1 z2) (ae p5 ml.length c5) (ae p8 ss.length c8) (ae XQ ms.length c11) ml ss ms (w5.setRow (w.heap.size+2) ((b.lk z1 z2).cells (ae p5 ml.length c5) (ae p8 ss.length c8) (ae XQ ms.length c11)))):=aj (Wi.setRow hf5 (ag.1 Qu.out).1);have HB5:=aj (HB4.out.trans (hb5.mono HB4.out.size))
    clear Wi hb5 hf5))
 refine bf (results_cell_tmp (g:=w.heap.size+2) rfl rfl (gY _ _ 28 28 _ (0,0) _ (cD HZ5.out) cF rfl kQ)) rfl ⟨_,_,_,rfl,XD.out,dx HB5.out oM⟩
def Gu(w:ak):bm aq 149 #[ae none 0 0] w fun e w'=>e=aU (ae none 0 0)/\w=w':=by
 have hq:∀w,(binOp BinOp.eql 26 (Value.slice none 0 0) (Value.slice none 0 0)).run aq w=.ok (aH true) w:=fun w=>by kernel_rfl
 go_enter Tryz.func149,Tryz.ntmps149
 go_wp2
 go_ret
 exact⟨rfl,rfl⟩
def CC(m:Mk)(w:ak)(k:Nat)(hk:w.heap[k]?=some (ar m.cells 81 (0,0))):∃v' w',(Builtin.append_ #[26,26] 26 #[ae none 0 0,ae (some ⟨k,0,none⟩) 1 1]).run aq w=.ok v' w'/\w'.ownsRow w.heap.size 81 3 v' 1 (ep [m])/\Bw w w':=by
 obtain⟨i0,hi,hz0,hz1,hz2⟩:=info_parts KB
 obtain⟨v',w',hr,h2,h3,_⟩:=run_append_own (P:=aq) w w.heap.size 26 26 81 i0 (aO #[ah af 0,ah af 0,ah af 0]) 3 24 Tryz.underlying26 hi hz0 hz1 hz2 rfl dC (ae none 0 0) 0 [] (World.ownsRow_nil _ _ _ _) ⟨k,0,none⟩ 1 1 m.cells.toList rfl
  (fun j u hj=>by
   have h5:=aF hk j u (by simpa using hj);have e:(⟨k,0,none⟩:dc).add j=⟨k,j,none⟩:=by cases j<;>simp[Addr.add]
   rw[e];exact h5) (by simp[bJ]) (by unfold maxLen;omega) oM (aJ _)
 exact⟨v',w',hr,by simpa [ep] using h2,(ay _ _).grown h3 (aJ _) fun j hj=>by simp[jD] at hj⟩
def ZT(b:BB)(bn aL:ai)(ml:List Mn)(ss:List Int)(w:ak)(hL:Laid w)(hB:dh b bn aL (ae none 0 0) ml ss [] w)(m:Mk)(hm:lN b [m])(hne:bu b ml ss [m]≠[]) :
  bm aq 75 #[aO (b.cells bn aL (ae none 0 0)),aO m.cells] w fun e w'=>∃m' s' k',e=aU (cR #[aO (b.cells m' s' k'),ah af 0])/\fX b m' s' k' ml ss [m] w'/\Bw w w':=by
 obtain⟨pm,cm,rfl,_⟩:=aR hB.rm;obtain⟨pn,cn,rfl,_⟩:=aR hB.rs;have V7:=nB w (b.sl pm ml.length cm pn ss.length cn none 0 0) m.cells iL 28 81 28;have b0:Bw w (((w.alloc (ar (b.sl pm ml.length cm pn ss.length cn none 0 0) 28)).alloc (ar m.cells 81)).alloc (ar iL 28)):=(dF.alloc sM _).alloc sO _;have HT:nz (Two w (b.sl pm ml.length cm pn ss.length cn none 0 0) 28 m.cells 81 (((w.alloc (ar (b.sl pm ml.length cm pn ss.length cn none 0 0) 28)).alloc (ar m.cells 81)).alloc (ar iL 28))):=aj ⟨V7.1,V7.2.1,b0,sM⟩;have HZ0:=aj V7.2.2;have uL:=aj (fh b _ _ _ ml ss [] _ (hL.below b0) (hB.below b0))
 have HAg:nz (∀W k,Bw w W->Reads W k 1 (ep [m])->bm aq 150 #[aO (b.cells (ae pm ml.length cm) (ae pn ss.length cn) k)] W fun e w'=>∃m' s' k',e=aU (cR #[aO (b.cells m' s' k'),ah af 0])/\fX b m' s' k' ml ss [m] w'/\tN W.heap.size m' s' k'/\Bw W w'):=aj fun W k hb hr=>
  JE b _ _ _ ml ss [m] W (hL.below hb) ⟨hB.ok,hB.iF,hB.ng,hm,hB.rm.below hb,hB.rs.below hb,hr⟩ hne
 clear hL hB hne b0 V7 hm
 go_enter Tryz.func75,Tryz.ntmps75
 go_wp2_with (first
  |(go_at_call 71;refine uL.out.mono ?_;clear uL;rintro e w1 ⟨rfl,hb1⟩
    have qf:=aj (HT.out.next hb1);have ZX:=aj ((hb1.block (w.heap.size+2) sM).trans HZ0.out)
    clear hb1))
 refine Ph.cy kQ [
 pV (pv w.heap.size 14),
  pV (ae none 0 0),
  pV (ae none 0 0),
  pV (aO m.cells),
  fun v ds w9=>∃k,v=ae (some ⟨k,0,none⟩) 1 1/\w9.heap[k]?=some (ar m.cells 81 (0,0)),
  fun v ds w9=>w9.ownsRow (w.heap.size+3) 81 3 v 1 (ep [m]),
  pV (pv w.heap.size 14),
  fun v ds w9=>∃x,ds[1]?=some x/\w9.heap[w.heap.size]?=some (ar (b.cells (ae pm ml.length cm) (ae pn ss.length cn) x) 28 (0,0))]
  (fun L w9=>∃k0,w9.heap[w.heap.size]?=some (ar (b.cells (ae pm ml.length cm) (ae pn ss.length cn) k0) 28 (0,0))/\(L 7=false->k0=ae none 0 0)/\w9.heap[w.heap.size+1]?=some (ar m.cells 81 (0,0))/\w9.heap[w.heap.size+2]?=some (ar iL 28 (0,0))/\Bw w w9/\w.heap.size+3<=w9.heap.size) [(2,pv w.heap.size 0),(3,pv (w.heap.size+1) 0)] kQ ?rst (fun L L2 w1 w2 Uf h hb=>by
  obtain⟨k0,h1,h2,h3,h4,h5,h6⟩:=h
  exact⟨k0,(hb.block _ (ag.1 h1).1).trans h1,fun q=>h2 (Uf 7 q),(hb.block _ (ag.1 h3).1).trans h3,(hb.block _ (ag.1 h4).1).trans h4,h5.trans (hb.mono oM),aG h6 hb.size⟩) (⟨_,qf.out.one,fun _=>rfl,qf.out.two,ZX.out,qf.out.below.drew,(ag.1 ZX.out).1⟩) ⟨rfl,rfl,trivial⟩ ?reach ?rfin
 case rst=>
  refine⟨Ph.sV,Ph.sV,Ph.sV,Ph.sV,?_,?_,Ph.sV,?_,trivial⟩
  .rintro v ds L w1 w2 hS ⟨k,h1,h2⟩ hb;exact⟨k,h1,(hb.block _ (ag.1 h2).1).trans h2⟩
  .rintro v ds L w1 w2 hS h hb;exact a8 h hb
  rintro v ds L w1 w2 hS ⟨x,h1,h2⟩ hb;exact⟨x,h1,(hb.block _ (ag.1 h2).1).trans h2⟩
 case reach=>
  refine⟨?_,?_,?_,?_,?_,?_,?_,?_,trivial⟩<;>rintro Lf ev w1 hn nG hS hc hg hf ⟨b2,b3,-⟩ hd
  .exact Ph.t9
  .have d0:ev (aD 13)=_:=hd.1 rfl;obtain⟨k0,hb0,q1,_⟩:=hS;obtain rfl:=q1 (hn 7 kQ);have x:=aF hb0 14 _ rfl;exact Ph.t9
  .have d1:ev (aD 14)=_:=hd.1 rfl;refine Lag.Yields.call (f:=149) (args:=#[ae none 0 0]) ?_ (Gu w1) ?_
   .go_simp
   rintro e w2 ⟨rfl,rfl⟩;exact⟨_,rfl,rfl,bV (ay _ _)⟩
  .obtain⟨k0,hb0,q1,hm1,_⟩:=hS;have x0:=aF hm1 0 _ rfl;have x1:=aF hm1 1 _ rfl;have x2:=aF hm1 2 _ rfl;exact Ph.t9
  .have d3:ev (aD 16)=_:=hd.1 rfl;refine yN (v:=ae (some ⟨w1.heap.size,0,none⟩) 1 1) (w':=w1.alloc (ar m.cells 81)) ?_ ⟨⟨_,rfl,aw _ _⟩,bV dF⟩;go_simp
  .have d2:ev (aD 15)=_:=hd.1 rfl;obtain⟨k,e17,hk⟩:=hd.2.1 rfl;replace e17:ev (aD 17)=_:=e17;obtain⟨v',w',hr,ho,hb⟩:=CC m w1 k hk;refine yN (v:=v') (w':=w') ?_ ⟨ownsRow_base ho (by obtain⟨_,_,_,_,_,_,h⟩:=hS;exact h),bV hb⟩;simp[execOp,resolve,invoke,builtin,d2,e17,hr,Result.andThen]
  .exact Ph.t9
  have d6:ev (aD 19)=_:=hd.1 rfl;have d5:w1.ownsRow (w.heap.size+3) 81 3 (ev (aD 18)) 1 (ep [m]):=hd.2.1 rfl;obtain⟨p5,c5,Hl⟩:=bP d5;obtain⟨k0,hb0,q1,hm1,hz1,hbl,hsz⟩:=hS;have c1:=aF hb0 14 _ rfl;have f1:=dm hb0 14;refine Lag.Yields.skip (w':=w1.setCell ⟨w.heap.size,14,none⟩ (ev (aD 18))) ?_ ⟨⟨_,rfl,dn _ hb0⟩,.inr ⟨⟨_,dn _ hb0,(by intro h;simp[Ph.upd] at h),(aW _ _ _ _ (by show _≠w.heap.size;omega)).trans hm1,(aW _ _ _ _ (by show _≠w.heap.size;omega)).trans hz1,hbl.setCell (p:=⟨w.heap.size,14,none⟩) (aJ _) _,by simpa using hsz⟩,?_⟩⟩
  .rw[Hl];go_simp
  .intro j u ds hj hL hp
   match j,hp with
   |0,hp|1,hp|2,hp|3,hp=>exact hp
   |4,⟨k,h1,h2⟩=>exact⟨k,h1,(aW _ _ _ _ (by rintro rfl;rw[hb0] at h2;simp at h2)).trans h2⟩
   |5,hp=>exact di hp hb0 dC
   |6,hp=>exact hp
   |7,_=>exact(hj rfl).elim
   |j+8,_=>trivial
 case rfin=>
  intro a2 w2 hR;have hS:=hR.s;have e5:w2.ownsRow (w.heap.size+3) 81 3 (a2.tmps.getD 18 au) 1 (ep [m]):=hR.val 5;obtain⟨x,h18,lj⟩:=hR.val 7;have k2:a2.tmps.getD 2 au=pv w.heap.size 0:=hR.kept kQ;have k4:a2.tmps.getD 4 au=fP (some ⟨w.heap.size+1+1,0,none⟩):=hR.kept kQ;have ha:=hR.lits 24 rfl;simp only[aP,List.range.loop,List.map] at ha;clear hR;have Hl:a2.tmps.getD 18 au=x:=aT h18;rw[Hl] at e5;rw[k2,k4] at ha;generalize a2.tmps.getD=zz at ha;obtain⟨p5,c5,rfl⟩:=bP e5;obtain⟨_,_,_,_,hz,hbl,hsz⟩:=hS;have HK:=aj lj;have HZ:=aj hz;have Hb:=aj hbl;have XB:=aj (Reads.gG e5 oM (by rfl));clear k2 k4 h18 Hl e5 lj hz hbl;subst ha
  go_wp2_with (first
   |(refine mS rfl 28 _ rfl _ rfl 28 _ (0,0) _ HK.out cF rfl kQ ?_)
   |(refine fY rfl 28 _ _ rfl _ _ rfl rfl 28 _ HZ5.out kQ rfl (by simp[bJ]) ?_)
   |(go_at_call 150;refine(HAg.out _ _ Hb.out XB.out).mono ?_;clear HAg;rintro e w5 ⟨m',s',k',rfl,Wi,hf5,hb5⟩
     have HZ5:=aj ((hb5.block _ (ag.1 HZ.out).1).trans HZ.out);obtain⟨p6,c6,rfl,_⟩:=aR Wi.rm;obtain⟨p8,c8,rfl,_⟩:=aR Wi.rs;obtain⟨XQ,c11,rfl,_⟩:=aR Wi.rk;have XD:nz (fX b (ae p6 ml.length c6) (ae p8 ss.length c8) (ae XQ ([m]:List Mk).length c11) ml ss [m] (w5.setRow (w.heap.size+2) (b.cells (ae p6 ml.length c6) (ae p8 ss.length c8) (ae XQ ([m]:List Mk).length c11)))):=aj (Wi.setRow hf5 (ag.1 HZ.out).1);have HB5:=aj (Hb.out.trans (hb5.mono Hb.out.size))
     clear Wi hb5 hf5))
  refine bf (results_cell_tmp (g:=w.heap.size+2) rfl rfl (gY _ _ 28 28 _ (0,0) _ (cD HZ5.out) cF rfl kQ)) rfl ⟨_,_,_,rfl,XD.out,dx HB5.out oM⟩
def Ln(b:BB)(bn aL az:ai)(ml:List Mn)(ss:List Int)(ms:List Mk)(w:ak)(hL:Laid w)(hB:dh b bn aL az ml ss ms w)(mi:Int)(h1:1<=mi)(h2:mi<=b.minutes)(h3:mi<dI ss ms) :
  bm aq 82 #[aO (b.cells bn aL az),ah af mi] w (Rt w (cR #[aO iL,ah af 7])):=by
 have AB:=hB.ok.minutes;have oK:∀s∈ss,1<=s/\s<=8:=fun s h=>by have:=hB.ng.mem s h;omega
 have M0:∀m∈ms,1<=m.minute/\m.minute<=8:=fun m h=>by have:=hB.lK.mem m h;omega
 obtain⟨pm,cm,rfl,_⟩:=aR hB.rm;obtain⟨pn,cn,rfl,_⟩:=aR hB.rs;obtain⟨pk,ck,rfl,_⟩:=aR hB.rk;have b0:Bw w ((w.alloc (ar (b.sl pm ml.length cm pn ss.length cn pk ms.length ck) 28)).alloc (ar iL 28)):=dF.alloc sM _;have HT:nz (Two w (b.sl pm ml.length cm pn ss.length cn pk ms.length ck) 28 iL 28 ((w.alloc (ar (b.sl pm ml.length cm pn ss.length cn pk ms.length ck) 28)).alloc (ar iL 28))):=aj ⟨(Two.mk' w _ _ _ _).one,(Two.mk' w _ _ _ _).two,b0,sM⟩;have uL:=aj (fh b _ _ _ ml ss ms _ (hL.below b0) (hB.below b0));have HBh:nz (∀W,Bw w W->bm aq 155 #[aO (b.sl pm ml.length cm pn ss.length cn pk ms.length ck)] W fun e w'=>e=aU (ah af (dI ss ms))/\Bw W w'):=aj fun W hb=>GU b _ _ _ ss ms oK M0 W (hB.below hb).rs (hB.below hb).rk;clear hL hB b0 oK M0;generalize dI ss ms=bh at *;generalize ml.length=lm at *;generalize ss.length=ln at *;generalize ms.length=lk at *
 go_enter Tryz.func82,Tryz.ntmps82
 go_wp2_with (first
  |(refine fY rfl 28 _ _ rfl _ _ rfl rfl 28 _ HZ.out kQ rfl (by simp[bJ]) ?_)
  |(go_at_call 71;refine uL.out.mono ?_;clear uL;rintro e w1 ⟨rfl,hb1⟩
    have tO:=HT.out.next hb1;have qf:=aj tO
    obtain⟨x0,x1,x2,x3,x4,x5,x6,x7,x8,x9,qY,qX,r8,rT,rW⟩:=bZ tO.one
    clear tO hb1)
  |(go_at_call 132;refine(nV b _ _ _ mi h1 h2 _).mono ?_;rintro e w2 ⟨rfl,hb2⟩
    have Iz:=aj ((hb2.block w1.heap.size sM).trans (aw w1 _));have Iw:=aj ((qf.out.next ((ay _ _).alloc (aJ _) (ar (b.sl pm lm cm pn ln cn pk lk ck) 119))).next hb2);clear x0 x1 x2 x3 x4 x5 x6 x7 x8 x9 qY qX r8 rT rW;obtain⟨x0,x1,x2,x3,x4,x5,x6,x7,x8,x9,qY,qX,r8,rT,rW⟩:=bZ Iz.out
    clear hb2)
  |(go_at_call 155;refine(HBh.out _ Iw.out.below).mono ?_;clear HBh;rintro e w3 ⟨rfl,hb3⟩
    have RN:=aj (Iw.out.next hb3);have HZ:=aj RN.out.two
    clear hb3))
 (try simp only[Exit.inBlock,Exit.then])
 exact bf (results_cell_tmp (g:=w.heap.size+1) rfl rfl (gY _ _ 28 28 _ (0,0) _ (cD HZ.out) cF rfl kQ)) rfl ⟨rfl,dx RN.out.below oM⟩
section
variable(b:BB)(bn aL az:ai)(ml:List Mn)(ss:List Int)(ms:List Mk)(w:ak)
theorem Xz(hL:Laid w)(hB:dh b bn aL az ml ss ms w) :
  bm aq 33 #[aO (b.cells bn aL az)] w (Rt w (cR #[ah af b.holds,ah af 0])):=by
 have b0:Bw w (w.alloc (ar (b.cells bn aL az) 28)):=dF;have uL:=aj (fh b bn aL az ml ss ms _ (hL.below b0) (hB.below b0));have dp:=hB.ok;have HOk:=aj dp;have LB:=aj b0;clear hL hB b0 dp
 go_enter Tryz.func33,Tryz.ntmps33
 go_wp2_with (first
  |(go_at_call 71;refine uL.out.mono ?_;clear uL;rintro e w1 ⟨rfl,hb1⟩
    have lj:=(hb1.block w.heap.size sM).trans (aw w _);obtain⟨x0,x1,x2,x3,x4,x5,x6,x7,x8,x9,qY,qX,r8,rT,rW⟩:=bZ lj
    have zQ:=aj hb1;clear lj hb1)
  |(go_at_call 115;refine(Jl b HOk.out bn aL az _).mono ?_;rintro e w2 ⟨rfl,hb2⟩;have qp:=aj hb2;clear hb2))
 go_ret2;have h1:=LB.out.trans (zQ.out.mono LB.out.size);exact⟨rfl,h1.trans (qp.out.mono h1.size)⟩
theorem adw(hL:Laid w)(hB:dh b bn aL az ml ss ms w)(n:Int)(hn:0<=n/\n<=999) :
  bm aq 65 #[aO (b.cells bn aL az),ah af n] w (Rt w (cR #[ah af (b.WW n),ah af 0])):=by
 have b0:Bw w (w.alloc (ar (b.cells bn aL az) 28)):=dF;have uL:=aj (fh b bn aL az ml ss ms _ (hL.below b0) (hB.below b0));have dp:=hB.ok;have HOk:=aj dp;have LB:=aj b0;clear hL hB b0 dp
 go_enter Tryz.func65,Tryz.ntmps65
 go_wp2_with (first
  |(go_at_call 71;refine uL.out.mono ?_;clear uL;rintro e w1 ⟨rfl,hb1⟩
    have lj:=(hb1.block w.heap.size sM).trans (aw w _);obtain⟨x0,x1,x2,x3,x4,x5,x6,x7,x8,x9,qY,qX,r8,rT,rW⟩:=bZ lj
    have zQ:=aj hb1;clear lj hb1)
  |(go_at_call 138;refine(iX _ _ _ oM oM _).mono ?_;rintro e w' ⟨rfl,rfl⟩)
  |(go_at_call 139;refine(KZ b HOk.out bn aL az n hn _).mono ?_;rintro e w2 ⟨rfl,hb2⟩;have qp:=aj hb2;clear hb2))
 go_ret2;have h1:=LB.out.trans (zQ.out.mono LB.out.size);exact⟨rfl,h1.trans (qp.out.mono h1.size)⟩
theorem Oj(hL:Laid w)(hB:dh b bn aL az ml ss ms w) :
  bm aq 42 #[aO (b.cells bn aL az)] w (Rt w (cR #[ah af (bu b ml ss ms).length,ah af 0])):=by
 have b0:Bw w (w.alloc (ar (b.cells bn aL az) 28)):=dF;have uL:=aj (fh b bn aL az ml ss ms _ (hL.below b0) (hB.below b0));have HBk:=aj (hB.below b0);have LB:=aj b0;have hlen:=jQ ss ms hB.ok hB.iF;clear hL hB b0
 go_enter Tryz.func42,Tryz.ntmps42
 go_wp2_with (first
  |(go_at_call 71;refine uL.out.mono ?_;clear uL;rintro e w1 ⟨rfl,hb1⟩
    have lj:=(hb1.block w.heap.size sM).trans (aw w _);obtain⟨x0,x1,x2,x3,x4,x5,x6,x7,x8,x9,qY,qX,r8,rT,rW⟩:=bZ lj
    have zQ:=aj hb1;clear lj hb1)
  |(go_at_call 116;refine(pY b bn aL az ml ss ms _ (HBk.out.below zQ.out)).mono ?_;rintro e w2 ⟨v,rfl,jA,hb2⟩;have qp:=aj hb2
    obtain⟨p,cap,rfl,_⟩:=aR (jA.reads oM);clear hb2 jA))
 go_ret2;have h1:=LB.out.trans (zQ.out.mono LB.out.size);exact⟨rfl,h1.trans (qp.out.mono h1.size)⟩
end
def eZ(s:ByteArray)(k:Nat):Int:=if h:k<s.size then(s[k].toNat:Int) else 0
def xl(s:ByteArray)(k:Nat):0<=eZ s k/\eZ s k<256:=by
 unfold eZ;split
 .have:=s[k].toNat_lt;omega
 omega
def zf(s:ByteArray)(k:Nat)(h:k<s.size)(w:ak):(Instr.index 9 (.string s) (ah af (k:Int))).run aq w=.ok (ah .u8 (eZ s k)) w:=by
 rw[run_index_string w 9 s af _ Tryz.underlying9,dif_pos ⟨oM,oM⟩];simp[eZ,h]
def A4(c:Int)(h:0<=c/\c<256):IntKind.i64.wrap c=c:=by rw[bp];omega
def pF(s:ByteArray)(k:Nat):Bool:=aS (eZ s k) 97 122||aS (eZ s k) 48 57
def kX(s:ByteArray):Bool:=(aS s.size 1 12&&aS (eZ s 0) 97 122)&&(List.range' 1 (s.size-1)).all (pF s)
def S9{s:ByteArray}(h0:aS s.size 1 12=true)(h1:aS (eZ s 0) 97 122=true)(h:∀i,1<=i->i<s.size->pF s i=true):kX s=true:=by
 unfold kX;simp only[h0,h1,Bool.and_self,Bool.true_and,a7,List.mem_range'_1];intro x hx;exact h x hx.1 oM
def Ps{s:ByteArray}(h:(aS s.size 1 12&&aS (eZ s 0) 97 122)=false):kX s=false:=by
 unfold kX;rw[h];rfl
def S_{s:ByteArray}(i:Nat)(h1:1<=i)(h2:i<s.size)(h:pF s i=false):kX s=false:=by
 unfold kX;rw[Bool.and_eq_false_iff];right;rw[List.all_eq_false];exact⟨i,List.mem_range'_1.2 ⟨h1,oM⟩,by rw[h];simp⟩
def Pr{s:ByteArray}(h:kX s=true):Lq s:=by
 unfold kX at h;simp only[aI,a7,List.mem_range'_1] at h;obtain⟨⟨h0,h1⟩,h2⟩:=h;have h0:=gW.1 h0;refine⟨⟨oM,oM⟩,fun k hk=>?_⟩;rcases Nat.eq_zero_or_pos k with rfl|hp
 .left;have:=gW.1 h1;unfold eZ at this;rw[dif_pos hk] at this;exact⟨oM,oM⟩
 have h3:=h2 k ⟨hp,oM⟩;unfold pF eZ at h3;rw[dif_pos hk,Bool.or_eq_true,gW,gW] at h3;rcases h3 with h3|h3
 .left;exact⟨oM,oM⟩
 right;exact⟨oM,oM,oM⟩
def Ay(c:Int)(hc0:0<=c/\c<256)(w:ak):bm aq 183 #[ah .u8 c] w (Rt w (aH (aS c 97 122))):=by
 refine lu Tryz.func183 rfl rfl [(0,ah .u8 c)] ⟨jB rfl,trivial⟩ fun a hF=>?_;refine(fun h:∀W,Bw w W->CU aq _ _ a W=>h w (ay _ _)) ?_;intro W HB;refine fe [(2,aH false)] hF ?_;intro a W ho hF;replace HB:=HB.tr ho;replace hF:=hF.tl
 refine ox [pV (ah .u8 c),pV (ah af c),pV (aH (aS c 97 122)),pV (aH (aS c 97 122))]
  _ kQ hF.size hF.base ?_ ?_ ?_
 .exact⟨sV,sV,sV,sV,trivial⟩
 .refine⟨?_,?_,?_,?_,trivial⟩<;>rintro ev w1 hS hc hg hf ⟨b0,-⟩ hd
  all_goals try
   try have d0:ev (aD _)=_:=hd.1 rfl
   refine yw rfl ?_ rfl;go_simp;done
  .have d0:ev (aD 3)=_:=hd.1 rfl;have hw:=A4 c hc0;exact tV
  have d1:ev (aD 4)=_:=hd.1 rfl;refine yc (il c 97 122 w1) ?_ (fun _=>rfl);go_simp
 intro a W hR;have ho:=hR.s;replace HB:=HB.tr ho;replace hF:=(hR.fr hF).cons (t:=2) (hR.val 3);clear hR ho;refine fQ ?_;exact bf (cg rfl _ _ _) hF.defers ⟨congrArg bq ((hF.g 0 rfl):a.eval (aD 2)=aH (aS c 97 122)),HB⟩
def MO(c:Int)(hc0:0<=c/\c<256)(w:ak):bm aq 184 #[ah .u8 c] w (Rt w (aH (aS c 48 57))):=by
 refine lu Tryz.func184 rfl rfl [(0,ah .u8 c)] ⟨jB rfl,trivial⟩ fun a hF=>?_;refine(fun h:∀W,Bw w W->CU aq _ _ a W=>h w (ay _ _)) ?_;intro W HB;refine fe [(2,aH false)] hF ?_;intro a W ho hF;replace HB:=HB.tr ho;replace hF:=hF.tl
 refine ox [pV (ah .u8 c),pV (ah af c),pV (aH (aS c 48 57)),pV (aH (aS c 48 57))]
  _ kQ hF.size hF.base ?_ ?_ ?_
 .exact⟨sV,sV,sV,sV,trivial⟩
 .refine⟨?_,?_,?_,?_,trivial⟩<;>rintro ev w1 hS hc hg hf ⟨b0,-⟩ hd
  all_goals try
   try have d0:ev (aD _)=_:=hd.1 rfl
   refine yw rfl ?_ rfl;go_simp;done
  .have d0:ev (aD 3)=_:=hd.1 rfl;have hw:=A4 c hc0;exact tV
  have d1:ev (aD 4)=_:=hd.1 rfl;refine yc (il c 48 57 w1) ?_ (fun _=>rfl);go_simp
 intro a W hR;have ho:=hR.s;replace HB:=HB.tr ho;replace hF:=(hR.fr hF).cons (t:=2) (hR.val 3);clear hR ho;refine fQ ?_;exact bf (cg rfl _ _ _) hF.defers ⟨congrArg bq ((hF.g 0 rfl):a.eval (aD 2)=aH (aS c 48 57)),HB⟩
def S8(s:ByteArray)(w:ak):bm aq 177 #[.string s] w (Rt w (aH (kX s))):=by
 refine lu Tryz.func177 rfl rfl [(0,.string s)] ⟨jB rfl,trivial⟩ fun a hF=>?_;refine(fun h:∀W,Bw w W->CU aq _ _ a W=>h w (ay _ _)) ?_;intro W HB;refine fe [(2,aH false)] hF ?_;intro a W ho hF;replace HB:=HB.tr ho;refine dZ ?_
 refine ox [pV (.string s),pV (ah af (s.size:Int)),pV (aH (aS (s.size:Int) 1 12)),pV (aH (!(aS (s.size:Int) 1 12))),pV (aH (!(aS (s.size:Int) 1 12))),pC (!(!(aS (s.size:Int) 1 12))) (.string s),pC (!(!(aS (s.size:Int) 1 12))) (ah .u8 (eZ s 0)),pC (!(!(aS (s.size:Int) 1 12))) (aH (aS (eZ s 0) 97 122)),pC (!(!(aS (s.size:Int) 1 12))) (aH (!(aS (eZ s 0) 97 122))),pV (aH ((!(aS (s.size:Int) 1 12))||(!(aS (eZ s 0) 97 122))))]
  _ kQ hF.size hF.base ?_ ?_ ?_
 .exact⟨sV,sV,sV,sV,sV,sC,sC,sC,sC,sV,trivial⟩
 .refine⟨?_,?_,?_,?_,?_,?_,?_,?_,?_,?_,trivial⟩<;>rintro ev w1 hS hc hg hf ⟨-,b0,-⟩ hd
  all_goals try
   try have d0:ev (aD _)=_:=hd.1 rfl
   refine yw rfl ?_ rfl;go_simp;done
  all_goals try
   try have d0:ev (aD _)=_:=hd.1 rfl
   try have c0:_->ev (aD _)=_:=hd.1 rfl
   try have d1:ev (aD _)=_:=hd.2.1 rfl
   first|refine gC d0 mR fun hA=>?_|refine gC d1 mR fun hA=>?_
   try replace c0:=c0 hA
   refine yw rfl ?_ (fun _=>rfl);go_simp;done
  .have d1:ev (aD 5)=_:=hd.1 rfl;refine yc (il (s.size:Int) 1 12 w1) ?_ (fun _=>rfl);go_simp
  .have d5:_->ev (aD 9)=_:=hd.1 rfl;have d4:ev (aD 8)=_:=hd.2.1 rfl;refine gC d4 mR fun hA=>?_;have y5:=d5 hA
   have PB:0<s.size:=by
    have h9:aS (s.size:Int) 1 12=true:=by revert hA;simp
    have:=gW.1 h9;omega
   have hi:=zf s 0 PB w1;refine yN (v:=(ah .u8 (eZ s 0):ai)) (w':=w1) ?_ ⟨fun _=>rfl,bV (ay _ _)⟩;rw[show eZ s 0=((s[0]'PB).toNat:Int) from dif_pos PB];go_simp
  .have d6:_->ev (aD 10)=_:=hd.1 rfl;have d4:ev (aD 8)=_:=hd.2.1 rfl;refine gC d4 mR fun hA=>?_;have y6:=d6 hA;refine yc (args:=#[ah .u8 (eZ s 0)]) (Ay (eZ s 0) (xl _ _) w1) ?_ (fun _=>fun _=>rfl);go_simp
  have d4:ev (aD 8)=_:=hd.1 rfl;have d8:_->ev (aD 12)=_:=hd.2.1 rfl;exact yO rfl hc d4 (fun hq=>d8 (by simp[hq])) (rfl)
 intro a W hR;have ho:=hR.s;replace HB:=HB.tr ho;replace hF:=(hR.fr hF).cons (t:=13) (hR.val 9);clear hR ho;refine b_ (t:=((!(aS (s.size:Int) 1 12))||(!(aS (eZ s 0) 97 122)))) (hF.g 0 rfl) (fun Tl=>?_) (fun Tl=>?_)
 .replace hF:=hF.tl;have hres:kX s=false:=Ps (by revert Tl;cases aS (s.size:Int) 1 12<;>cases aS (eZ s 0) 97 122<;>simp);replace hF:=hF.tl;refine fe [(2,aH false)] hF ?_;intro a W ho hF;replace HB:=HB.tr ho;refine fQ ?_;exact bf (cg rfl _ _ _) hF.defers ⟨congrArg bq (((hF.g 0 rfl):a.eval (aD 2)=aH false).trans (congrArg _ hres.symm)),HB⟩
 replace hF:=hF.tl;have h0:aS (s.size:Int) 1 12=true:=by revert Tl;cases aS (s.size:Int) 1 12<;>simp
 have h1:aS (eZ s 0) 97 122=true:=by revert Tl;cases aS (eZ s 0) 97 122<;>simp
 have hn:=gW.1 h0;refine eN ?_;refine dZ ?_;refine fe [(3,ah af 1)] hF ?_;intro a W ho hF;replace HB:=HB.tr ho;refine jC ?_;refine wp_loop (fun a W=>∃k:Nat,k<=s.size/\(1<=k/\∀i,1<=i->i<k->pF s i=true)/\iw 32 a [(3,ah af (k:Nat)),(0,.string s)]/\Bw w W) (fun a _=>s.size-(intOf (a.eval (aD 3))).toNat) ⟨1,oM,⟨aJ _,fun i h1 h2=>by omega⟩,⟨hF.size,hF.defers,(by obtain⟨b3,-,b0,-⟩:=hF.base;exact⟨b3,b0,trivial⟩)⟩,HB⟩ ?_;clear hF HB
 try clear a
 try clear W
 rintro a W ⟨k,tP,pI,hF,HB⟩;have hk3:a.eval (aD 3)=ah af (k:Nat):=(hF.g 0 rfl)
 refine dZ ?_;refine fe [(17,aH (decide ((k:Int)<(s.size:Int))))] hF ?_;intro a W ho hF;replace HB:=HB.tr ho;refine b_ (t:=(decide ((k:Int)<(s.size:Int)))) (hF.g 0 rfl) (fun acp=>?_) (fun acp=>?_)
 .replace hF:=hF.tl;have zi:k<s.size:=by simpa using acp
  have hw1:IntKind.i64.wrap ((k:Int)+1)=(k:Int)+1:=by rw[bp];omega
  refine eN ?_;refine dZ ?_;refine jC ?_
  refine ox [pV (.string s),pV (ah af (k:Nat)),pV (ah .u8 (eZ s k)),pV (aH (aS (eZ s k) 97 122)),pV (aH (!(aS (eZ s k) 97 122))),pV (aH (!(aS (eZ s k) 97 122))),pC (!(aS (eZ s k) 97 122)) (.string s),pC (!(aS (eZ s k) 97 122)) (ah af (k:Nat)),pC (!(aS (eZ s k) 97 122)) (ah .u8 (eZ s k)),pC (!(aS (eZ s k) 97 122)) (aH (aS (eZ s k) 48 57)),pC (!(aS (eZ s k) 97 122)) (aH (!(aS (eZ s k) 48 57))),pV (aH ((!(aS (eZ s k) 97 122))&&(!(aS (eZ s k) 48 57))))]
   _ kQ hF.size hF.base ?_ ?_ ?_
  .exact⟨sV,sV,sV,sV,sV,sV,sC,sC,sC,sC,sC,sV,trivial⟩
  .refine⟨?_,?_,?_,?_,?_,?_,?_,?_,?_,?_,?_,?_,trivial⟩<;>rintro ev w1 hS hc hg hf ⟨b3,b0,-⟩ hd
   all_goals try
    try have d0:ev (aD _)=_:=hd.1 rfl
    refine yw rfl ?_ rfl;go_simp;done
   all_goals try
    try have d0:ev (aD _)=_:=hd.1 rfl
    try have c0:_->ev (aD _)=_:=hd.1 rfl
    try have d1:ev (aD _)=_:=hd.2.1 rfl
    first|refine gC d0 zG fun hA=>?_|refine gC d1 zG fun hA=>?_
    try replace c0:=c0 hA
    refine yw rfl ?_ (fun _=>rfl);go_simp;done
   .have d0:ev (aD 20)=_:=hd.1 rfl;have d1:ev (aD 21)=_:=hd.2.1 rfl;have hi:=zf s k zi w1;refine yN (v:=(ah .u8 (eZ s k):ai)) (w':=w1) ?_ ⟨rfl,bV (ay _ _)⟩;go_simp
   .have d2:ev (aD 22)=_:=hd.1 rfl;refine yc (args:=#[ah .u8 (eZ s k)]) (Ay (eZ s k) (xl _ _) w1) ?_ (fun _=>rfl);go_simp
   .have d6:_->ev (aD 26)=_:=hd.1 rfl;have d7:_->ev (aD 27)=_:=hd.2.1 rfl;have d5:ev (aD 25)=_:=hd.2.2.1 rfl;refine gC d5 zG fun hA=>?_;have y6:=d6 hA;have y7:=d7 hA;have hi:=zf s k zi w1;refine yN (v:=(ah .u8 (eZ s k):ai)) (w':=w1) ?_ ⟨fun _=>rfl,bV (ay _ _)⟩;go_simp
   .have d8:_->ev (aD 28)=_:=hd.1 rfl;have d5:ev (aD 25)=_:=hd.2.1 rfl;refine gC d5 zG fun hA=>?_;have y8:=d8 hA;refine yc (args:=#[ah .u8 (eZ s k)]) (MO (eZ s k) (xl _ _) w1) ?_ (fun _=>fun _=>rfl);go_simp
   have d5:ev (aD 25)=_:=hd.1 rfl;have d10:_->ev (aD 30)=_:=hd.2.1 rfl;exact yA rfl hc d5 (fun hq=>d10 (by simp[hq])) (rfl)
  intro a W hR;have ho:=hR.s;replace HB:=HB.tr ho;replace hF:=(hR.fr hF).cons (t:=31) (hR.val 11);clear hR ho;refine b_ (t:=((!(aS (eZ s k) 97 122))&&(!(aS (eZ s k) 48 57)))) (hF.g 0 rfl) (fun Tj=>?_) (fun Tj=>?_)
  .replace hF:=hF.tl;have hres:kX s=false:=S_ k pI.1 zi (by unfold pF;revert Tj;cases aS (eZ s k) 97 122<;>cases aS (eZ s k) 48 57<;>simp);refine fe [(2,aH false)] hF ?_;intro a W ho hF;replace HB:=HB.tr ho;refine fQ ?_;exact bf (cg rfl _ _ _) hF.defers ⟨congrArg bq (((hF.g 0 rfl):a.eval (aD 2)=aH false).trans (congrArg _ hres.symm)),HB⟩
  replace hF:=hF.tl;have hz:pF s k=true:=by unfold pF;revert Tj;cases aS (eZ s k) 97 122<;>cases aS (eZ s k) 48 57<;>simp
  refine eN ?_;have qo:=hF;replace hF:=hF.tl;refine Ou ⟨[],[(1,ah af ((k:Nat)+1))],[],[]⟩ [(3,ah af ((k:Nat)+1))] qo hF trivial ⟨fun w1 hS _=>ge (congrArg (ax af) (show IntKind.i64.wrap ((k:Nat)+1)=((k:Nat)+1) by rw[bp];omega)),trivial⟩ ?_;intro a W ho hF;clear qo;replace HB:=HB.tr ho;refine⟨⟨k+1,oM,⟨oM,fun i h1 h2=>if hik:i<k then pI.2 i h1 hik else by have e:i=k:=(by omega);rw[e];exact hz⟩,⟨hF.size,hF.defers,hF.base⟩,HB⟩,?_⟩;rw[show a.eval (aD 3)=ah af ((k:Nat)+1) from(hF.g 0 rfl)];simp only[hk3];simp[intOf];omega
 replace hF:=hF.tl;refine wp_exit ?_;have V3:k=s.size:=by simp at acp;omega
 have hres:kX s=true:=S9 h0 h1 fun i Bv Zg=>pI.2 i Bv oM;show CU aq _ _ a W;refine fe [(2,aH true)] hF ?_;intro a W ho hF;replace HB:=HB.tr ho;refine fQ ?_;exact bf (cg rfl _ _ _) hF.defers ⟨congrArg bq (((hF.g 0 rfl):a.eval (aD 2)=aH true).trans (congrArg _ hres.symm)),HB⟩
def qm(l:List Mn)(i:Nat):Mn:=l.getD i ⟨⟨#[]⟩,0,0⟩
def Aq(l:List Mn)(i:Nat)(h:i<l.length):qm l i=l[i]:=by simp[qm,h]
def yK(ml:List Mn)(g off:Nat)(W:ak):Prop:=g<W.heap.size/\∀i,i<ml.length->W.cell? ⟨g,off+i*3,none⟩=some (.string (qm ml i).name)/\W.cell? ⟨g,off+i*3+1,none⟩=some (ah af (qm ml i).lo)/\W.cell? ⟨g,off+i*3+2,none⟩=some (ah af (qm ml i).hi)
def yK.below{ml:List Mn}{g off:Nat}{W W':ak}(h:yK ml g off W)(ho:Bw W W'):yK ml g off W':=
 ⟨bA h.1 ho.size,fun i hi=>⟨(ho.cell (p:=⟨g,off+i*3,none⟩) h.1).trans (h.2 i hi).1,(ho.cell (p:=⟨g,off+i*3+1,none⟩) h.1).trans (h.2 i hi).2.1,(ho.cell (p:=⟨g,off+i*3+2,none⟩) h.1).trans (h.2 i hi).2.2⟩⟩
def Reads.bn{w:ak}{p:Option dc}{n c:Nat}{ml:List Mn}(h:Reads w (ae p n c) n (dX ml))(k:Nat)(hk:k<ml.length):∃g off,p=some ⟨g,off,none⟩/\yK ml g off w:=by
 rcases h with⟨_,_,h⟩|⟨g,off,cap,h,_,hg,hc⟩
 .have:=congrArg List.length h;rw[t_] at this;simp at this;omega
 cases h;refine⟨g,off,rfl,hg,fun i hi=>?_⟩;rw[Aq ml i hi];exact EB hc i hi
def E9(a b:ByteArray):Bool:=a.toList==b.toList
def Sn{a b:ByteArray}:E9 a b=true↔a=b:=by
 unfold E9;constructor
 .intro h
  by_cases e:a=b
  .exact e
  exact absurd (by simpa using h) (N1 e)
 rintro rfl;simp
def twice(l:List Mn)(i:Nat):Bool:=(aP i).any fun j=>E9 (qm l j).name (qm l i).name
def IY{l:List Mn}{i:Nat}(j:Nat)(hj:j<i)(h:E9 (qm l j).name (qm l i).name=true):twice l i=true:=by
 unfold twice;rw[xq];exact⟨j,bO.2 hj,h⟩
def Uz{l:List Mn}{i:Nat}(h:∀j,j<i->E9 (qm l j).name (qm l i).name=false):twice l i=false:=by
 unfold twice;rw[List.any_eq_false];intro j hj;rw[h j (bO.1 hj)];simp
def qU(m:Mn):Bool:=(!(cN m.lo m.hi 1 99))||decide (m.hi-m.lo≥3)
def nS(l:List Mn)(i:Nat):Int:=if (!(kX (qm l i).name))=true then 4 else if twice l i=true then 5 else if qU (qm l i)=true then 1 else 0
def ry(l:List Mn):Int:=if (l.length:Int)>3 then 2 else(((aP l.length).map (nS l)).find? fun h=>h !=0).getD 0
def R3{lo hi:Int}(h:cN lo hi 1 99=true):IntKind.i64.wrap (hi-lo)=hi-lo:=by
 unfold cN at h;simp at h;rw[bp];omega
def FL{l:List Mn}{i:Nat}(h:nS l i=0):kX (qm l i).name=true/\twice l i=false/\qU (qm l i)=false:=by
 unfold nS at h;cases h1:kX (qm l i).name<;>cases h2:twice l i<;>cases h3:qU (qm l i)<;>simp_all
def Vj{l:List Mn}(h:ry l=0):xp l:=by
 unfold ry at h
 have h3:(l.length:Int)<=3:=by
  refine Int.not_lt.1 fun h'=>?_;rw[if_pos h'] at h;cases h
 rw[if_neg oM] at h
 have hz:∀i,i<l.length->nS l i=0:=by
  intro i hi;refine fH fun hne=>?_
  have hs:((aP l.length).map (nS l)).find? (fun h=>h !=0)≠none:=by
   rw[Ne,List.find?_eq_none];intro hall;exact hall _ (dW.2 ⟨i,bO.2 hi,rfl⟩) (by simpa using hne)
  cases e:((aP l.length).map (nS l)).find? (fun h=>h !=0) with
  |none=>exact hs e
  |some x=>
   rw[e] at h;have:=List.find?_some e;simp at h this;exact this h
 refine⟨fun m hm=>?_,fun i k hi hk hik he=>?_,oM⟩
 .obtain⟨i,hi,rfl⟩:=jJ hm;obtain⟨h1,-,h2⟩:=FL (hz i hi);rw[Aq l i hi] at h1 h2;unfold qU cN at h2;simp at h2;exact⟨Pr h1,oM,oM,oM,oM⟩
 obtain⟨-,h2,-⟩:=FL (hz k hk);have:=IY (l:=l) i hik (Sn.2 (by rw[Aq l i hi,Aq l k hk];exact he));rw[this] at h2;cases h2
def Ko{l:List Mn}(i:Nat)(h3:¬(l.length:Int)>3)(hi:i<l.length)(hpre:∀k,k<i->nS l k=0)(h:nS l i≠0):ry l=nS l i:=by
 unfold ry;rw[if_neg h3,AP _ _ i hi hpre h];rfl
def SX{l:List Mn}(h3:¬(l.length:Int)>3)(hpre:∀k,k<l.length->nS l k=0):ry l=0:=by
 unfold ry;rw[if_neg h3,ux _ _ hpre];rfl
def K0(b:BB)(aL az:ai)(p1:Option dc)(c1:Nat)(ml:List Mn)(hlen:ml.length<=1000000)(w:ak)(hv:Reads w (ae p1 ml.length c1) ml.length (dX ml)):bm aq 146 #[aO (b.cells (ae p1 ml.length c1) aL az)] w (Rt w (ah af (ry ml))):=by
 refine lu Tryz.func146 rfl rfl [(0,aO (b.cells (ae p1 ml.length c1) aL az))] ⟨jB rfl,trivial⟩ fun a hF=>?_;refine(fun h:∀W,Bw w W->CU aq _ _ a W=>h w (ay _ _)) ?_;intro W HB;have HC:nz (∀k,k<ml.length->∃g off,p1=some ⟨g,off,none⟩/\yK ml g off w):=aj fun k hk=>hv.bn k hk;clear hv
 refine ox [fun v ds w9=>∃B,v=pv B 0/\w9.heap[B]?=some (ar (b.cells (ae p1 ml.length c1) aL az) 28 (0,0)),pV (ah af 0)]
  _ kQ hF.size hF.base ?_ ?_ ?_
 .refine⟨?_,sV,trivial⟩
  .rintro v ds w1 w2 hS ⟨B,h1,h2⟩ hb;exact⟨B,h1,aA h2 hb⟩
 .refine⟨?_,?_,trivial⟩<;>rintro ev w1 hS hc hg hf ⟨b0,-⟩ hd
  .refine yN (v:=pv w1.heap.size 0) (w':=w1.alloc (ar (b.cells (ae p1 ml.length c1) aL az) 28)) ?_ ⟨⟨_,rfl,aw _ _⟩,bV dF⟩;go_simp
  exact tV
 intro a W hR;have ho:=hR.s;obtain⟨B1,e1,K1⟩:=hR.val 0;replace e1:a.eval (aD 1)=pv B1 0:=e1;replace HB:=HB.tr ho;replace hF:=((hR.fr hF).cons (t:=1) e1).cons (t:=2) (hR.val 1);clear hR ho e1;refine dZ ?_;refine EN ⟨[],[],[(B1,(b.cells (ae p1 ml.length c1) aL az))],[]⟩ [(9,aH (decide ((ml.length:Int)>3)))] hF hF ⟨fun w1 hS=>⟨_,_,aA K1 hS⟩,trivial⟩ trivial ?_;intro a W ho hF;replace HB:=HB.tr ho;replace K1:=aA K1 ho;refine b_ (t:=(decide ((ml.length:Int)>3))) (hF.g 0 rfl) (fun Ti=>?_) (fun Ti=>?_)
 .replace hF:=hF.tl;have hres:ry ml=2:=by unfold ry;rw[if_pos (by simpa using Ti)]
  replace hF:=hF.tl;refine fe [(2,ah af 2)] hF ?_;intro a W ho hF;replace HB:=HB.tr ho;replace K1:=aA K1 ho;refine fQ ?_;exact bf (cg rfl _ _ _) hF.defers ⟨congrArg bq (((hF.g 0 rfl):a.eval (aD 2)=ah af 2).trans (congrArg _ hres.symm)),HB⟩
 replace hF:=hF.tl;have h3:¬(ml.length:Int)>3:=by simpa using Ti
 refine eN ?_;refine dZ ?_;refine fe [(3,ah af 0)] hF ?_;intro a W ho hF;replace HB:=HB.tr ho;replace K1:=aA K1 ho;refine jC ?_;refine wp_loop (fun a W=>∃k:Nat,k<=ml.length/\(∀i,i<k->nS ml i=0)/\iw 54 a [(3,ah af (k:Nat)),(1,pv B1 0),(0,aO (b.cells (ae p1 ml.length c1) aL az))]/\Bw w W/\W.heap[B1]?=some (ar (b.cells (ae p1 ml.length c1) aL az) 28 (0,0))) (fun a _=>ml.length-(intOf (a.eval (aD 3))).toNat) ⟨0,oM,fun i hi=>by omega,⟨hF.size,hF.defers,(by obtain⟨b3,-,b1,b0,-⟩:=hF.base;exact⟨b3,b1,b0,trivial⟩)⟩,HB,K1⟩ ?_;clear hF HB K1
 try clear a
 try clear W
 rintro a W ⟨k,tP,pI,hF,HB,K1⟩;have hk3:a.eval (aD 3)=ah af (k:Nat):=(hF.g 0 rfl)
 refine dZ ?_;refine EN ⟨[],[],[(B1,(b.cells (ae p1 ml.length c1) aL az))],[]⟩ [(14,aH (decide ((k:Int)<(ml.length:Int))))] hF hF ⟨fun w1 hS=>⟨_,_,aA K1 hS⟩,trivial⟩ trivial ?_;intro a W ho hF;replace HB:=HB.tr ho;replace K1:=aA K1 ho;refine b_ (t:=(decide ((k:Int)<(ml.length:Int)))) (hF.g 0 rfl) (fun Nc=>?_) (fun Nc=>?_)
 .replace hF:=hF.tl;have zi:k<ml.length:=by simpa using Nc
  obtain⟨g,off,rfl,hM⟩:=HC.out k zi;have CM:=hM.below HB;clear hM;obtain⟨m,hm⟩:∃m,qm ml k=m:=⟨_,rfl⟩
  have hw1:IntKind.i64.wrap ((k:Int)+1)=(k:Int)+1:=by rw[bp];omega
  refine eN ?_;refine dZ ?_;refine jC ?_
  refine ox [pV (pv B1 12),pV (ae (some ⟨g,off,none⟩) ml.length c1),pV (ah af (k:Nat)),pV (fP (some ⟨g,off+k*3,none⟩)),pV (aO #[.string m.name,ah af m.lo,ah af m.hi]),fun v ds w9=>∃B,∃z:Array ai,v=pv B 0/\w9.heap[B]?=some (ar z 79 (0,0))/\z.size=3/\W.heap.size<=B,fun v ds w9=>∃B,ds[0]?=some (pv B 0)/\W.heap.size<=B/\w9.heap[B]?=some (ar #[.string m.name,ah af m.lo,ah af m.hi] 79 (0,0))]
   _ kQ hF.size hF.base ?_ ?_ ?_
  .refine⟨sV,sV,sV,sV,sV,?_,?_,trivial⟩
   .rintro v ds w1 w2 hS ⟨B,z,h1,h2,h3,h4⟩ hb;exact⟨B,z,h1,aA h2 hb,h3,h4⟩
   rintro v ds w1 w2 hS ⟨B,h1,h4,h2⟩ hb;exact⟨B,h1,h4,aA h2 hb⟩
  .refine⟨?_,?_,?_,?_,?_,?_,?_,trivial⟩<;>rintro ev w1 hS hc hg hf ⟨b3,b1,-,-⟩ hd
   all_goals try
    refine yw rfl ?_ rfl;go_simp;done
   .have d0:ev (aD 17)=_:=hd.1 rfl;have z:=aF (aA K1 hS) 12 _ rfl;exact tV
   .have d1:ev (aD 18)=_:=hd.1 rfl;have d2:ev (aD 19)=_:=hd.2.1 rfl;have Bv:¬(ml.length<=k):=oM;exact tV
   .have d3:ev (aD 20)=_:=hd.1 rfl;obtain⟨z1,z2,z3⟩:=(yK.below CM hS).2 k oM;rw[hm] at z1 z2 z3;exact tV
   .refine yN (v:=pv w1.heap.size 0) (w':=w1.alloc (ar #[.string ⟨#[]⟩,ah af 0,ah af 0] 79)) ?_ ⟨⟨_,_,rfl,aw _ _,rfl,hS.size⟩,bV dF⟩;go_simp
   .have d5:∃B,∃z:Array ai,(ev (aD 4))=pv B 0/\w1.heap[B]?=some (ar z 79 (0,0))/\z.size=3/\W.heap.size<=B:=hd.1 rfl;have d4:ev (aD 21)=_:=hd.2.1 rfl;obtain⟨B,z,eB,hB,hz,hge⟩:=d5;refine Lag.Yields.iB 79 _ _ rfl B #[.string m.name,ah af m.lo,ah af m.hi] eB d4 79 z hB kQ hz (by simp[bJ]) ⟨⟨B,congrArg some eB,hge,cD hB⟩,.inr ⟨dx hS hge,?_⟩⟩;intro j u ds hj hp
    match j,hp with
    |0,hp|1,hp|2,hp|3,hp|4,hp=>exact hp
    |5,⟨B',z',h1,h2,h3,h4⟩=>
     by_cases qG:B'=B
     .subst qG;rw[hB] at h2;cases h2;exact⟨B',_,h1,cD hB,hz.symm.trans h3,h4⟩
     exact⟨B',z',h1,(setRow_other qG).trans h2,h3,h4⟩
    |6,_=>exact(hj rfl).elim
    |j+7,_=>trivial
  intro a W hR;have ho:=hR.s;obtain⟨B4,q4,-,K4⟩:=hR.val 6;have e4:a.eval (aD 4)=pv B4 0:=aT q4;clear q4;replace HB:=HB.tr ho;replace K1:=aA K1 ho;replace CM:=CM.below ho;replace hF:=(hR.fr hF).cons (t:=4) e4;clear hR ho e4;refine dZ ?_;refine EN ⟨[],[(2,aH (kX m.name))],[(B4,#[.string m.name,ah af m.lo,ah af m.hi])],[]⟩ [(25,aH (!(kX m.name)))] hF hF ⟨fun w1 hS=>⟨_,_,aA K4 hS⟩,trivial⟩ ⟨fun w1 hS _=>gc (S8 m.name w1),trivial⟩ ?_;intro a W ho hF;replace HB:=HB.tr ho;replace K1:=aA K1 ho;replace CM:=CM.below ho;replace K4:=aA K4 ho;refine b_ (t:=(!(kX m.name))) (hF.g 0 rfl) (fun Tk=>?_) (fun Tk=>?_)
  .replace hF:=hF.tl;have h4:nS ml k=4:=by unfold nS;rw[hm,if_pos Tk]
   have hres:ry ml=4:=(Ko k h3 zi pI (by rw[h4];decide)).trans h4;refine fe [(2,ah af 4)] hF ?_;intro a W ho hF;replace HB:=HB.tr ho;replace K1:=aA K1 ho;replace CM:=CM.below ho;replace K4:=aA K4 ho;refine fQ ?_;exact bf (cg rfl _ _ _) hF.defers ⟨congrArg bq (((hF.g 0 rfl):a.eval (aD 2)=ah af 4).trans (congrArg _ hres.symm)),HB⟩
  replace hF:=hF.tl;have Tf:(!(kX m.name))≠true:=by rw[Tk];simp
  refine eN ?_;refine dZ ?_;refine fe [(5,ah af 0)] hF ?_;intro a W ho hF;replace HB:=HB.tr ho;replace K1:=aA K1 ho;replace CM:=CM.below ho;replace K4:=aA K4 ho;refine jC ?_;refine wp_loop (fun a W=>∃j:Nat,j<=k/\(∀i,i<j->E9 (qm ml i).name m.name=false)/\iw 54 a [(5,ah af (j:Nat)),(4,pv B4 0),(3,ah af (k:Nat)),(1,pv B1 0),(0,aO (b.cells (ae (some ⟨g,off,none⟩) ml.length c1) aL az))]/\Bw w W/\W.heap[B1]?=some (ar (b.cells (ae (some ⟨g,off,none⟩) ml.length c1) aL az) 28 (0,0))/\yK ml g off W/\W.heap[B4]?=some (ar #[.string m.name,ah af m.lo,ah af m.hi] 79 (0,0))) (fun a _=>k-(intOf (a.eval (aD 5))).toNat) ⟨0,oM,fun i hi=>by omega,⟨hF.size,hF.defers,hF.base⟩,HB,K1,CM,K4⟩ ?_;clear hF HB K1 CM K4
  try clear a
  try clear W
  rintro a W ⟨j,hkj,aar,hF,HB,K1,CM,K4⟩;have hk5:a.eval (aD 5)=ah af (j:Nat):=(hF.g 0 rfl)
  refine dZ ?_;refine fe [(28,aH (decide ((j:Int)<(k:Int))))] hF ?_;intro a W ho hF;replace HB:=HB.tr ho;replace K1:=aA K1 ho;replace CM:=CM.below ho;replace K4:=aA K4 ho;refine b_ (t:=(decide ((j:Int)<(k:Int)))) (hF.g 0 rfl) (fun PO=>?_) (fun PO=>?_)
  .replace hF:=hF.tl;have ai9:j<k:=by simpa using PO
   have hw2:IntKind.i64.wrap ((j:Int)+1)=(j:Int)+1:=by rw[bp];omega
   refine eN ?_;refine dZ ?_;refine jC ?_
   refine Jt kQ [pV (pv B1 12),pV (ae (some ⟨g,off,none⟩) ml.length c1),pV (ah af (j:Nat)),pV (fP (some ⟨g,off+j*3,none⟩)),pV (fP (some ⟨g,off+j*3,none⟩)),pV (.string (qm ml j).name),pV (pv B4 0),pV (.string m.name),pV (aH (((qm ml j).name).toList==m.name.toList))]
    _ kQ hF.size hF.base ?_ ?_ ?_
   .exact⟨sV,sV,sV,sV,sV,sV,sV,sV,sV,trivial⟩
   .refine⟨?_,?_,?_,?_,?_,?_,?_,?_,?_,trivial⟩<;>rintro ev w1 hS hc hg hf ⟨b5,b4,-,b1,-,-⟩ hd
    all_goals try
     try have d0:ev (aD _)=_:=hd.1 rfl
     try have d1:ev (aD _)=_:=hd.2.1 rfl
     refine yw rfl ?_ rfl;go_simp;done
    .have d0:ev (aD 31)=_:=hd.1 rfl;have z:=aF (aA K1 hS) 12 _ rfl;exact tV
    .have d1:ev (aD 32)=_:=hd.1 rfl;have d2:ev (aD 33)=_:=hd.2.1 rfl;have Bv:¬(ml.length<=j):=oM;exact tV
    .have d4:ev (aD 35)=_:=hd.1 rfl;obtain⟨z1,z2,z3⟩:=(yK.below CM hS).2 j oM;exact tV
    have d6:ev (aD 37)=_:=hd.1 rfl;have z:=aF (aA K4 hS) 0 _ rfl;exact tV
   intro a W hR;have ho:=hR.s;replace HB:=HB.tr ho;replace K1:=aA K1 ho;replace CM:=CM.below ho;replace K4:=aA K4 ho;replace hF:=(hR.fr hF).cons (t:=39) (hR.val 8);clear hR ho;refine b_ (t:=(((qm ml j).name).toList==m.name.toList)) (hF.g 0 rfl) (fun acj=>?_) (fun acj=>?_)
   .replace hF:=hF.tl;have h5:nS ml k=5:=by unfold nS;rw[hm,if_neg Tf,if_pos (IY j ai9 (by rw[hm];exact acj))]
    have hres:ry ml=5:=(Ko k h3 zi pI (by rw[h5];decide)).trans h5;refine fe [(2,ah af 5)] hF ?_;intro a W ho hF;replace HB:=HB.tr ho;replace K1:=aA K1 ho;replace CM:=CM.below ho;replace K4:=aA K4 ho;refine fQ ?_;exact bf (cg rfl _ _ _) hF.defers ⟨congrArg bq (((hF.g 0 rfl):a.eval (aD 2)=ah af 5).trans (congrArg _ hres.symm)),HB⟩
   replace hF:=hF.tl;have hz:E9 (qm ml j).name m.name=false:=acj;refine eN ?_;have qo:=hF;replace hF:=hF.tl;refine Ou ⟨[],[(1,ah af ((j:Nat)+1))],[],[]⟩ [(5,ah af ((j:Nat)+1))] qo hF trivial ⟨fun w1 hS _=>ge (congrArg (ax af) (show IntKind.i64.wrap ((j:Nat)+1)=((j:Nat)+1) by rw[bp];omega)),trivial⟩ ?_;intro a W ho hF;clear qo;replace HB:=HB.tr ho;replace K1:=aA K1 ho;replace CM:=CM.below ho;replace K4:=aA K4 ho;refine⟨⟨j+1,oM,fun i hi=>if hik:i<j then aar i hik else by have e:i=j:=(by omega);rw[e];exact hz,⟨hF.size,hF.defers,hF.base⟩,HB,K1,CM,K4⟩,?_⟩;rw[show a.eval (aD 5)=ah af ((j:Nat)+1) from(hF.g 0 rfl)];simp only[hk5];simp[intOf];omega
  replace hF:=hF.tl;refine wp_exit ?_;have amI:j=k:=by simp at PO;omega
  have htw:twice ml k=false:=Uz fun i hi=>by rw[hm];exact aar i oM
  show CU aq _ _ a W
  refine ox [pV (pv B4 1),pV (aO #[ah af m.lo,ah af m.hi]),pV (aH (cN m.lo m.hi 1 99)),pV (aH (!(cN m.lo m.hi 1 99))),pV (aH (!(cN m.lo m.hi 1 99))),pC (!(!(cN m.lo m.hi 1 99))) (pv B4 1),pC (!(!(cN m.lo m.hi 1 99))) (pv B4 2),pC (!(!(cN m.lo m.hi 1 99))) (ah af m.hi),pC (!(!(cN m.lo m.hi 1 99))) (pv B4 1),pC (!(!(cN m.lo m.hi 1 99))) (pv B4 1),pC (!(!(cN m.lo m.hi 1 99))) (ah af m.lo),pC (!(!(cN m.lo m.hi 1 99))) (ah af (m.hi-m.lo)),pC (!(!(cN m.lo m.hi 1 99))) (aH (decide ((m.hi-m.lo)≥3))),pV (aH ((!(cN m.lo m.hi 1 99))||(decide ((m.hi-m.lo)≥3))))]
   _ kQ hF.size hF.base ?_ ?_ ?_
  .exact⟨sV,sV,sV,sV,sV,sC,sC,sC,sC,sC,sC,sC,sC,sV,trivial⟩
  .refine⟨?_,?_,?_,?_,?_,?_,?_,?_,?_,?_,?_,?_,?_,?_,trivial⟩<;>rintro ev w1 hS hc hg hf ⟨-,b4,-,-,-,-⟩ hd
   all_goals try
    try have d0:ev (aD _)=_:=hd.1 rfl
    refine yw rfl ?_ rfl;go_simp;done
   all_goals try
    try have d0:ev (aD _)=_:=hd.1 rfl
    try have c0:_->ev (aD _)=_:=hd.1 rfl
    try have d1:ev (aD _)=_:=hd.2.1 rfl
    first|refine gC d0 mR fun hA=>?_|refine gC d1 mR fun hA=>?_
    try replace c0:=c0 hA
    refine yw rfl ?_ (fun _=>rfl);go_simp;done
   .have d0:ev (aD 40)=_:=hd.1 rfl;have z1:=aF (aA K4 hS) 1 _ rfl;have z2:=aF (aA K4 hS) 2 _ rfl;exact tV
   .have d1:ev (aD 41)=_:=hd.1 rfl;refine yc (sB m.lo m.hi 1 99 w1) ?_ (fun _=>rfl);go_simp
   .have d6:_->ev (aD 46)=_:=hd.1 rfl;have d4:ev (aD 44)=_:=hd.2.1 rfl;refine gC d4 mR fun hA=>?_;have y6:=d6 hA;have z:=aF (aA K4 hS) 2 _ rfl;refine yv ?_ (fun _=>rfl);go_simp
   .have d9:_->ev (aD 49)=_:=hd.1 rfl;have d4:ev (aD 44)=_:=hd.2.1 rfl;refine gC d4 mR fun hA=>?_;have y9:=d9 hA;have z:=aF (aA K4 hS) 1 _ rfl;refine yv ?_ (fun _=>rfl);go_simp
   .have d7:_->ev (aD 47)=_:=hd.1 rfl;have d10:_->ev (aD 50)=_:=hd.2.1 rfl;have d4:ev (aD 44)=_:=hd.2.2.1 rfl;refine gC d4 mR fun hA=>?_;have y7:=d7 hA;have Ow:=d10 hA;have hw:=R3 (lo:=m.lo) (hi:=m.hi) (by revert hA;cases cN m.lo m.hi 1 99<;>simp);refine yv ?_ (fun _=>rfl);go_simp
   have d4:ev (aD 44)=_:=hd.1 rfl;have d12:_->ev (aD 52)=_:=hd.2.1 rfl;exact yO rfl hc d4 (fun hq=>d12 (by simp[hq])) (rfl)
  intro a W hR;have ho:=hR.s;replace HB:=HB.tr ho;replace K1:=aA K1 ho;replace CM:=CM.below ho;replace K4:=aA K4 ho;replace hF:=(hR.fr hF).cons (t:=53) (hR.val 13);clear hR ho;refine b_ (t:=((!(cN m.lo m.hi 1 99))||(decide ((m.hi-m.lo)≥3)))) (hF.g 0 rfl) (fun ach=>?_) (fun ach=>?_)
  .replace hF:=hF.tl;have h1:nS ml k=1:=by unfold nS;rw[hm,if_neg Tf,if_neg (by rw[htw];simp),if_pos (show qU m=true from ach)]
   have hres:ry ml=1:=(Ko k h3 zi pI (by rw[h1];decide)).trans h1;refine fe [(2,ah af 1)] hF ?_;intro a W ho hF;replace HB:=HB.tr ho;replace K1:=aA K1 ho;replace CM:=CM.below ho;replace K4:=aA K4 ho;refine fQ ?_;exact bf (cg rfl _ _ _) hF.defers ⟨congrArg bq (((hF.g 0 rfl):a.eval (aD 2)=ah af 1).trans (congrArg _ hres.symm)),HB⟩
  replace hF:=hF.tl;have hz:nS ml k=0:=by unfold nS;rw[hm,if_neg Tf,if_neg (by rw[htw];simp),if_neg (by rw[show qU m=_ from ach];simp)]
  refine eN ?_;have qo:=hF;replace hF:=hF.del 3;simp only[lQ,bR,reduceIte] at hF;refine Ou ⟨[],[(1,ah af ((k:Nat)+1))],[],[]⟩ [(3,ah af ((k:Nat)+1))] qo hF trivial ⟨fun w1 hS _=>ge (congrArg (ax af) (show IntKind.i64.wrap ((k:Nat)+1)=((k:Nat)+1) by rw[bp];omega)),trivial⟩ ?_;intro a W ho hF;clear qo;replace HB:=HB.tr ho;replace K1:=aA K1 ho;replace CM:=CM.below ho;replace K4:=aA K4 ho;refine⟨⟨k+1,oM,fun i hi=>if hik:i<k then pI i hik else by have e:i=k:=(by omega);rw[e];exact hz,⟨hF.size,hF.defers,(by obtain⟨b3,-,-,b1,b0,-⟩:=hF.base;exact⟨b3,b1,b0,trivial⟩)⟩,HB,K1⟩,?_⟩;rw[show a.eval (aD 3)=ah af ((k:Nat)+1) from(hF.g 0 rfl)];simp only[hk3];simp[intOf];omega
 replace hF:=hF.tl;refine wp_exit ?_;have V3:k=ml.length:=by simp at Nc;omega
 have hres:ry ml=0:=SX h3 fun i hi=>pI i oM;show CU aq _ _ a W;refine fe [(2,ah af 0)] hF ?_;intro a W ho hF;replace HB:=HB.tr ho;replace K1:=aA K1 ho;refine fQ ?_;exact bf (cg rfl _ _ _) hF.defers ⟨congrArg bq (((hF.g 0 rfl):a.eval (aD 2)=ah af 0).trans (congrArg _ hres.symm)),HB⟩
def Km(l:List Mk)(i:Nat):Mk:=l.getD i ⟨0,0,0⟩
def MA(l:List Mk)(i:Nat)(h:i<l.length):Km l i=l[i]:=by simp[Km,h]
def Qq(ms:List Mk)(g off:Nat)(W:ak):Prop:=g<W.heap.size/\∀i,i<ms.length->W.cell? ⟨g,off+i*3,none⟩=some (ah af (Km ms i).minute)/\W.cell? ⟨g,off+i*3+1,none⟩=some (ah af (Km ms i).lo)/\W.cell? ⟨g,off+i*3+2,none⟩=some (ah af (Km ms i).hi)
def Qq.below{ml:List Mk}{g off:Nat}{W W':ak}(h:Qq ml g off W)(ho:Bw W W'):Qq ml g off W':=
 ⟨bA h.1 ho.size,fun i hi=>⟨(ho.cell (p:=⟨g,off+i*3,none⟩) h.1).trans (h.2 i hi).1,(ho.cell (p:=⟨g,off+i*3+1,none⟩) h.1).trans (h.2 i hi).2.1,(ho.cell (p:=⟨g,off+i*3+2,none⟩) h.1).trans (h.2 i hi).2.2⟩⟩
def Reads.mks{w:ak}{p:Option dc}{n c:Nat}{ms:List Mk}(h:Reads w (ae p n c) n (ep ms))(k:Nat)(hk:k<ms.length):∃g off,p=some ⟨g,off,none⟩/\Qq ms g off w:=by
 rcases h with⟨_,_,h⟩|⟨g,off,cap,h,_,hg,hc⟩
 .have:=congrArg List.length h;rw[qN] at this;simp at this;omega
 cases h;refine⟨g,off,rfl,hg,fun i hi=>?_⟩;rw[MA ms i hi];exact xJ hc i hi
def Ap(l:List Mn)(i:Nat):Bool:=decide (((qm l i).name.size:Int)>100)
def KS(ml:List Mn)(ss:List Int)(ms:List Mk):Bool:=(decide ((ml.length:Int)>20)||decide ((ss.length:Int)>20))||decide ((ms.length:Int)>20)
def ki(ml:List Mn)(ss:List Int)(ms:List Mk):Bool:=KS ml ss ms||(aP ml.length).any (Ap ml)
def oJ(b:BB)(ms:List Mk)(i:Nat):Int:=if (!(aS (Km ms i).minute 1 b.minutes))=true then 6 else if (!(cN (Km ms i).lo (Km ms i).hi 0 99))=true then 1 else 0
def uV(b:BB)(ms:List Mk):Int:=if (ms.length:Int)>3 then 2 else(((aP ms.length).map (oJ b ms)).find? fun h=>h !=0).getD 0
def Jb{b:BB}{l:List Mk}(i:Nat)(h3:¬(l.length:Int)>3)(hi:i<l.length)(hpre:∀k,k<i->oJ b l k=0)(h:oJ b l i≠0):uV b l=oJ b l i:=by
 unfold uV;rw[if_neg h3,AP _ _ i hi hpre h];rfl
def MC{b:BB}{l:List Mk}(h3:¬(l.length:Int)>3)(hpre:∀k,k<l.length->oJ b l k=0):uV b l=0:=by
 unfold uV;rw[if_neg h3,ux _ _ hpre];rfl
def nM(b:BB)(ml:List Mn)(ss:List Int)(ms:List Mk):Int:=if (qb b !=0)=true then qb b else if (ry ml !=0)=true then ry ml else if (lY b ss !=0)=true then lY b ss else uV b ms
def Tw(b:BB)(p1 p2 p3:Option dc)(c1 c2 c3:Nat)(ml:List Mn)(ss:List Int)(ms:List Mk)(w:ak)(hv:Reads w (ae p1 ml.length c1) ml.length (dX ml)):bm aq 18 #[aO (b.sl p1 ml.length c1 p2 ss.length c2 p3 ms.length c3)] w (Rt w (aH (ki ml ss ms))):=by
 refine lu Tryz.func18 rfl rfl [(0,aO (b.sl p1 ml.length c1 p2 ss.length c2 p3 ms.length c3))] ⟨jB rfl,trivial⟩ fun a hF=>?_;refine(fun h:∀W,Bw w W->CU aq _ _ a W=>h w (ay _ _)) ?_;intro W HB;have HC:nz (∀k,k<ml.length->∃g off,p1=some ⟨g,off,none⟩/\yK ml g off w):=aj fun k hk=>hv.bn k hk;clear hv
 refine ox [fun v ds w9=>∃B,v=pv B 0/\w9.heap[B]?=some (ar (b.sl p1 ml.length c1 p2 ss.length c2 p3 ms.length c3) 28 (0,0)),pV (aH false)]
  _ kQ hF.size hF.base ?_ ?_ ?_
 .refine⟨?_,sV,trivial⟩
  .rintro v ds w1 w2 hS ⟨B,h1,h2⟩ hb;exact⟨B,h1,aA h2 hb⟩
 .refine⟨?_,?_,trivial⟩<;>rintro ev w1 hS hc hg hf ⟨b0,-⟩ hd
  .refine yN (v:=pv w1.heap.size 0) (w':=w1.alloc (ar (b.sl p1 ml.length c1 p2 ss.length c2 p3 ms.length c3) 28)) ?_ ⟨⟨_,rfl,aw _ _⟩,bV dF⟩;go_simp
  exact tV
 intro a W hR;have ho:=hR.s;obtain⟨B1,e1,K1⟩:=hR.val 0;replace e1:a.eval (aD 1)=pv B1 0:=e1;replace HB:=HB.tr ho;replace hF:=((hR.fr hF).cons (t:=1) e1).cons (t:=2) (hR.val 1);clear hR ho e1;refine dZ ?_;refine EN ⟨[],[],[(B1,(b.sl p1 ml.length c1 p2 ss.length c2 p3 ms.length c3))],[]⟩ [(19,aH (((decide ((ml.length:Int)>20))||(decide ((ss.length:Int)>20)))||(decide ((ms.length:Int)>20))))] hF hF ⟨fun w1 hS=>⟨_,_,aA K1 hS⟩,trivial⟩ trivial ?_;intro a W ho hF;replace HB:=HB.tr ho;replace K1:=aA K1 ho;refine b_ (t:=(((decide ((ml.length:Int)>20))||(decide ((ss.length:Int)>20)))||(decide ((ms.length:Int)>20)))) (hF.g 0 rfl) (fun F4=>?_) (fun F4=>?_)
 .replace hF:=hF.tl;have hres:ki ml ss ms=true:=by unfold ki;rw[show KS ml ss ms=true from F4];rfl
  replace hF:=hF.tl;refine fe [(2,aH true)] hF ?_;intro a W ho hF;replace HB:=HB.tr ho;replace K1:=aA K1 ho;refine fQ ?_;exact bf (cg rfl _ _ _) hF.defers ⟨congrArg bq (((hF.g 0 rfl):a.eval (aD 2)=aH true).trans (congrArg _ hres.symm)),HB⟩
 replace hF:=hF.tl;have h20:ml.length<=20:=by revert F4;simp;omega
 refine eN ?_;refine dZ ?_;refine fe [(3,ah af 0)] hF ?_;intro a W ho hF;replace HB:=HB.tr ho;replace K1:=aA K1 ho;refine jC ?_;refine wp_loop (fun a W=>∃k:Nat,k<=ml.length/\(∀i,i<k->Ap ml i=false)/\iw 35 a [(3,ah af (k:Nat)),(1,pv B1 0),(0,aO (b.sl p1 ml.length c1 p2 ss.length c2 p3 ms.length c3))]/\Bw w W/\W.heap[B1]?=some (ar (b.sl p1 ml.length c1 p2 ss.length c2 p3 ms.length c3) 28 (0,0))) (fun a _=>ml.length-(intOf (a.eval (aD 3))).toNat) ⟨0,oM,fun i hi=>by omega,⟨hF.size,hF.defers,(by obtain⟨b3,-,b1,b0,-⟩:=hF.base;exact⟨b3,b1,b0,trivial⟩)⟩,HB,K1⟩ ?_;clear hF HB K1
 try clear a
 try clear W
 rintro a W ⟨k,tP,pI,hF,HB,K1⟩;have hk3:a.eval (aD 3)=ah af (k:Nat):=(hF.g 0 rfl)
 refine dZ ?_;refine EN ⟨[],[],[(B1,(b.sl p1 ml.length c1 p2 ss.length c2 p3 ms.length c3))],[]⟩ [(24,aH (decide ((k:Int)<(ml.length:Int))))] hF hF ⟨fun w1 hS=>⟨_,_,aA K1 hS⟩,trivial⟩ trivial ?_;intro a W ho hF;replace HB:=HB.tr ho;replace K1:=aA K1 ho;refine b_ (t:=(decide ((k:Int)<(ml.length:Int)))) (hF.g 0 rfl) (fun KP=>?_) (fun KP=>?_)
 .replace hF:=hF.tl;have zi:k<ml.length:=by simpa using KP
  obtain⟨g,off,rfl,hM⟩:=HC.out k zi;have CM:=hM.below HB;clear hM;obtain⟨m,hm⟩:∃m,qm ml k=m:=⟨_,rfl⟩
  have hw1:IntKind.i64.wrap ((k:Int)+1)=(k:Int)+1:=by rw[bp];omega
  refine eN ?_;refine dZ ?_;refine jC ?_
  refine ox [pV (pv B1 12),pV (ae (some ⟨g,off,none⟩) ml.length c1),pV (ah af (k:Nat)),pV (fP (some ⟨g,off+k*3,none⟩)),pV (fP (some ⟨g,off+k*3,none⟩)),pV (.string m.name),pV (ah af (m.name.size:Int)),pV (aH (decide ((m.name.size:Int)>100)))]
   _ kQ hF.size hF.base ?_ ?_ ?_
  .exact⟨sV,sV,sV,sV,sV,sV,sV,sV,trivial⟩
  .refine⟨?_,?_,?_,?_,?_,?_,?_,?_,trivial⟩<;>rintro ev w1 hS hc hg hf ⟨b3,b1,-,-⟩ hd
   all_goals try
    try have d0:ev (aD _)=_:=hd.1 rfl
    refine yw rfl ?_ rfl;go_simp;done
   .have d0:ev (aD 27)=_:=hd.1 rfl;have z:=aF (aA K1 hS) 12 _ rfl;exact tV
   .have d1:ev (aD 28)=_:=hd.1 rfl;have d2:ev (aD 29)=_:=hd.2.1 rfl;have Bv:¬(ml.length<=k):=oM;exact tV
   have d4:ev (aD 31)=_:=hd.1 rfl;obtain⟨z1,z2,z3⟩:=(yK.below CM hS).2 k oM;rw[hm] at z1 z2 z3;exact tV
  intro a W hR;have ho:=hR.s;replace HB:=HB.tr ho;replace K1:=aA K1 ho;replace CM:=CM.below ho;replace hF:=(hR.fr hF).cons (t:=34) (hR.val 7);clear hR ho;refine b_ (t:=(decide ((m.name.size:Int)>100))) (hF.g 0 rfl) (fun ack=>?_) (fun ack=>?_)
  .replace hF:=hF.tl;have hres:ki ml ss ms=true:=by unfold ki;rw[Bool.or_eq_true];right;rw[xq];exact⟨k,bO.2 zi,by unfold Ap;rw[hm];exact ack⟩
   refine fe [(2,aH true)] hF ?_;intro a W ho hF;replace HB:=HB.tr ho;replace K1:=aA K1 ho;replace CM:=CM.below ho;refine fQ ?_;exact bf (cg rfl _ _ _) hF.defers ⟨congrArg bq (((hF.g 0 rfl):a.eval (aD 2)=aH true).trans (congrArg _ hres.symm)),HB⟩
  replace hF:=hF.tl;have hz:Ap ml k=false:=by unfold Ap;rw[hm];exact ack
  refine eN ?_;have qo:=hF;replace hF:=hF.tl;refine Ou ⟨[],[(1,ah af ((k:Nat)+1))],[],[]⟩ [(3,ah af ((k:Nat)+1))] qo hF trivial ⟨fun w1 hS _=>ge (congrArg (ax af) (show IntKind.i64.wrap ((k:Nat)+1)=((k:Nat)+1) by rw[bp];omega)),trivial⟩ ?_;intro a W ho hF;clear qo;replace HB:=HB.tr ho;replace K1:=aA K1 ho;replace CM:=CM.below ho;refine⟨⟨k+1,oM,fun i hi=>if hik:i<k then pI i hik else by have e:i=k:=(by omega);rw[e];exact hz,⟨hF.size,hF.defers,hF.base⟩,HB,K1⟩,?_⟩;rw[show a.eval (aD 3)=ah af ((k:Nat)+1) from(hF.g 0 rfl)];simp only[hk3];simp[intOf];omega
 replace hF:=hF.tl;refine wp_exit ?_;have V3:k=ml.length:=by simp at KP;omega
 have hres:ki ml ss ms=false:=by
  unfold ki;rw[show KS ml ss ms=false from F4,Bool.false_or,List.any_eq_false];intro i hi;rw[pI i (by have:=bO.1 hi;omega)];simp
 show CU aq _ _ a W;refine fe [(2,aH false)] hF ?_;intro a W ho hF;replace HB:=HB.tr ho;replace K1:=aA K1 ho;refine fQ ?_;exact bf (cg rfl _ _ _) hF.defers ⟨congrArg bq (((hF.g 0 rfl):a.eval (aD 2)=aH false).trans (congrArg _ hres.symm)),HB⟩
def Mg(b:BB)(p1 p2 p3:Option dc)(c1 c2 c3:Nat)(ml:List Mn)(ss:List Int)(ms:List Mk)(hl:ml.length<=20/\ss.length<=20)(w:ak)(hv:Reads w (ae p1 ml.length c1) ml.length (dX ml))(hu:Reads w (ae p2 ss.length c2) ss.length (ss.map (ax af)))(hk3:Reads w (ae p3 ms.length c3) ms.length (ep ms)):bm aq 72 #[aO (b.sl p1 ml.length c1 p2 ss.length c2 p3 ms.length c3)] w (Rt w (ah af (nM b ml ss ms))):=by
 refine lu Tryz.func72 rfl rfl [(0,aO (b.sl p1 ml.length c1 p2 ss.length c2 p3 ms.length c3))] ⟨jB rfl,trivial⟩ fun a hF=>?_;refine(fun h:∀W,Bw w W->CU aq _ _ a W=>h w (ay _ _)) ?_;intro W HB;have HC:nz (∀k,k<ms.length->∃g off,p3=some ⟨g,off,none⟩/\Qq ms g off w):=aj fun k hk=>hk3.mks k hk;clear hk3
 refine ox [fun v ds w9=>∃B,v=pv B 0/\w9.heap[B]?=some (ar (b.sl p1 ml.length c1 p2 ss.length c2 p3 ms.length c3) 28 (0,0)),pV (ah af 0)]
  _ kQ hF.size hF.base ?_ ?_ ?_
 .refine⟨?_,sV,trivial⟩
  .rintro v ds w1 w2 hS ⟨B,h1,h2⟩ hb;exact⟨B,h1,aA h2 hb⟩
 .refine⟨?_,?_,trivial⟩<;>rintro ev w1 hS hc hg hf ⟨b0,-⟩ hd
  .refine yN (v:=pv w1.heap.size 0) (w':=w1.alloc (ar (b.sl p1 ml.length c1 p2 ss.length c2 p3 ms.length c3) 28)) ?_ ⟨⟨_,rfl,aw _ _⟩,bV dF⟩;go_simp
  exact tV
 intro a W hR;have ho:=hR.s;obtain⟨B1,e1,K1⟩:=hR.val 0;replace e1:a.eval (aD 1)=pv B1 0:=e1;replace HB:=HB.tr ho;replace hF:=((hR.fr hF).cons (t:=1) e1).cons (t:=2) (hR.val 1);clear hR ho e1;refine dZ ?_;refine EN ⟨[],[(1,ah af (qb b))],[(B1,(b.sl p1 ml.length c1 p2 ss.length c2 p3 ms.length c3))],[]⟩ [(3,ah af (qb b))] hF hF ⟨fun w1 hS=>⟨_,_,aA K1 hS⟩,trivial⟩ ⟨fun w1 hS _=>gc (Ii b (ae p1 ml.length c1) (ae p2 ss.length c2) (ae p3 ms.length c3) w1),trivial⟩ ?_;intro a W ho hF;replace HB:=HB.tr ho;replace K1:=aA K1 ho;refine fe [(10,aH ((qb b) !=0))] hF ?_;intro a W ho hF;replace HB:=HB.tr ho;replace K1:=aA K1 ho;refine b_ (t:=((qb b) !=0)) (hF.g 0 rfl) (fun F5=>?_) (fun F5=>?_)
 .replace hF:=hF.tl;have hres:nM b ml ss ms=qb b:=by unfold nM;rw[if_pos F5]
  replace hF:=hF.del 2;simp only[lQ,bR,reduceIte] at hF;refine fe [(2,ah af (qb b))] hF ?_;intro a W ho hF;replace HB:=HB.tr ho;replace K1:=aA K1 ho;refine fQ ?_;exact bf (cg rfl _ _ _) hF.defers ⟨congrArg bq (((hF.g 0 rfl):a.eval (aD 2)=ah af (qb b)).trans (congrArg _ hres.symm)),HB⟩
 replace hF:=hF.tl;refine eN ?_;refine dZ ?_;refine EN ⟨[],[(1,ah af (ry ml))],[(B1,(b.sl p1 ml.length c1 p2 ss.length c2 p3 ms.length c3))],[]⟩ [(4,ah af (ry ml))] hF hF ⟨fun w1 hS=>⟨_,_,aA K1 hS⟩,trivial⟩ ⟨fun w1 hS _=>gc (args:=#[aO (b.sl p1 ml.length c1 p2 ss.length c2 p3 ms.length c3)]) (K0 b (ae p2 ss.length c2) (ae p3 ms.length c3) _ _ ml oM w1 (hv.below (HB.tr hS))),trivial⟩ ?_;intro a W ho hF;replace HB:=HB.tr ho;replace K1:=aA K1 ho;refine fe [(15,aH ((ry ml) !=0))] hF ?_;intro a W ho hF;replace HB:=HB.tr ho;replace K1:=aA K1 ho;refine b_ (t:=((ry ml) !=0)) (hF.g 0 rfl) (fun Nb=>?_) (fun Nb=>?_)
 .replace hF:=hF.tl;have hres:nM b ml ss ms=ry ml:=by unfold nM;rw[if_neg (by rw[F5];simp),if_pos Nb]
  replace hF:=hF.del 2;simp only[lQ,bR,reduceIte] at hF;refine fe [(2,ah af (ry ml))] hF ?_;intro a W ho hF;replace HB:=HB.tr ho;replace K1:=aA K1 ho;refine fQ ?_;exact bf (cg rfl _ _ _) hF.defers ⟨congrArg bq (((hF.g 0 rfl):a.eval (aD 2)=ah af (ry ml)).trans (congrArg _ hres.symm)),HB⟩
 replace hF:=hF.tl;refine eN ?_;refine dZ ?_;refine EN ⟨[],[(3,ah af (lY b ss))],[(B1,(b.sl p1 ml.length c1 p2 ss.length c2 p3 ms.length c3))],[]⟩ [(5,ah af (lY b ss))] hF hF ⟨fun w1 hS=>⟨_,_,aA K1 hS⟩,trivial⟩ ⟨fun w1 hS _=>gc (args:=#[aO (b.sl p1 ml.length c1 p2 ss.length c2 p3 ms.length c3),ae p2 ss.length c2]) (Ih b (ae p1 ml.length c1) (ae p2 ss.length c2) (ae p3 ms.length c3) _ _ ss oM w1 (hu.below (HB.tr hS))),trivial⟩ ?_;intro a W ho hF;replace HB:=HB.tr ho;replace K1:=aA K1 ho;refine fe [(22,aH ((lY b ss) !=0))] hF ?_;intro a W ho hF;replace HB:=HB.tr ho;replace K1:=aA K1 ho;refine b_ (t:=((lY b ss) !=0)) (hF.g 0 rfl) (fun aco=>?_) (fun aco=>?_)
 .replace hF:=hF.tl;have hres:nM b ml ss ms=lY b ss:=by unfold nM;rw[if_neg (by rw[F5];simp),if_neg (by rw[Nb];simp),if_pos aco]
  replace hF:=hF.del 2;simp only[lQ,bR,reduceIte] at hF;refine fe [(2,ah af (lY b ss))] hF ?_;intro a W ho hF;replace HB:=HB.tr ho;replace K1:=aA K1 ho;refine fQ ?_;exact bf (cg rfl _ _ _) hF.defers ⟨congrArg bq (((hF.g 0 rfl):a.eval (aD 2)=ah af (lY b ss)).trans (congrArg _ hres.symm)),HB⟩
 replace hF:=hF.tl;have hh:nM b ml ss ms=uV b ms:=by unfold nM;rw[if_neg (by rw[F5];simp),if_neg (by rw[Nb];simp),if_neg (by rw[aco];simp)]
 refine eN ?_;refine dZ ?_;refine EN ⟨[],[],[(B1,(b.sl p1 ml.length c1 p2 ss.length c2 p3 ms.length c3))],[]⟩ [(27,aH (decide ((ms.length:Int)>3)))] hF hF ⟨fun w1 hS=>⟨_,_,aA K1 hS⟩,trivial⟩ trivial ?_;intro a W ho hF;replace HB:=HB.tr ho;replace K1:=aA K1 ho;refine b_ (t:=(decide ((ms.length:Int)>3))) (hF.g 0 rfl) (fun acm=>?_) (fun acm=>?_)
 .replace hF:=hF.tl;have hres:nM b ml ss ms=2:=by rw[hh];unfold uV;rw[if_pos (by simpa using acm)]
  replace hF:=hF.del 2;simp only[lQ,bR,reduceIte] at hF;refine fe [(2,ah af 2)] hF ?_;intro a W ho hF;replace HB:=HB.tr ho;replace K1:=aA K1 ho;refine fQ ?_;exact bf (cg rfl _ _ _) hF.defers ⟨congrArg bq (((hF.g 0 rfl):a.eval (aD 2)=ah af 2).trans (congrArg _ hres.symm)),HB⟩
 replace hF:=hF.tl;have h3:¬(ms.length:Int)>3:=by simpa using acm
 refine eN ?_;refine dZ ?_;refine fe [(6,ah af 0)] hF ?_;intro a W ho hF;replace HB:=HB.tr ho;replace K1:=aA K1 ho;refine jC ?_;refine wp_loop (fun a W=>∃k:Nat,k<=ms.length/\(∀i,i<k->oJ b ms i=0)/\iw 52 a [(6,ah af (k:Nat)),(1,pv B1 0),(0,aO (b.sl p1 ml.length c1 p2 ss.length c2 p3 ms.length c3))]/\Bw w W/\W.heap[B1]?=some (ar (b.sl p1 ml.length c1 p2 ss.length c2 p3 ms.length c3) 28 (0,0))) (fun a _=>ms.length-(intOf (a.eval (aD 6))).toNat) ⟨0,oM,fun i hi=>by omega,⟨hF.size,hF.defers,(by obtain⟨b6,-,-,-,-,b1,b0,-⟩:=hF.base;exact⟨b6,b1,b0,trivial⟩)⟩,HB,K1⟩ ?_;clear hF HB K1
 try clear a
 try clear W
 rintro a W ⟨k,tP,pI,hF,HB,K1⟩;have hk6:a.eval (aD 6)=ah af (k:Nat):=(hF.g 0 rfl)
 refine dZ ?_;refine EN ⟨[],[],[(B1,(b.sl p1 ml.length c1 p2 ss.length c2 p3 ms.length c3))],[]⟩ [(32,aH (decide ((k:Int)<(ms.length:Int))))] hF hF ⟨fun w1 hS=>⟨_,_,aA K1 hS⟩,trivial⟩ trivial ?_;intro a W ho hF;replace HB:=HB.tr ho;replace K1:=aA K1 ho;refine b_ (t:=(decide ((k:Int)<(ms.length:Int)))) (hF.g 0 rfl) (fun Na=>?_) (fun Na=>?_)
 .replace hF:=hF.tl;have zi:k<ms.length:=by simpa using Na
  obtain⟨g,off,rfl,hM⟩:=HC.out k zi;have CM:=hM.below HB;clear hM;obtain⟨m,hm⟩:∃m,Km ms k=m:=⟨_,rfl⟩
  have hw1:IntKind.i64.wrap ((k:Int)+1)=(k:Int)+1:=by rw[bp];omega
  refine eN ?_;refine dZ ?_;refine jC ?_;refine dZ ?_
  refine Jt kQ [pV (aO (b.sl p1 ml.length c1 p2 ss.length c2 (some ⟨g,off,none⟩) ms.length c3)),pV (pv B1 14),pV (ae (some ⟨g,off,none⟩) ms.length c3),pV (ah af (k:Nat)),pV (fP (some ⟨g,off+k*3,none⟩)),pV (fP (some ⟨g,off+k*3,none⟩)),pV (ah af m.minute),pV (aH (aS m.minute 1 b.minutes)),pV (aH (!(aS m.minute 1 b.minutes)))]
   _ kQ hF.size hF.base ?_ ?_ ?_
  .exact⟨sV,sV,sV,sV,sV,sV,sV,sV,sV,trivial⟩
  .refine⟨?_,?_,?_,?_,?_,?_,?_,?_,?_,trivial⟩<;>rintro ev w1 hS hc hg hf ⟨b6,b1,-,-⟩ hd
   all_goals try
    try have d0:ev (aD _)=_:=hd.1 rfl
    refine yw rfl ?_ rfl;go_simp;done
   .have lj:=aA K1 hS;exact BU 28 rfl b1 lj cF rfl kQ (rfl)
   .have d1:ev (aD 36)=_:=hd.1 rfl;have z:=aF (aA K1 hS) 14 _ rfl;exact tV
   .have d2:ev (aD 37)=_:=hd.1 rfl;have d3:ev (aD 38)=_:=hd.2.1 rfl;have Bv:¬(ms.length<=k):=oM;exact tV
   .have d5:ev (aD 40)=_:=hd.1 rfl;obtain⟨z1,z2,z3⟩:=(Qq.below CM hS).2 k oM;rw[hm] at z1 z2 z3;exact tV
   have d0:ev (aD 35)=_:=hd.1 rfl;have d6:ev (aD 41)=_:=hd.2.1 rfl;refine yc (tj b (ae p1 ml.length c1) (ae p2 ss.length c2) (ae (some ⟨g,off,none⟩) ms.length c3) m.minute w1) ?_ (fun _=>rfl);go_simp
  intro a W hR;have ho:=hR.s;replace HB:=HB.tr ho;replace K1:=aA K1 ho;replace CM:=CM.below ho;replace hF:=(hR.fr hF).cons (t:=43) (hR.val 8);clear hR ho;refine b_ (t:=(!(aS m.minute 1 b.minutes))) (hF.g 0 rfl) (fun Zk=>?_) (fun Zk=>?_)
  .replace hF:=hF.tl;have h6:oJ b ms k=6:=by unfold oJ;rw[hm,if_pos Zk]
   have hres:nM b ml ss ms=6:=hh.trans ((Jb k h3 zi pI (by rw[h6];decide)).trans h6);refine fe [(2,ah af 6)] hF ?_;intro a W ho hF;replace HB:=HB.tr ho;replace K1:=aA K1 ho;replace CM:=CM.below ho;refine fQ ?_;exact bf (cg rfl _ _ _) hF.defers ⟨congrArg bq (((hF.g 0 rfl):a.eval (aD 2)=ah af 6).trans (congrArg _ hres.symm)),HB⟩
  replace hF:=hF.tl;refine eN ?_
  refine ox [pV (pv B1 14),pV (ae (some ⟨g,off,none⟩) ms.length c3),pV (ah af (k:Nat)),pV (fP (some ⟨g,off+k*3,none⟩)),pV (fP (some ⟨g,off+k*3+1,none⟩)),pV (aO #[ah af m.lo,ah af m.hi]),pV (aH (cN m.lo m.hi 0 99)),pV (aH (!(cN m.lo m.hi 0 99)))]
   _ kQ hF.size hF.base ?_ ?_ ?_
  .exact⟨sV,sV,sV,sV,sV,sV,sV,sV,trivial⟩
  .refine⟨?_,?_,?_,?_,?_,?_,?_,?_,trivial⟩<;>rintro ev w1 hS hc hg hf ⟨b6,b1,-,-⟩ hd
   all_goals try
    try have d0:ev (aD _)=_:=hd.1 rfl
    refine yw rfl ?_ rfl;go_simp;done
   .have d0:ev (aD 44)=_:=hd.1 rfl;have z:=aF (aA K1 hS) 14 _ rfl;exact tV
   .have d1:ev (aD 45)=_:=hd.1 rfl;have d2:ev (aD 46)=_:=hd.2.1 rfl;have Bv:¬(ms.length<=k):=oM;exact tV
   .have d4:ev (aD 48)=_:=hd.1 rfl;obtain⟨z1,z2,z3⟩:=(Qq.below CM hS).2 k oM;rw[hm] at z1 z2 z3;exact tV
   have d5:ev (aD 49)=_:=hd.1 rfl;refine yc (sB m.lo m.hi 0 99 w1) ?_ (fun _=>rfl);go_simp
  intro a W hR;have ho:=hR.s;replace HB:=HB.tr ho;replace K1:=aA K1 ho;replace CM:=CM.below ho;replace hF:=(hR.fr hF).cons (t:=51) (hR.val 7);clear hR ho;refine b_ (t:=(!(cN m.lo m.hi 0 99))) (hF.g 0 rfl) (fun aci=>?_) (fun aci=>?_)
  .replace hF:=hF.tl;have h1:oJ b ms k=1:=by unfold oJ;rw[hm,if_neg (by rw[Zk];simp),if_pos aci]
   have hres:nM b ml ss ms=1:=hh.trans ((Jb k h3 zi pI (by rw[h1];decide)).trans h1);refine fe [(2,ah af 1)] hF ?_;intro a W ho hF;replace HB:=HB.tr ho;replace K1:=aA K1 ho;replace CM:=CM.below ho;refine fQ ?_;exact bf (cg rfl _ _ _) hF.defers ⟨congrArg bq (((hF.g 0 rfl):a.eval (aD 2)=ah af 1).trans (congrArg _ hres.symm)),HB⟩
  replace hF:=hF.tl;have hz:oJ b ms k=0:=by unfold oJ;rw[hm,if_neg (by rw[Zk];simp),if_neg (by rw[aci];simp)]
  refine eN ?_;have qo:=hF;replace hF:=hF.tl;refine Ou ⟨[],[(1,ah af ((k:Nat)+1))],[],[]⟩ [(6,ah af ((k:Nat)+1))] qo hF trivial ⟨fun w1 hS _=>ge (congrArg (ax af) (show IntKind.i64.wrap ((k:Nat)+1)=((k:Nat)+1) by rw[bp];omega)),trivial⟩ ?_;intro a W ho hF;clear qo;replace HB:=HB.tr ho;replace K1:=aA K1 ho;replace CM:=CM.below ho;refine⟨⟨k+1,oM,fun i hi=>if hik:i<k then pI i hik else by have e:i=k:=(by omega);rw[e];exact hz,⟨hF.size,hF.defers,hF.base⟩,HB,K1⟩,?_⟩;rw[show a.eval (aD 6)=ah af ((k:Nat)+1) from(hF.g 0 rfl)];simp only[hk6];simp[intOf];omega
 replace hF:=hF.tl;refine wp_exit ?_;have V3:k=ms.length:=by simp at Na;omega
 have hres:nM b ml ss ms=0:=hh.trans (MC h3 fun i hi=>pI i oM);show CU aq _ _ a W;refine fe [(2,ah af 0)] hF ?_;intro a W ho hF;replace HB:=HB.tr ho;replace K1:=aA K1 ho;refine fQ ?_;exact bf (cg rfl _ _ _) hF.defers ⟨congrArg bq (((hF.g 0 rfl):a.eval (aD 2)=ah af 0).trans (congrArg _ hres.symm)),HB⟩
def P1(b:BB)(ml:List Mn)(ss:List Int)(ms:List Mk):Bool:=(!(ki ml ss ms))&&(nM b ml ss ms==0)
def Tv{ml:List Mn}{ss:List Int}{ms:List Mk}(h:ki ml ss ms=false):ml.length<=20/\ss.length<=20:=by
 unfold ki KS at h;simp at h;omega
def Zu(b:BB)(p1 p2 p3:Option dc)(c1 c2 c3:Nat)(ml:List Mn)(ss:List Int)(ms:List Mk)(w:ak)(hv:Reads w (ae p1 ml.length c1) ml.length (dX ml))(hu:Reads w (ae p2 ss.length c2) ss.length (ss.map (ax af)))(hk3:Reads w (ae p3 ms.length c3) ms.length (ep ms)):bm aq 29 #[aO (b.sl p1 ml.length c1 p2 ss.length c2 p3 ms.length c3)] w (Rt w (aH (P1 b ml ss ms))):=by
 refine lu Tryz.func29 rfl rfl [(0,aO (b.sl p1 ml.length c1 p2 ss.length c2 p3 ms.length c3))] ⟨jB rfl,trivial⟩ fun a hF=>?_;refine(fun h:∀W,Bw w W->CU aq _ _ a W=>h w (ay _ _)) ?_;intro W HB
 refine ox [fun v ds w9=>∃B,v=pv B 0/\w9.heap[B]?=some (ar (b.sl p1 ml.length c1 p2 ss.length c2 p3 ms.length c3) 28 (0,0)),pV (aH false)]
  _ kQ hF.size hF.base ?_ ?_ ?_
 .refine⟨?_,sV,trivial⟩
  .rintro v ds w1 w2 hS ⟨B,h1,h2⟩ hb;exact⟨B,h1,aA h2 hb⟩
 .refine⟨?_,?_,trivial⟩<;>rintro ev w1 hS hc hg hf ⟨b0,-⟩ hd
  .refine yN (v:=pv w1.heap.size 0) (w':=w1.alloc (ar (b.sl p1 ml.length c1 p2 ss.length c2 p3 ms.length c3) 28)) ?_ ⟨⟨_,rfl,aw _ _⟩,bV dF⟩;go_simp
  exact tV
 intro a W hR;have ho:=hR.s;obtain⟨B1,e1,K1⟩:=hR.val 0;replace e1:a.eval (aD 1)=pv B1 0:=e1;replace HB:=HB.tr ho;replace hF:=((hR.fr hF).cons (t:=1) e1).cons (t:=2) (hR.val 1);clear hR ho e1;replace hF:=hF.tl
 refine ox [pV (aO (b.sl p1 ml.length c1 p2 ss.length c2 p3 ms.length c3)),pV (aH (ki ml ss ms)),pV (aH (!(ki ml ss ms))),pV (aH (!(ki ml ss ms))),pC (!(ki ml ss ms)) (aO (b.sl p1 ml.length c1 p2 ss.length c2 p3 ms.length c3)),pC (!(ki ml ss ms)) (ah af (nM b ml ss ms)),pC (!(ki ml ss ms)) (aH ((nM b ml ss ms)==0)),pV (aH ((!(ki ml ss ms))&&((nM b ml ss ms)==0))),pV (aH ((!(ki ml ss ms))&&((nM b ml ss ms)==0)))]
  _ kQ hF.size hF.base ?_ ?_ ?_
 .exact⟨sV,sV,sV,sV,sC,sC,sC,sV,sV,trivial⟩
 .refine⟨?_,?_,?_,?_,?_,?_,?_,?_,?_,trivial⟩<;>rintro ev w1 hS hc hg hf ⟨b1,-,-⟩ hd
  all_goals try
   try have d0:ev (aD _)=_:=hd.1 rfl
   refine yw rfl ?_ rfl;go_simp;done
  .have lj:=aA K1 hS;exact BU 28 rfl b1 lj cF rfl kQ (rfl)
  .have d0:ev (aD 3)=_:=hd.1 rfl;refine yc (args:=#[aO (b.sl p1 ml.length c1 p2 ss.length c2 p3 ms.length c3)]) (Tw b _ _ _ _ _ _ ml ss ms w1 (hv.below (HB.tr hS))) ?_ (fun _=>rfl);go_simp
  .have d3:ev (aD 6)=_:=hd.1 rfl;refine gC d3 zG fun hA=>?_;have lj:=aA K1 hS;exact BU 28 rfl b1 lj cF rfl kQ (fun _=>rfl)
  .have d4:_->ev (aD 7)=_:=hd.1 rfl;have d3:ev (aD 6)=_:=hd.2.1 rfl;refine gC d3 zG fun hA=>?_;have y4:=d4 hA;refine yc (args:=#[aO (b.sl p1 ml.length c1 p2 ss.length c2 p3 ms.length c3)]) (Mg b _ _ _ _ _ _ ml ss ms (Tv (ms:=ms) (by revert hA;cases ki ml ss ms<;>simp)) w1 (hv.below (HB.tr hS)) (hu.below (HB.tr hS)) (hk3.below (HB.tr hS))) ?_ (fun _=>fun _=>rfl);go_simp
  .have d5:_->ev (aD 8)=_:=hd.1 rfl;have d3:ev (aD 6)=_:=hd.2.1 rfl;refine gC d3 zG fun hA=>?_;have y5:=d5 hA;refine yv ?_ (fun _=>rfl);go_simp
  have d3:ev (aD 6)=_:=hd.1 rfl;have d6:_->ev (aD 9)=_:=hd.2.1 rfl;exact yA rfl hc d3 (fun hq=>d6 (by simp[hq])) (rfl)
 intro a W hR;have ho:=hR.s;replace HB:=HB.tr ho;replace K1:=aA K1 ho;replace hF:=(hR.fr hF).cons (t:=2) (hR.val 8);clear hR ho;refine fQ ?_;exact bf (cg rfl _ _ _) hF.defers ⟨congrArg bq (((hF.g 0 rfl):a.eval (aD 2)=aH ((!(ki ml ss ms))&&((nM b ml ss ms)==0))).trans rfl),HB⟩
def Nl{l:List Int}{i:Nat}(h:i<l.length):l.getD i 0=l[i]:=by simp[h]
def Jq{f:Nat->Int}{n:Nat}{c:Int}(h:(((aP n).map f).find? fun h=>h !=0).getD c=0):(∀i,i<n->f i=0)/\c=0:=by
 cases e:((aP n).map f).find? (fun h=>h !=0) with
 |none=>
  rw[e] at h;rw[List.find?_eq_none] at e;refine⟨fun i hi=>?_,h⟩;have:=e _ (dW.2 ⟨i,bO.2 hi,rfl⟩);simpa using this
 |some x=>
  rw[e] at h;have:=List.find?_some e;simp at h this;exact absurd h this
def TV{b:BB}(h:qb b=0):b.Ok:=by
 unfold qb at h;have h1:DX b=false:=by cases e:DX b<;>simp_all
 have h2:GQ b=false:=by cases e:GQ b<;>simp_all
 have h3:Jz b=false:=by cases e:Jz b<;>simp_all
 unfold DX aS at h1;unfold GQ aS at h2;unfold Jz cN at h3;simp at h1 h2 h3;constructor<;>omega
def SD{b:BB}{ss:List Int}(h:lY b ss=0):eG b ss:=by
 unfold lY at h;obtain⟨h1,h2⟩:=Jq h
 have hc:(ss.length:Int)<=b.ey:=by
  refine Int.not_lt.1 fun h'=>?_;rw[if_pos h'] at h2;cases h2
 have hk:∀i (hi:i<ss.length),(1<=ss[i]/\ss[i]<=b.minutes)/\¬(0<i/\ss[i]<=ss.getD (i-1) 0):=by
  intro i hi;have:=h1 i hi;unfold oG at this;rw[Nl hi] at this;cases e:aS ss[i] 1 b.minutes with
  |false=>rw[e] at this;simp at this
  |true=>
   refine⟨gW.1 e,fun h'=>?_⟩;rw[e,if_neg sM,if_pos h'] at this;cases this
 refine⟨fun p hp=>?_,fun k rU=>?_,hc⟩
 .obtain⟨i,hi,rfl⟩:=jJ hp;exact(hk i hi).1
 have:=(hk (k+1) rU).2;rw[show k+1-1=k from rfl,Nl oM] at this;omega
def Pg{b:BB}{ms:List Mk}(h:uV b ms=0):lN b ms:=by
 unfold uV at h
 have h3:(ms.length:Int)<=3:=by
  refine Int.not_lt.1 fun h'=>?_;rw[if_pos h'] at h;cases h
 rw[if_neg oM] at h;obtain⟨h1,-⟩:=Jq h;refine⟨fun m hm=>?_,oM⟩;obtain⟨i,hi,rfl⟩:=jJ hm;have:=h1 i hi;unfold oJ at this;rw[MA ms i hi] at this;cases e:aS ms[i].minute 1 b.minutes with
 |false=>rw[e] at this;simp at this
 |true=>
  rw[e,if_neg sM] at this;cases e2:cN ms[i].lo ms[i].hi 0 99 with
  |false=>rw[e2] at this;simp at this
  |true=>
   have e:=gW.1 e;unfold cN at e2;simp at e2;omega
def acW{b:BB}{ml:List Mn}{ss:List Int}{ms:List Mk}(h:P1 b ml ss ms=true):b.Ok/\xp ml/\eG b ss/\lN b ms:=by
 unfold P1 at h;rw[aI] at h;have h:=h.2;unfold nM at h
 have h1:qb b=0:=by
  refine fH fun hn=>?_;rw[if_pos (by simpa using hn)] at h;simp at h;exact hn h
 rw[h1,if_neg sM] at h
 have h2:ry ml=0:=by
  refine fH fun hn=>?_;rw[if_pos (by simpa using hn)] at h;simp at h;exact hn h
 rw[h2,if_neg sM] at h
 have h3:lY b ss=0:=by
  refine fH fun hn=>?_;rw[if_pos (by simpa using hn)] at h;simp at h;exact hn h
 rw[h3,if_neg sM] at h;exact⟨TV h1,Vj h2,SD h3,Pg (by simpa using h)⟩
def abq(p1 p2:Option dc)(c1 c2:Nat)(xs ys:List Int)(hlen:ys.length=xs.length)(hl:xs.length<=20)(hle:∀(k:Nat) (h1:k<ys.length) (h2:k<xs.length),ys[k]<=xs[k])(w:ak)(hx:Reads w (ae p1 xs.length c1) xs.length (xs.map (ax af)))(hy:Reads w (ae p2 ys.length c2) ys.length (ys.map (ax af))):bm aq 38 #[ae p1 xs.length c1,ae p2 ys.length c2] w (Rt w (aH true)):=by
 obtain⟨N,hN⟩:∃N,xs.length=N:=⟨_,rfl⟩
 have hN2:ys.length=N:=hlen.trans hN;rw[hN] at hx hl ⊢;rw[hN2] at hy ⊢;refine calls_of_wp Tryz.func38 rfl ?_;have hF:=Ga (args:=#[ae p1 N c1,ae p2 N c2]) (n:=26) sM [(1,ae p2 N c2),(0,ae p1 N c1)] ⟨jB rfl,jB rfl,trivial⟩;rw[show Tryz.f38.ntmps=26 from rfl];generalize (⟨#[ae p1 N c1,ae p2 N c2]++Array.replicate (26-(#[ae p1 N c1,ae p2 N c2]:Array ai).size) au,[]⟩:Act)=a at *;refine(fun h:∀W,Bw w W->CU aq _ _ a W=>h w (ay _ _)) ?_;intro W hw;refine fe [(4,aH false)] hF ?_;intro a W ho hF;replace hw:=hw.tr ho;refine dZ ?_;refine EN ⟨[],[(4,aH false)],[],[]⟩ [(10,aH false)] hF hF trivial ⟨fun w1 hS _=>ge (congrArg jM (show(!((N:Int)==(N:Int)))=false from by simp)),trivial⟩ ?_;intro a W ho hF;replace hw:=hw.tr ho;refine wp_cond (t:=false) (hF.g 0 rfl) ?_;replace hF:=hF.tl;refine eN ?_;refine dZ ?_;refine fe [(5,ah af 0)] hF ?_;intro a W ho hF;replace hw:=hw.tr ho;refine jC ?_;rename ak=>WQ;have hQ:=ay WQ.heap.size WQ;refine wp_loop (fun a W=>∃k:Nat,k<=N/\iw 26 a [(5,ah af (k:Int)),(4,aH false),(1,ae p2 N c2),(0,ae p1 N c1)]/\Bw WQ W) (fun a _=>N-(intOf (a.eval (aD 5))).toNat) ⟨0,Nat.zero_le _,⟨hF.size,hF.defers,hF.base⟩,hQ⟩ ?_;clear hF hQ;rintro a W ⟨k,Rh,hF,hQ⟩;have tP:a.eval (aD 5)=ah af (k:Int):=(hF.g 0 rfl)
 refine dZ ?_;refine fe [(14,aH (decide ((k:Int)<(N:Int))))] hF ?_;intro a W ho hF;replace hQ:=hQ.tr ho;refine b_ (t:=(decide ((k:Int)<(N:Int)))) (hF.g 0 rfl) (fun Nc=>?_) (fun Nc=>?_)
 .replace hF:=hF.tl;have hlt:k<N:=by simpa using Nc
  obtain⟨x,Q_⟩:∃x,xs[k]=x:=⟨_,rfl⟩
  obtain⟨y,hyk⟩:∃y,ys[k]=y:=⟨_,rfl⟩
  have Y0:=hle k oM oM;rw[Q_,hyk] at Y0
  obtain⟨g,f,rfl,hcx⟩:∃g off,p1=some ⟨g,off,none⟩/\∀w9,Bw w w9->w9.cell? ⟨g,off+k,none⟩=some (ah af x):=by
   rcases hx with⟨_,h0,_⟩|⟨g,off,cap,h0,_,hg,h4⟩
   .omega
   cases h0;exact⟨g,off,rfl,fun w9 h9=>(h9.cell (p:=⟨g,off+k,none⟩) hg).trans (h4 k _ (by rw[jU,bT oM,Q_];rfl))⟩
  obtain⟨g2,f2,rfl,hcy⟩:∃g off,p2=some ⟨g,off,none⟩/\∀w9,Bw w w9->w9.cell? ⟨g,off+k,none⟩=some (ah af y):=by
   rcases hy with⟨_,h0,_⟩|⟨g,off,cap,h0,_,hg,h4⟩
   .omega
   cases h0;exact⟨g,off,rfl,fun w9 h9=>(h9.cell (p:=⟨g,off+k,none⟩) hg).trans (h4 k _ (by rw[jU,bT oM,hyk];rfl))⟩
  refine eN ?_;refine dZ ?_;refine jC ?_;refine DV kQ ⟨[],[(2,pv g (f+k)),(3,ah af x),(6,pv g2 (f2+k)),(7,ah af y)],[],[]⟩ [(25,aH (decide (x<y)))] hF trivial ⟨fun w1 hS _=>gs (eX 25 (ae (some ⟨g,f,none⟩) N c1) (ah af (k:Int))) (by have Bv:¬(N<=k):=(by omega);go_simp),fun w1 hS _=>gl (hcx w1 (hw.tr (hQ.tr hS))),fun w1 hS _=>gs (eX 25 (ae (some ⟨g2,f2,none⟩) N c2) (ah af (k:Int))) (by have Bv:¬(N<=k):=(by omega);go_simp),fun w1 hS _=>gl (hcy w1 (hw.tr (hQ.tr hS))),trivial⟩ ?_;intro a W ho hF;replace hQ:=hQ.tr ho;refine b_ (t:=(decide (x<y))) (hF.g 0 rfl) (fun Tk=>?_) (fun Tk=>?_)
  .replace hF:=hF.tl;exfalso;simp at Tk;omega
  replace hF:=hF.tl;refine eN ?_;have qo:=hF;replace hF:=hF.tl;refine Ou ⟨[],[(1,ah af ((k:Int)+1))],[],[]⟩ [(5,ah af ((k:Int)+1))] qo hF trivial ⟨fun w1 hS _=>ge (congrArg (ax af) (show IntKind.i64.wrap ((k:Int)+1)=((k:Int)+1) by rw[bp];omega)),trivial⟩ ?_;intro a W ho hF;clear qo;replace hQ:=hQ.tr ho;refine⟨⟨k+1,oM,⟨hF.size,hF.defers,hF.base⟩,hQ⟩,?_⟩;rw[show a.eval (aD 5)=ah af ((k:Int)+1) from(hF.g 0 rfl)];simp only[tP];simp[intOf];omega
 replace hF:=hF.tl;refine wp_exit ?_;replace hF:=hF.del 4;simp only[lQ,ic,bR,reduceIte] at hF;refine fe [(4,aH true)] hF ?_;intro a W ho hF;replace hQ:=hQ.tr ho;refine fQ ?_;exact bf (cg rfl _ _ _) hF.defers ⟨congrArg bq (hF.g 0 rfl),(hw.tr hQ)⟩
end Go.Proofs.YtffladgmkiimjaaGreatDoor
