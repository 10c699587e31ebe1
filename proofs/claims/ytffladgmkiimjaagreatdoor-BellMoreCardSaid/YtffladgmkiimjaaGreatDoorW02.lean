/- LONE WALKS: Pick (111), Holds (34). LONE WALKS: handed (112). (nil bre .. -/
import Derived.Test.YtffladgmkiimjaaGreatDoorW01
set_option linter.all false
set_option maxHeartbeats 0
set_option maxRecDepth 1000000
open Go.Lag.Yields renaming call -> jV,value -> yN,skip -> yva
open Array renaming getElem?_eq_some_iff -> ag
open Go renaming TypeId -> aV,Value -> ai,World -> ak,undef -> au,Operand -> bI,wp_cond_split -> b_,bodyPost_ret -> bf,Calls -> bm,results_tmp -> cg,Addr -> dc,wp_ret -> fQ,wpList_store_row -> fY,maxLen -> gP,info_parts -> gQ,run_loadVar_row -> gY,wpList_append_own -> iY,wpList_load_row -> mS,bytes -> tR
open Go.Addr renaming add -> jh
open Go.Builtin renaming lenOf -> Ev,firstCells -> eU,append_ -> kO
open Go.Code renaming wp -> CU
open Go.Ending renaming returned -> aU,returned -> bq
open Go.IntKind renaming i64 -> af,wrap_i64 -> bp
open Go.Lib renaming hid -> aj
open Go.Obj renaming cells -> ar
open Go.Operand renaming tmp -> aD
open Go.Proofs.Tryz renaming underlying26 -> CL,prog -> aq,underlying28 -> cF,underlying25 -> dt,underlying122 -> js
open Go.Result renaming andThen_ok -> lT
open Go.RowKit renaming Hid -> nz
open Go.RowKit.Below renaming heap_setCell -> aW,heap_alloc -> aY,refl -> ay
open Go.Sem renaming run_pure -> CO,run_bind -> wu
open Go.Value renaming bool -> aH,agg -> aO,slice -> ae,int -> ah,int -> ax,oneCell' -> bJ,tuple -> cR,pointer -> fP,slice -> fU,ownBlock -> jD
open Go.World renaming alloc_heap_new -> aw,ownsRow_nil -> dw,size_alloc -> eD,cell?_alloc_lt -> eI
open List renaming length_take -> II,range -> aP,eq_nil_of_length_eq_zero -> a_,take_succ_eq_append_getElem -> bH,mem_range -> bO,getElem_mem -> bS,mem_cons_of_mem -> bW,take_of_length_le -> cQ,map_cons -> cV,length_pos_iff -> dB,map_append -> d_,length_map -> eJ,drop_eq_getElem_cons -> eh,mem_of_mem_take -> fV,getD_cons_zero -> gH,getD_cons_succ -> gI,map_nil -> gw,size_toArray -> jS,map -> oh,foldl_append -> ot,length_append -> qK
open List.range renaming loop -> cJ
open Nat renaming le_trans -> aG,le_refl -> aJ,lt_of_lt_of_le -> bA,zero_add -> dz,zero_le -> fF
open Option.some renaming inj -> aT
open Or renaming inl -> bV
namespace Go.Lag.Ph
def t9{p:Prop}(h:p:=by refine Ph.yv ?_ rfl;go_simp):p:=h
end Go.Lag.Ph
namespace Go.Proofs.YtffladgmkiimjaaGreatDoor
open Go.RowKit Go.Lag
structure sZ(W:ak)(p:Option dc)(n c:Nat)(pk:Nat->Nat):Prop where
 lt:∀k,pk k<65536
 out:∀k,n<=k->pk k=0
 at_:∀k,k<n->∃g off,p=some ⟨g,off,none⟩/\g<W.heap.size/\W.cell? ⟨g,off+k,none⟩=some (ah .u16 (pk k:Int))
def sZ.below{W W':ak}{p:Option dc}{n c:Nat}{pk:Nat->Nat}(h:sZ W p n c pk)(hb:Bw W W'):sZ W' p n c pk:=
 ⟨h.lt,h.out,fun k hk=>by obtain⟨g,off,h1,h2,h3⟩:=h.at_ k hk;exact⟨g,off,h1,bA h2 hb.size,(hb.cell (p:=⟨g,off+k,none⟩) h2).trans h3⟩⟩
def YB(p:Option dc)(n c k:Nat)(pk:Nat->Nat)(w:ak)(hp:sZ w p n c pk):bm aq 111 #[ae p n c,ah af (k:Int)] w (Rt w (ah af (pk k:Int))):=by
 refine nY Tryz.func111 rfl rfl [(1,ah af (k:Int)),(0,ae p n c)] ⟨jB rfl,jB rfl,trivial⟩ fun a W hF hw=>?_;refine fe [(4,ah af 0)] hF ?_;intro a W ho hF;replace hw:=hw.tr ho;refine wp_seq ?_;refine fe [(8,aH (decide ((k:Int)<(n:Int))))] hF ?_;intro a W ho hF;replace hw:=hw.tr ho;refine b_ (t:=(decide ((k:Int)<(n:Int)))) (hF.g 0 rfl) (fun hc8=>?_) (fun hc8=>?_)
 .replace hF:=hF.tl;have hlt:k<n:=by simpa using hc8
  have hpb:=hp.lt k
  obtain⟨g,off,rfl,hcell⟩:∃g off,p=some ⟨g,off,none⟩/\∀w9,Bw w w9->w9.cell? ⟨g,off+k,none⟩=some (ah .u16 (pk k:Int)):=by
   obtain⟨g,off,h1,h2,h3⟩:=hp.at_ k hlt;exact⟨g,off,h1,fun w9 h9=>(h9.cell (p:=⟨g,off+k,none⟩) h2).trans h3⟩
  replace hF:=hF.tl;refine EN ⟨[],[(2,pv g (off+k)),(3,ah .u16 (pk k:Int)),(4,ah af (pk k:Int))],[],[]⟩ [(4,ah af (pk k:Int))] hF hF trivial ⟨fun w1 hS _=>gs (Instr.indexAt 39 (ae (some ⟨g,off,none⟩) n c) (ah af (k:Int))) (by have Bv:¬(n<=k):=(by omega);go_simp),fun w1 hS _=>gl (hcell w1 (hw.tr hS)),fun w1 hS _=>ge (congrArg (ax af) (show IntKind.i64.wrap (pk k:Int)=(pk k:Int) from by rw[bp];omega)),trivial⟩ ?_;intro a W ho hF;replace hw:=hw.tr ho;refine fQ ?_;exact bf (cg rfl _ _ _) hF.defers ⟨congrArg bq ((show a.eval (aD 4)=_ from(hF.g 0 rfl)).trans (rfl)),hw⟩
 replace hF:=hF.tl;have Hi:=hp.out k (by simp at hc8;omega);refine wp_skip ?_;replace hF:=hF.tl;refine fe [(4,ah af 0)] hF ?_;intro a W ho hF;replace hw:=hw.tr ho;refine fQ ?_;exact bf (cg rfl _ _ _) hF.defers ⟨congrArg bq ((show a.eval (aD 4)=_ from(hF.g 0 rfl)).trans (by rw[Hi];rfl)),hw⟩
def aiu(n:Int)(h:0<=n/\n<=99)(w:ak):bm aq 167 #[ah af n] w fun e w'=>e=aU (aH false)/\w=w':=by
 go_enter Tryz.func167,Tryz.ntmps167
 go_wp2_with (go_at_call 138;refine(iX _ _ _ oM oM _).mono ?_;rintro e w' ⟨rfl,rfl⟩)
 go_ret
 exact⟨rfl,rfl⟩
def YX(xs:List Int)(Ji:∀x∈xs,0<=x/\x<=99)(v:ai)(w:ak)(hv:Reads w v xs.length (xs.map (ax af))) :
  bm aq 170 #[v,.func (.func 167) #[] #[]] w fun e w'=>e=aU (ah af (-1))/\w=w':=by
 rcases hv with⟨rfl,hn,hx0⟩|⟨g,off,cap,rfl,hn,hg,hc⟩
 .obtain rfl:xs=[]:=by simpa using hx0
  clear hx0 hn
  go_enter Tryz.func170,Tryz.ntmps170
  go_wp2
  go_loopw [8] (fun i wr=>i=ah af 0/\wr=w) (fun _ _=>0)
  case atStart=>exact⟨rfl,rfl⟩
  case round=>
   obtain⟨rfl,rfl⟩:=hrel;go_wp2
   go_ret
   exact⟨rfl,rfl⟩
 have HC:=aj hc;clear hc;generalize hL:xs.length=L at *;have HL:=aj hL;clear hL
 go_enter Tryz.func170,Tryz.ntmps170
 go_wp2
 go_loopw [5,8] (fun _ i wr=>∃k:Nat,k<=L/\i=ah af k/\wr=w) (fun _ i _=>L-(intOf i).toNat)
 case atStart=>exact⟨0,oM,rfl,rfl⟩
 case round=>
  obtain⟨k,hk,rfl,rfl⟩:=hrel
  by_cases hlt:k<L
  .have kq:k<xs.length:=by rw[HL.out];exact hlt
   have hcell:wr.cell? ⟨g,off+k,none⟩=some (ah af xs[k]):=HC.out k _ (by simp[kq]);have hx:=Ji xs[k] (bS kq);generalize xs[k]=x at *;clear Ji
   go_wp2_with (go_at_call 167;refine(aiu x hx _).mono ?_;rintro e w2 ⟨rfl,rfl⟩)
   go_roundw
   case rel=>exact⟨k+1,oM,sM⟩
   case measure=>(simp[intOf];try omega)
  obtain rfl:k=L:=oM;clear Ji;go_wp2
  go_ret
  exact⟨rfl,rfl⟩
def Gs(xs:List Int)(Ji:∀x∈xs,0<=x/\x<=99)(v:ai)(w:ak)(hv:Reads w v xs.length (xs.map (ax af))) :
  bm aq 166 #[v,.func (.func 167) #[] #[]] w fun e w'=>e=aU (aH false)/\w=w':=by
 have H:=aj (YX xs Ji v w hv);clear Ji hv
 go_enter Tryz.func166,Tryz.ntmps166
 go_wp2_with (go_at_call 170;refine H.out.mono ?_;rintro e w2 ⟨rfl,rfl⟩)
 go_ret
 exact⟨rfl,rfl⟩
def jL(lk:Int)(br:List Int):eV:=⟨lk,br.getD 0 0,br.getD 1 0,br.getD 2 0⟩
def N9(lk:Int):∀(br:List Int),br.length<=3->
  ((#[ax af lk,ah af 0,ah af 0,ah af 0]:Array ai).toList.take 1++br.map (ax af)++(#[ax af lk,ah af 0,ah af 0,ah af 0]:Array ai).toList.drop (1+(br.map (ax af)).length)).toArray=(jL lk br).cells
 |[],_=>rfl
 |[_],_=>rfl
 |[_,_],_=>rfl
 |[_,_,_],_=>rfl
 |_::_::_::_::_,h=>by simp at h
def Dz(b:BB)(bn aL az:ai)(ml:List Mn)(M3:ml.length<=3)(lk:Int)(h0:0<=lk/\lk<=99)(br:List Int)(hbr:∀x∈br,0<=x/\x<=99)(hl:br.length=ml.length)(g off cap:Nat)(w:ak)(hm:Reads w bn ml.length (dX ml))
  (hg:g<w.heap.size) (H9:br.length<=cap) (hcc:∀j u,(br.map (ax af))[j]?=some u->w.cell? ⟨g,off+j,none⟩=some u) :
  bm aq 112 #[aO (b.cells bn aL az),aO #[ah af lk,ae (some ⟨g,off,none⟩) br.length cap]] w (Rt w (cR #[aO (jL lk br).cells,ah af 0])):=by
 have hv:Reads w (ae (some ⟨g,off,none⟩) br.length cap) br.length (br.map (ax af)):=.inr ⟨g,off,cap,rfl,⟨oM,H9⟩,hg,hcc⟩;have hb3:Bw w (((w.alloc (ar (b.cells bn aL az) 119)).alloc (ar #[ah af lk,ae (some ⟨g,off,none⟩) br.length cap] 42)).alloc (ar #[ah af 0,ah af 0,ah af 0,ah af 0] 134)):=(((ay _ w).alloc (aJ _) _).alloc sM _).alloc sO _;obtain⟨pm,cm,rfl,_⟩:=aR hm;have Lr:=aj (Gs br hbr _ _ (hv.below hb3));have hb8:=((((ay _ w).alloc (aJ _) (ar (b.cells (ae pm ml.length cm) aL az) 119)).alloc sM (ar #[ah af lk,ae (some ⟨g,off,none⟩) br.length cap] 42)).alloc sO (ar #[ah af lk,ah af 0,ah af 0,ah af 0] 134)).drew
 have hr8:((((w.alloc (ar (b.cells (ae pm ml.length cm) aL az) 119)).alloc (ar #[ah af lk,ae (some ⟨g,off,none⟩) br.length cap] 42)).alloc (ar #[ah af lk,ah af 0,ah af 0,ah af 0] 134)).drew).heap[w.heap.size+1+1]?=some (ar #[ah af lk,ah af 0,ah af 0,ah af 0] 134 (0,0)):=
  (nB w (b.cells (ae pm ml.length cm) aL az) #[ah af lk,ae (some ⟨g,off,none⟩) br.length cap] #[ah af lk,ah af 0,ah af 0,ah af 0] 119 42 134).2.2
 have zl:=run_copy_row (P:=aq) _ 25 25 3 3 (w.heap.size+1+1) 1 3 3 ⟨g,off,none⟩ br.length cap _ 134 (br.map (ax af)) dt kQ hr8 (by rw[eJ];exact(Nat.min_eq_left oM).symm)
  (fun j u hj=>by
   have h1:=(hb8.cell (p:=⟨g,off+j,none⟩) hg).trans (hcc j u hj);have e:(⟨g,off,none⟩:dc).add j=⟨g,off+j,none⟩:=by cases j<;>simp[jh]
   rw[e];exact h1) (by simp;try omega) (by intro u hu;simp at hu;obtain⟨x,_,rfl⟩:=hu;rfl)
 rw[N9 lk br oM] at zl;have HR:nz ((((((w.alloc (ar (b.cells (ae pm ml.length cm) aL az) 119)).alloc (ar #[ah af lk,ae (some ⟨g,off,none⟩) br.length cap] 42)).alloc (ar #[ah af lk,ah af 0,ah af 0,ah af 0] 134)).drew).setRow (w.heap.size+1+1) (jL lk br).cells).heap[w.heap.size+1+1]?=some (ar (jL lk br).cells 134 (0,0))):=aj (cD hr8);have HB:=aj hb8;have hbl:(br.map (ax af)).length=br.length:=eJ _;rw[hbl] at zl;clear hb3 hcc hv hm hr8 hb8 hbl hbr;rw[<-hl] at *;generalize br.length=L at *;generalize jL lk br=A at *;have z1:IntKind.i64.wrap (L:Int)=L:=fO _ oM oM
 go_enter Tryz.func112,Tryz.ntmps112
 go_wp2_with (first
  |(go_at_call 138;refine(iX _ _ _ oM oM _).mono ?_;rintro e w' ⟨rfl,rfl⟩)
  |(go_at_call 166;refine Lr.out.mono ?_;rintro e w' ⟨rfl,rfl⟩))
 go_region
 all_goals
  go_wp2_with (first
   |(refine mS rfl 134 _ rfl _ rfl 134 _ (0,0) _ HR.out Tryz.underlying134 rfl kQ ?_)
   |(refine fY rfl 134 _ _ rfl _ _ rfl rfl 134 _ HR.out kQ rfl (by simp[bJ]) ?_))
  refine bf (results_cell_tmp (g:=w.heap.size+1+1) rfl rfl (gY _ _ 134 134 _ (0,0) _ (cD HR.out) Tryz.underlying134 rfl kQ)) rfl ⟨rfl,?_⟩;exact dx (dx HB.out oM) oM
def Xb(w:ak)(g o akq akr:Nat):(Builtin.copy_ #[25,25] 3 #[ae (some ⟨g,o,none⟩) akq akr,ae none 0 0]).run aq w=.ok (ah af 0) w:=by
 cases hq:Tryz.prog.info? 3 with
 |none=>exact absurd hq (fun h=>by have:(Tryz.prog.info? 3).isSome=true:=(by kernel_rfl);rw[h] at this;cases this)
 |some i=>simp[Builtin.copy_,run_underlying dt,Ev,eU,sizeOf,typeInfo,hq,goInt,loadCells,storeCells]
def Nf(b:BB)(bn aL az:ai)(ml:List Mn)(M3:ml.length<=3)(lk:Int)(h0:0<=lk/\lk<=99)(hl:ml.length=0)(w:ak)(hm:Reads w bn ml.length (dX ml)) :
  bm aq 112 #[aO (b.cells bn aL az),aO #[ah af lk,ae none 0 0]] w (Rt w (cR #[aO (jL lk []).cells,ah af 0])):=by
 have hv:Reads w (ae none 0 0) ([]:List Int).length (([]:List Int).map (ax af)):=bV ⟨rfl,rfl,rfl⟩;have hb3:Bw w (((w.alloc (ar (b.cells bn aL az) 119)).alloc (ar #[ah af lk,ae none 0 0] 42)).alloc (ar #[ah af 0,ah af 0,ah af 0,ah af 0] 134)):=(((ay _ w).alloc (aJ _) _).alloc sM _).alloc sO _;obtain⟨pm,cm,rfl,_⟩:=aR hm;have Lr:=aj (Gs [] sM _ _ (hv.below hb3));have hb8:=((((ay _ w).alloc (aJ _) (ar (b.cells (ae pm ml.length cm) aL az) 119)).alloc sM (ar #[ah af lk,ae none 0 0] 42)).alloc sO (ar #[ah af lk,ah af 0,ah af 0,ah af 0] 134)).drew
 have hr8:((((w.alloc (ar (b.cells (ae pm ml.length cm) aL az) 119)).alloc (ar #[ah af lk,ae none 0 0] 42)).alloc (ar #[ah af lk,ah af 0,ah af 0,ah af 0] 134)).drew).heap[w.heap.size+1+1]?=some (ar #[ah af lk,ah af 0,ah af 0,ah af 0] 134 (0,0)):=
  (nB w (b.cells (ae pm ml.length cm) aL az) #[ah af lk,ae none 0 0] #[ah af lk,ah af 0,ah af 0,ah af 0] 119 42 134).2.2
 have zl:=Xb (((w.alloc (ar (b.cells (ae pm ml.length cm) aL az) 119)).alloc (ar #[ah af lk,ae none 0 0] 42)).alloc (ar #[ah af lk,ah af 0,ah af 0,ah af 0] 134)).drew (w.heap.size+1+1) 1 3 3;have HR:=aj hr8;have HB:=aj hb8;clear hb3 hv hm;generalize ml.length=L at *;subst hl
 go_enter Tryz.func112,Tryz.ntmps112
 go_wp2_with (first
  |(go_at_call 138;refine(iX _ _ _ oM oM _).mono ?_;rintro e w' ⟨rfl,rfl⟩)
  |(go_at_call 166;refine Lr.out.mono ?_;rintro e w' ⟨rfl,rfl⟩))
 go_region
 all_goals
  go_wp2_with (first
   |(refine mS rfl 134 _ rfl _ rfl 134 _ (0,0) _ HR.out Tryz.underlying134 rfl kQ ?_)
   |(refine fY rfl 134 _ _ rfl _ _ rfl rfl 134 _ HR.out kQ rfl (by simp[bJ]) ?_))
  refine bf (results_cell_tmp (g:=w.heap.size+1+1) rfl rfl (gY _ _ 134 134 _ (0,0) _ (cD HR.out) Tryz.underlying134 rfl kQ)) rfl ⟨rfl,?_⟩;exact dx HB.out oM
def N8{lk:Int}(h0:0<=lk/\lk<=99):∀ {br:List Int},br.length<=3->(∀x∈br,0<=x/\x<=99)->(jL lk br).Ok
 |[],_,_=>⟨⟨h0.1,by show lk<=400;omega⟩,by simp[jL],by simp[jL],by simp[jL]⟩
 |[a],_,h=>⟨⟨h0.1,by show lk<=400;omega⟩,h a sM,by simp[jL],by simp[jL]⟩
 |[a,c],_,h=>⟨⟨h0.1,by show lk<=400;omega⟩,h a sM,h c sM,by simp[jL]⟩
 |[a,c,d],_,h=>⟨⟨h0.1,by show lk<=400;omega⟩,h a sM,h c sM,h d sM⟩
 |_::_::_::_::_,h,_=>by simp at h
def ZR(b:BB)(bn aL az:ai)(ml:List Mn)(ss:List Int)(ms:List Mk)(w:ak)(hL:Laid w)(hB:dh b bn aL az ml ss ms w)(lk:Int)(h0:0<=lk/\lk<=99)(br:List Int)(hbr:∀x∈br,0<=x/\x<=99)(hl:br.length=ml.length)
  (g off cap:Nat) (hg:g<w.heap.size) (H9:br.length<=cap) (hcc:∀j u,(br.map (ax af))[j]?=some u->w.cell? ⟨g,off+j,none⟩=some u) (pl:List Int) (hp:eG b pl) (lv:ai) (hlv:Reads w lv pl.length (pl.map (ax af))) :
  bm aq 32 #[aO (b.cells bn aL az),aO #[ah af lk,ae (some ⟨g,off,none⟩) br.length cap],lv] w fun e w'=>∃v,e=aU (cR #[v,ah af 0])/\Reads w' v b.minutes.toNat ((b.j9 (b.cI+(jL lk br).used) (bE pl) b.minutes.toNat).map (ax af))/\Bw w w':=by
 have dp:=hB.ok;have AB:=dp.minutes;have oK:∀s∈pl,1<=s/\s<=8:=fun s h=>by have:=hp.mem s h;omega
 have Hh:bE pl<512:=mV pl oK;have M3:=hB.iF.len;have hao:=N8 h0 oM hbr;obtain⟨pm,cm,rfl,_⟩:=aR hB.rm;obtain⟨pn,cn,rfl,_⟩:=aR hB.rs;obtain⟨pk,ck,rfl,_⟩:=aR hB.rk;obtain⟨rj,rH,rfl,_⟩:=aR hlv;have b0:Bw w ((w.alloc (ar (b.sl pm ml.length cm pn ss.length cn pk ms.length ck) 28)).alloc (ar #[ah af lk,ae (some ⟨g,off,none⟩) br.length cap] 42)):=dF.alloc sM _;have HT:nz (Two w (b.sl pm ml.length cm pn ss.length cn pk ms.length ck) 28 #[ah af lk,ae (some ⟨g,off,none⟩) br.length cap] 42 ((w.alloc (ar (b.sl pm ml.length cm pn ss.length cn pk ms.length ck) 28)).alloc (ar #[ah af lk,ae (some ⟨g,off,none⟩) br.length cap] 42))):=aj ⟨(Two.mk' w _ _ _ _).one,(Two.mk' w _ _ _ _).two,b0,sM⟩;have uL:=aj (fh b _ _ _ ml ss ms _ (hL.below b0) (hB.below b0))
 have HHd:nz (∀W,Bw w W->bm aq 112 #[aO (b.sl pm ml.length cm pn ss.length cn pk ms.length ck),aO #[ah af lk,ae (some ⟨g,off,none⟩) br.length cap]] W fun e w'=>e=aU (cR #[aO (jL lk br).cells,ah af 0])/\Bw W w'):=aj fun W hb=>
  Dz b _ _ _ ml M3 lk h0 br hbr hl g off cap W (hB.below hb).rm (bA hg hb.size) H9 fun j u hj=>(hb.cell (p:=⟨g,off+j,none⟩) hg).trans (hcc j u hj)
 have X9:nz (∀W,Bw w W->bm aq 113 #[aO (b.sl pm ml.length cm pn ss.length cn pk ms.length ck),ae rj pl.length rH] W fun e w'=>e=aU (ah af 0)/\Bw W w'):=aj fun W hb=>rq b dp _ _ _ _ pl hp W (hlv.below hb);have HLv:=aj hlv;have ZY:=aj oK;clear hL hB hlv oK hcc b0 hbr hp;generalize hA:jL lk br=A at *;clear hA;generalize ml.length=lm at *;generalize ss.length=ln at *;generalize ms.length=lk2 at *;generalize br.length=lb at *;subst hl
 go_enter Tryz.func32,Tryz.ntmps32
 go_wp2_with (first
  |(go_at_call 71;refine uL.out.mono ?_;clear uL;rintro e w1 ⟨rfl,hb1⟩
    have tO:=HT.out.next hb1;have qf:=aj tO
    obtain⟨x0,x1,x2,x3,x4,x5,x6,x7,x8,x9,qY,qX,r8,rT,rW⟩:=bZ tO.one;have zt:=(aY w1 (ar (b.sl pm lb cm pn ln cn pk lk2 ck) 119) (w.heap.size+1) (by have:=tO.size;omega)).trans tO.two;have z0:=aF zt 0 _ rfl;have z1:=aF zt 1 _ rfl;clear zt
    clear tO hb1)
  |(go_at_call 112;refine(HHd.out _ (qf.out.below.alloc (by have:=qf.out.size;omega) _)).mono ?_;clear HHd;rintro e w2 ⟨rfl,hb2⟩
    have hk2:=(hb2.block w1.heap.size sM).trans (aw w1 _);have Iz:=aj hk2;have qp:nz (Bw w w2):=aj ((qf.out.below.alloc (by have:=qf.out.size;omega) _).trans (hb2.mono (by have:=qf.out.size;simp;omega)));obtain⟨y0,y1,y2,y3,y4,y5,y6,y7,y8,y9,Ow,Qz,Qy,Qx,LD⟩:=bZ ((aY w2 (ar A.cells 134) _ (ag.1 hk2).1).trans hk2);have hs2:=hb2.size;simp only[eD] at hs2
    clear hk2 hb2)
  |(go_at_call 113;refine(X9.out _ (qp.out.alloc qp.out.size _)).mono ?_;clear X9;rintro e w3 ⟨rfl,hb3⟩
    have HK3:nz (w3.heap[w1.heap.size]?=some (ar (b.sl pm lb cm pn ln cn pk lk2 ck) 119 (0,0))):=aj ((hb3.block _ sO).trans ((aY _ _ _ oM).trans Iz.out));have HA3:nz (w3.heap[w2.heap.size]?=some (ar A.cells 134 (0,0))):=aj ((hb3.block _ sM).trans (aw w2 _));have qz:nz (Bw w w3):=aj ((qp.out.alloc qp.out.size _).trans (hb3.mono (by have:=qp.out.size;simp;omega)))
    clear hb3))
 have hl3:=(ag.1 HK3.out).1;have ha3:=(ag.1 HA3.out).1
 refine cy kQ [
 pV (aO (b.sl pm lb cm pn ln cn pk lk2 ck)),
  pV (aO A.cells),
  pV (ae rj pl.length rH),
  pV (ah af (bE pl)),
  fun v ds w9=>Reads w9 v b.minutes.toNat ((b.j9 (b.cI+A.used) (bE pl) b.minutes.toNat).map (ax af)),
  fun v ds w9=>Reads w9 v b.minutes.toNat ((b.j9 (b.cI+A.used) (bE pl) b.minutes.toNat).map (ax af)),
  pV (ah af 0)]
  (fun w9=>Bw w3 w9) [(2,ae rj pl.length rH),(9,pv w1.heap.size 0),(10,pv w2.heap.size 0)] kQ ?rst (fun w1 w2 h hb=>h.trans (hb.mono h.size)) ((ay _ _).drew) ⟨rfl,rfl,rfl,trivial⟩ ?reach ?rfin
 case rst=>
  refine⟨sV,sV,sV,sV,?_,?_,sV,trivial⟩
  .rintro v ds w1 w2 hS h hb;exact h.below hb
  rintro v ds w1 w2 hS h hb;exact h.below hb
 case reach=>
  refine⟨?_,?_,?_,?_,?_,?_,?_,trivial⟩<;>rintro ev w1 hS hc hg hf ⟨b2,b9,Ov,-⟩ hd
  .obtain⟨u0,u1,u2,u3,u4,u5,u6,u7,u8,u9,u10,u11,u12,u13,u14⟩:=bZ ((hS.block _ hl3).trans HK3.out);exact tV
  .obtain⟨u0,u1,u2,u3⟩:=qV ((hS.block _ ha3).trans HA3.out);exact tV
  .exact tV
  .have d2:ev (aD 37)=_:=hd.1 rfl;refine yq (args:=#[ae rj pl.length rH]) (kW pl ZY.out _ _ (HLv.out.below (qz.out.trans (hS.mono qz.out.size)))) ?_ fun _=>rfl;go_simp
  .have d0:ev (aD 35)=_:=hd.1 rfl;have d1:ev (aD 36)=_:=hd.2.1 rfl;have d3:ev (aD 38)=_:=hd.2.2.1 rfl;refine jV (f:=114) (args:=#[aO (b.sl pm lb cm pn ln cn pk lk2 ck),aO A.cells,ah af (bE pl)]) ?_ (Af b dp _ _ _ A hao (bE pl) Hh _) ?_
   .go_simp
   rintro e w2 ⟨v,rfl,h1,h2⟩;exact⟨_,rfl,Reads.gG h1 oM (by simp[BB.j9]),bV h2⟩
  .exact yv rfl (hd.1 rfl)
  exact tV
 case rfin=>
  intro a2 w4 hR;have hS:=hR.s;have e5:Reads w4 (a2.tmps.getD 6 au) b.minutes.toNat ((b.j9 (b.cI+A.used) (bE pl) b.minutes.toNat).map (ax af)):=hR.val 5;have e6:a2.tmps.getD 7 au=_:=hR.val 6;have ha:=hR.lits 40 rfl;simp only[aP,cJ,oh] at ha;clear hR;have afY:=ha;rw[e6] at ha;generalize a2.tmps.getD 6 au=pv6 at *;generalize a2.tmps.getD=zz at ha;have HE:=aj e5;have HF:=aj hS;clear e5 e6 hS afY;subst ha;go_wp2;go_ret2;exact⟨_,rfl,HE.out,qz.out.trans (HF.out.mono qz.out.size)⟩
def A5(x y:Int):Int:=if x<y then -1 else if y<x then 1 else 0
def Kl(x:Int)(w:ak):bm aq 179 #[ah af x] w fun e w'=>e=aU (aH false)/\w=w':=by
 go_enter Tryz.func179,Tryz.ntmps179
 go_wp2
 go_ret
 exact⟨rfl,rfl⟩
def xL(x y:Int)(w:ak):bm aq 161 #[ah af x,ah af y] w fun e w'=>e=aU (ah af (A5 x y))/\w=w':=by
 rcases Int.lt_trichotomy x y with h|h|h
 .have e:A5 x y = -1:=by unfold A5;rw[if_pos h]
  rw[e];clear e
  go_enter Tryz.func161,Tryz.ntmps161
  go_wp2_with (go_at_call 179;refine(Kl _ _).mono ?_;rintro e w' ⟨rfl,rfl⟩)
  go_ret
  exact⟨rfl,rfl⟩
 .subst h;have e:A5 x x=0:=by unfold A5;simp
  rw[e];clear e
  go_enter Tryz.func161,Tryz.ntmps161
  go_wp2_with (go_at_call 179;refine(Kl _ _).mono ?_;rintro e w' ⟨rfl,rfl⟩)
  go_ret
  exact⟨rfl,rfl⟩
 have e:A5 x y=1:=by unfold A5;rw[if_neg oM,if_pos h]
 have h2:¬x<y:=oM;rw[e];clear e
 go_enter Tryz.func161,Tryz.ntmps161
 go_wp2_with (go_at_call 179;refine(Kl _ _).mono ?_;rintro e w' ⟨rfl,rfl⟩)
 go_ret
 exact⟨rfl,rfl⟩
def kx:List Int->List Int->Int
 |[],[]=>0
 |[],_::_=>-1
 |_::_,[]=>1
 |x::xs,y::ys=>if A5 x y≠0 then A5 x y else kx xs ys
def EM:∀(xs ys:List Int),-1<=kx xs ys/\kx xs ys<=1
 |[],[]=>by simp[kx]
 |[],_::_=>by simp[kx]
 |_::_,[]=>by simp[kx]
 |x::xs,y::ys=>by
  have:=EM xs ys;unfold kx
  by_cases h:A5 x y≠0
  .rw[if_pos h];unfold A5
   by_cases h1:x<y
   .rw[if_pos h1];omega
   rw[if_neg h1]
   by_cases h2:y<x
   .rw[if_pos h2];omega
   rw[if_neg h2];omega
  rw[if_neg h];exact this
def TM(xs ys:List Int)(k:Nat)(hx:k<xs.length)(hy:k<ys.length):kx (xs.drop k) (ys.drop k)=if A5 xs[k] ys[k]≠0 then A5 xs[k] ys[k] else kx (xs.drop (k+1)) (ys.drop (k+1)):=by
 rw[eh hx,eh hy];rfl
def TL(xs ys:List Int)(k:Nat)(hx:k<xs.length)(hy:ys.length<=k):kx (xs.drop k) (ys.drop k)=1:=by
 rw[eh hx,List.drop_eq_nil_of_le hy];rfl
def Gt(xs ys:List Int)(k:Nat)(hx:xs.length<=k)(hk:k<=ys.length):kx (xs.drop k) (ys.drop k)=if k<ys.length then -1 else 0:=by
 rw[List.drop_eq_nil_of_le hx]
 by_cases h:k<ys.length
 .rw[eh h,if_pos h];rfl
 rw[List.drop_eq_nil_of_le oM,if_neg h];rfl
def P9(w:ak):bm aq 98 #[(ae none 0 0),(ae none 0 0)] w fun e w'=>e=aU (ah af (kx [] []))/\w=w':=by
 go_enter Tryz.func98,Tryz.ntmps98
 go_wp2
 go_loop [11] (fun i=>i=ah af 0) (fun _=>0)
 case atStart=>exact rfl
 case round=>
  obtain rfl:=hrel;go_wp2
  go_ret
  exact⟨rfl,rfl⟩
def P8(w:ak)(ys:List Int)(g2 o2 L2 c2:Nat)(hL2:ys.length=L2)(zO:L2<=4294967296)(hc2:∀j u,(ys.map (ax af))[j]?=some u->w.cell? ⟨g2,o2+j,none⟩=some u):bm aq 98 #[(ae none 0 0),(ae (some ⟨g2,o2,none⟩) L2 c2)] w fun e w'=>e=aU (ah af (kx [] ys))/\w=w':=by
 have LA:=aj hL2;have HC2:=aj hc2;clear hL2 hc2
 go_enter Tryz.func98,Tryz.ntmps98
 go_wp2
 go_loop [11] (fun i=>i=ah af 0) (fun _=>0)
 case atStart=>exact rfl
 case round=>
  obtain rfl:=hrel
  by_cases h0:0<L2
  .have HE:nz (kx [] ys = -1):=by have:=Gt [] ys 0 sM oM;rw[LA.out,if_pos h0] at this;exact aj (by simpa using this)
   go_wp2
   go_ret
   exact⟨iH HE.out.symm,rfl⟩
  have HE:nz (kx [] ys=0):=by have:=Gt [] ys 0 sM oM;rw[LA.out,if_neg h0] at this;exact aj (by simpa using this)
  go_wp2
  go_ret
  exact⟨iH HE.out.symm,rfl⟩
def P7(w:ak)(xs:List Int)(g1 o1 L1 c1:Nat)(hL1:xs.length=L1)(vG:L1<=4294967296)(hc1:∀j u,(xs.map (ax af))[j]?=some u->w.cell? ⟨g1,o1+j,none⟩=some u):bm aq 98 #[(ae (some ⟨g1,o1,none⟩) L1 c1),(ae none 0 0)] w fun e w'=>e=aU (ah af (kx xs []))/\w=w':=by
 have HL1:=aj hL1;have RP:=aj hc1;clear hL1 hc1
 go_enter Tryz.func98,Tryz.ntmps98
 go_wp2
 go_loop [5,6,7,8,11] (fun _ _ _ _ i=>∃k:Nat,k<=L1/\i=ah af k/\kx xs []=kx (xs.drop k) []) (fun _ _ _ _ i=>L1-(intOf i).toNat)
 case atStart=>exact⟨0,oM,rfl,sM⟩
 case round=>
  obtain⟨k,rC,rfl,PN⟩:=hrel;have RO:=aj PN;clear PN
  by_cases hlt:k<L1
  .have kq:k<xs.length:=by rw[HL1.out];exact hlt
   have acf:w.cell? ⟨g1,o1+k,none⟩=some (ah af xs[k]):=RP.out k _ (by simp[kq]);have HE:nz (kx xs []=1):=by have h1:=RO.out;rw[eh kq] at h1;rw[h1];rfl
   generalize xs[k]=x at *
   go_wp2_with (go_at_call 161;refine(xL _ _ _).mono ?_;rintro e w' ⟨rfl,rfl⟩)
   go_ret
   exact⟨iH HE.out.symm,rfl⟩
  obtain rfl:k=L1:=oM;have HE:nz (kx xs []=0):=by rw[RO.out,List.drop_eq_nil_of_le (by rw[HL1.out];exact aJ _)];rfl
  go_wp2_with (go_at_call 161;refine(xL _ _ _).mono ?_;rintro e w' ⟨rfl,rfl⟩)
  go_ret
  exact⟨iH HE.out.symm,rfl⟩
def P6(w:ak)(xs:List Int)(g1 o1 L1 c1:Nat)(hL1:xs.length=L1)(vG:L1<=4294967296)(hc1:∀j u,(xs.map (ax af))[j]?=some u->w.cell? ⟨g1,o1+j,none⟩=some u)(ys:List Int)(g2 o2 L2 c2:Nat)(hL2:ys.length=L2)(zO:L2<=4294967296)(hc2:∀j u,(ys.map (ax af))[j]?=some u->w.cell? ⟨g2,o2+j,none⟩=some u):bm aq 98 #[(ae (some ⟨g1,o1,none⟩) L1 c1),(ae (some ⟨g2,o2,none⟩) L2 c2)] w fun e w'=>e=aU (ah af (kx xs ys))/\w=w':=by
 have HL1:=aj hL1;have RP:=aj hc1;clear hL1 hc1;have LA:=aj hL2;have HC2:=aj hc2;clear hL2 hc2
 go_enter Tryz.func98,Tryz.ntmps98
 go_wp2
 go_loop [5,6,7,8,11] (fun _ _ _ _ i=>∃k:Nat,k<=L1/\k<=L2/\i=ah af k/\kx xs ys=kx (xs.drop k) (ys.drop k)) (fun _ _ _ _ i=>L1-(intOf i).toNat)
 case atStart=>exact⟨0,oM,oM,rfl,sM⟩
 case round=>
  obtain⟨k,rC,hk2,rfl,PN⟩:=hrel;have RO:=aj PN;clear PN
  by_cases hlt:k<L1
  .have kq:k<xs.length:=by rw[HL1.out];exact hlt
   have acf:w.cell? ⟨g1,o1+k,none⟩=some (ah af xs[k]):=RP.out k _ (by simp[kq])
   by_cases hlt2:k<L2
   .have hky:k<ys.length:=by rw[LA.out];exact hlt2
    have ajz:w.cell? ⟨g2,o2+k,none⟩=some (ah af ys[k]):=HC2.out k _ (by simp[hky]);have hst:=TM xs ys k kq hky;generalize xs[k]=x at *;generalize ys[k]=y at *;have hC:=xL x y;obtain⟨c,hc⟩:∃c,A5 x y=c:=⟨_,rfl⟩
    rw[hc] at hst hC;have HCC:=aj hc;clear hc
    by_cases hz:c=0
    .subst hz;rw[if_neg sM] at hst;have HST:=aj hst;clear hst
     go_wp2_with (go_at_call 161;refine(hC _).mono ?_;rintro e w' ⟨rfl,rfl⟩)
     go_round
     case rel=>exact⟨k+1,oM,oM,by go_num,RO.out.trans HST.out⟩
     case measure=>simp[intOf];omega
    have hb:(c==0)=false:=by simpa using hz
    have hb2:(c !=0)=true:=by simpa using hz
    rw[if_pos hz] at hst;have HST:=aj hst;have HZ:=aj hz;clear hst hz
    go_wp2_with (go_at_call 161;refine(hC _).mono ?_;rintro e w' ⟨rfl,rfl⟩)
    go_ret
    exact⟨iH (RO.out.trans HST.out).symm,rfl⟩
   have HE:nz (kx xs ys=1):=RO.out.trans (TL xs ys k kq (by rw[LA.out];omega));generalize xs[k]=x at *
   go_wp2_with (go_at_call 161;refine(xL _ _ _).mono ?_;rintro e w' ⟨rfl,rfl⟩)
   go_ret
   exact⟨iH HE.out.symm,rfl⟩
  obtain rfl:k=L1:=oM;have hend:=Gt xs ys k (by rw[HL1.out];exact aJ _) (by rw[LA.out];exact hk2);rw[LA.out] at hend
  by_cases h0:k<L2
  .rw[if_pos h0] at hend;have HE:nz (kx xs ys = -1):=RO.out.trans hend;clear hend
   go_wp2_with (go_at_call 161;refine(xL _ _ _).mono ?_;rintro e w' ⟨rfl,rfl⟩)
   go_ret
   exact⟨iH HE.out.symm,rfl⟩
  rw[if_neg h0] at hend;have HE:nz (kx xs ys=0):=RO.out.trans hend;clear hend
  go_wp2_with (go_at_call 161;refine(xL _ _ _).mono ?_;rintro e w' ⟨rfl,rfl⟩)
  go_ret
  exact⟨iH HE.out.symm,rfl⟩
def sQ(xs ys:List Int)(v1 v2:ai)(w:ak)(h1:Reads w v1 xs.length (xs.map (ax af)))(h2:Reads w v2 ys.length (ys.map (ax af))) :
  bm aq 98 #[v1,v2] w fun e w'=>e=aU (ah af (kx xs ys))/\w=w':=by
 rcases h1 with⟨rfl,hn,_⟩|⟨g1,o1,c1,rfl,vG,_,hc1⟩
 .obtain rfl:=a_ hn;rcases h2 with⟨rfl,hn,_⟩|⟨g2,o2,c2,rfl,zO,_,hc2⟩
  .obtain rfl:=a_ hn;exact P9 w
  exact P8 w ys g2 o2 _ c2 rfl zO.1 hc2
 rcases h2 with⟨rfl,hn,_⟩|⟨g2,o2,c2,rfl,zO,_,hc2⟩
 .obtain rfl:=a_ hn;exact P7 w xs g1 o1 _ c1 rfl vG.1 hc1
 exact P6 w xs g1 o1 _ c1 rfl vG.1 hc1 ys g2 o2 _ c2 rfl zO.1 hc2
def iu(p:Nat):List Int:=(upTo p 8).map fun(m:Nat)=>(m:Int)
def SY(p:Nat):(iu p).length=(upTo p 8).length:=by simp[iu]
def uh(p:Nat)(hp:p<512)(w:ak):bm aq 99 #[ah af p] w fun e w'=>∃v,e=aU v/\Reads w' v (iu p).length ((iu p).map (ax af))/\Bw w w':=by
 refine(MH p hp w).mono ?_;rintro e w' ⟨v,rfl,hown,hb⟩;have hle:=xw p 8;refine⟨v,rfl,?_,hb⟩;have:=Reads.gG hown oM sM;rw[SY];simpa [iu,Function.comp_def] using this
def uj(a b:Nat):Bool:=decide ((upTo a 8).length<(upTo b 8).length)||(decide ((upTo a 8).length=(upTo b 8).length)&&decide (kx (iu a) (iu b)<0))
def ui(a b:Nat):Bool:=decide ((upTo a 8).length<(upTo b 8).length)||(decide ((upTo a 8).length=(upTo b 8).length)&&decide (0<kx (iu a) (iu b)))
def S2(a b:Nat)(ha:a<512)(hb:b<512)(w:ak):bm aq 96 #[ah af a,ah af b] w (Rt w (aH (uj a b))):=by
 have hA:=uz a ha;have hB:=uz b hb;have lA:=uh a ha;have lB:=uh b hb;have ajb:=xw a 8;have aja:=xw b 8;have hL:uj a b=(decide ((upTo a 8).length<(upTo b 8).length)||(decide ((upTo a 8).length=(upTo b 8).length)&&decide (kx (iu a) (iu b)<0))):=rfl;have AH:=EM (iu a) (iu b);generalize (upTo a 8).length=na at *;generalize (upTo b 8).length=nb at *;obtain⟨c,hc⟩:∃c,kx (iu a) (iu b)=c:=⟨_,rfl⟩
 rw[hc] at hL AH;have hC:=sQ (iu a) (iu b);rw[hc] at hC;generalize uj a b=r at *;have HL:=aj hL;clear hL hc
 have K:∀w,bm aq 96 #[ah af a,ah af b] w (Rt w (aH (decide (na<nb)||(decide (na=nb)&&decide (c<0))))):=by
  clear HL;intro w
  by_cases h1:na<nb
  .have e1:decide (na<nb)=true:=sO;have er:(decide (na<nb)||(decide (na=nb)&&decide (c<0)))=true:=by rw[decide_eq_true h1];rfl
   rw[er];have H1:=aj h1;clear h1 er
   go_enter Tryz.func96,Tryz.ntmps96
   go_wp2_with fail
   refine(hA _).mono ?_;rintro e w1 ⟨rfl,hb1⟩
   go_wp2_with fail
   refine(hB _).mono ?_;rintro e w2 ⟨rfl,hb2⟩;go_wp2
   go_ret
   exact⟨rfl,hb1.trans (hb2.mono hb1.size)⟩
  have e1:decide (na<nb)=false:=sO
  by_cases h2:na=nb
  .subst h2;have er:(decide (na<na)||(decide (na=na)&&decide (c<0)))=decide (c<0):=sM;rw[er];clear h1 er e1;have e1:decide (na<na)=false:=sM;have e9:(na==na)=true:=sM
   go_enter Tryz.func96,Tryz.ntmps96
   go_wp2_with fail
   refine(hA _).mono ?_;rintro e w1 ⟨rfl,hb1⟩
   go_wp2_with fail
   refine(hB _).mono ?_;rintro e w2 ⟨rfl,hb2⟩
   go_wp2_with fail
   refine(hA _).mono ?_;rintro e w3 ⟨rfl,hb3⟩
   go_wp2_with fail
   refine(hB _).mono ?_;rintro e w4 ⟨rfl,hb4⟩
   go_wp2_with fail
   refine(lA _).mono ?_;rintro e w5 ⟨v5,rfl,hr5,hb5⟩
   go_wp2_with fail
   refine(lB _).mono ?_;rintro e w6 ⟨v6,rfl,hr6,hb6⟩;have VH:=hr5.below hb6
   go_wp2_with fail
   refine(hC v5 v6 _ VH hr6).mono ?_;rintro e w7 ⟨rfl,rfl⟩;clear hr5 VH hr6;go_wp2
   go_ret
   exact⟨rfl,hb1.trans ((hb2.trans ((hb3.trans ((hb4.trans ((hb5.trans (hb6.mono hb5.size)).mono hb4.size)).mono hb3.size)).mono hb2.size)).mono hb1.size)⟩
  have e2:decide ((na:Int)=(nb:Int))=false:=sO;have e3:((na:Int)==(nb:Int))=false:=sO;have e4:(na==nb)=false:=sO;have er:(decide (na<nb)||(decide (na=nb)&&decide (c<0)))=false:=by rw[decide_eq_false h1,decide_eq_false h2];rfl
  rw[er];have H1:=aj h1;have H2:=aj h2;clear h1 h2 er
  go_enter Tryz.func96,Tryz.ntmps96
  go_wp2_with fail
  refine(hA _).mono ?_;rintro e w1 ⟨rfl,hb1⟩
  go_wp2_with fail
  refine(hB _).mono ?_;rintro e w2 ⟨rfl,hb2⟩
  go_wp2_with fail
  refine(hA _).mono ?_;rintro e w3 ⟨rfl,hb3⟩
  go_wp2_with fail
  refine(hB _).mono ?_;rintro e w4 ⟨rfl,hb4⟩;go_wp2
  go_ret
  exact⟨rfl,hb1.trans ((hb2.trans ((hb3.trans (hb4.mono hb3.size)).mono hb2.size)).mono hb1.size)⟩
 rw[HL.out];exact K w
def S1(a b:Nat)(ha:a<512)(hb:b<512)(w:ak):bm aq 102 #[ah af a,ah af b] w (Rt w (aH (ui a b))):=by
 have hA:=uz a ha;have hB:=uz b hb;have lA:=uh a ha;have lB:=uh b hb;have ajb:=xw a 8;have aja:=xw b 8;have hL:ui a b=(decide ((upTo a 8).length<(upTo b 8).length)||(decide ((upTo a 8).length=(upTo b 8).length)&&decide (0<kx (iu a) (iu b)))):=rfl;have AH:=EM (iu a) (iu b);generalize (upTo a 8).length=na at *;generalize (upTo b 8).length=nb at *;obtain⟨c,hc⟩:∃c,kx (iu a) (iu b)=c:=⟨_,rfl⟩
 rw[hc] at hL AH;have hC:=sQ (iu a) (iu b);rw[hc] at hC;generalize ui a b=r at *;have HL:=aj hL;clear hL hc
 have K:∀w,bm aq 102 #[ah af a,ah af b] w (Rt w (aH (decide (na<nb)||(decide (na=nb)&&decide (0<c))))):=by
  clear HL;intro w
  by_cases h1:na<nb
  .have e1:decide (na<nb)=true:=sO;have er:(decide (na<nb)||(decide (na=nb)&&decide (0<c)))=true:=by rw[decide_eq_true h1];rfl
   rw[er];have H1:=aj h1;clear h1 er
   go_enter Tryz.func102,Tryz.ntmps102
   go_wp2_with fail
   refine(hA _).mono ?_;rintro e w1 ⟨rfl,hb1⟩
   go_wp2_with fail
   refine(hB _).mono ?_;rintro e w2 ⟨rfl,hb2⟩;go_wp2
   go_ret
   exact⟨rfl,hb1.trans (hb2.mono hb1.size)⟩
  have e1:decide (na<nb)=false:=sO
  by_cases h2:na=nb
  .subst h2;have er:(decide (na<na)||(decide (na=na)&&decide (0<c)))=decide (0<c):=sM;rw[er];clear h1 er e1;have e1:decide (na<na)=false:=sM;have e9:(na==na)=true:=sM
   go_enter Tryz.func102,Tryz.ntmps102
   go_wp2_with fail
   refine(hA _).mono ?_;rintro e w1 ⟨rfl,hb1⟩
   go_wp2_with fail
   refine(hB _).mono ?_;rintro e w2 ⟨rfl,hb2⟩
   go_wp2_with fail
   refine(hA _).mono ?_;rintro e w3 ⟨rfl,hb3⟩
   go_wp2_with fail
   refine(hB _).mono ?_;rintro e w4 ⟨rfl,hb4⟩
   go_wp2_with fail
   refine(lA _).mono ?_;rintro e w5 ⟨v5,rfl,hr5,hb5⟩
   go_wp2_with fail
   refine(lB _).mono ?_;rintro e w6 ⟨v6,rfl,hr6,hb6⟩;have VH:=hr5.below hb6
   go_wp2_with fail
   refine(hC v5 v6 _ VH hr6).mono ?_;rintro e w7 ⟨rfl,rfl⟩;clear hr5 VH hr6;go_wp2
   go_ret
   exact⟨rfl,hb1.trans ((hb2.trans ((hb3.trans ((hb4.trans ((hb5.trans (hb6.mono hb5.size)).mono hb4.size)).mono hb3.size)).mono hb2.size)).mono hb1.size)⟩
  have e2:decide ((na:Int)=(nb:Int))=false:=sO;have e3:((na:Int)==(nb:Int))=false:=sO;have e4:(na==nb)=false:=sO;have er:(decide (na<nb)||(decide (na=nb)&&decide (0<c)))=false:=by rw[decide_eq_false h1,decide_eq_false h2];rfl
  rw[er];have H1:=aj h1;have H2:=aj h2;clear h1 h2 er
  go_enter Tryz.func102,Tryz.ntmps102
  go_wp2_with fail
  refine(hA _).mono ?_;rintro e w1 ⟨rfl,hb1⟩
  go_wp2_with fail
  refine(hB _).mono ?_;rintro e w2 ⟨rfl,hb2⟩
  go_wp2_with fail
  refine(hA _).mono ?_;rintro e w3 ⟨rfl,hb3⟩
  go_wp2_with fail
  refine(hB _).mono ?_;rintro e w4 ⟨rfl,hb4⟩;go_wp2
  go_ret
  exact⟨rfl,hb1.trans ((hb2.trans ((hb3.trans (hb4.mono hb3.size)).mono hb2.size)).mono hb1.size)⟩
 rw[HL.out];exact K w
def jX(lt:Nat->Nat->Bool)(first:Nat)(more:List Nat):Nat:=more.foldl (fun b x=>if lt x b then x else b) first
def GN(lt:Nat->Nat->Bool)(first:Nat)(more:List Nat)(k:Nat)(hk:k<more.length):jX lt first (more.take (k+1))=if lt more[k] (jX lt first (more.take k)) then more[k] else jX lt first (more.take k):=by
 unfold jX;rw[bH hk,ot];rfl
def Bh(lt:Nat->Nat->Bool):∀(more:List Nat) (first:Nat),first<512->(∀x∈more,x<512)->jX lt first more<512
 |[],first,h,_=>h
 |x::more,first,h,hx=>by
  refine Bh lt more _ ?_ (fun y hy=>hx y (by simp[hy]));show(if lt x first=true then x else first)<512
  by_cases hl:lt x first=true
  .rw[if_pos hl];exact hx x sM
  rw[if_neg hl];exact h
def TU(first:Nat)(hf:first<512)(more:List Nat)(hm:∀x∈more,x<512)(v:ai)(w:ak)(hv:Reads w v more.length (more.map fun(p:Nat)=>ax af (p:Int))) :
  bm aq 160 #[.func (.func 96) #[] #[],ah af first,v] w (Rt w (ah af (jX uj first more:Nat))):=by
 rcases hv with⟨rfl,hn,_⟩|⟨g,off,cap,rfl,hn,hg,hc⟩
 .obtain rfl:=a_ hn;clear hn
  go_enter Tryz.func160,Tryz.ntmps160
  go_wp2
  go_loopw [1,11] (fun b i wr=>i=ah af 0/\b=ah af first/\Bw w wr) (fun _ _ _=>0)
  case atStart=>exact⟨rfl,rfl,ay _ _⟩
  case round=>
   obtain⟨rfl,rfl,eE⟩:=hrel;go_wp2
   go_ret
   exact⟨rfl,eE⟩
 have HC:=aj hc;have HM:=aj hm;clear hc hm;generalize hL:more.length=L at *;have HL:=aj hL;clear hL
 go_enter Tryz.func160,Tryz.ntmps160
 go_wp2
 go_loopw [1,8,11] (fun b _ i wr=>∃k:Nat,k<=L/\i=ah af k/\b=ah af (jX uj first (more.take k):Nat)/\Bw w wr) (fun _ _ i _=>L-(intOf i).toNat)
 case atStart=>exact⟨0,oM,rfl,rfl,ay _ _⟩
 case round=>
  obtain⟨k,hk,rfl,rfl,eE⟩:=hrel;have hbl:=Bh uj (more.take k) first hf (fun x hx=>HM.out x (fV hx))
  by_cases hlt:k<L
  .have kq:k<more.length:=by rw[HL.out];exact hlt
   have hcell:wr.cell? ⟨g,off+k,none⟩=some (ah af (more[k]:Nat)):=(eE.cell (p:=⟨g,off+k,none⟩) hg).trans (HC.out k _ (by simp[kq]));have hx:=HM.out more[k] (bS kq);have hst:=GN uj first more k kq
   generalize more[k]=x at *;generalize jX uj first (more.take k)=bst at *
   have hB:=S2 x bst hx hbl;have hsz:=eE.size;cases hr:uj x bst
   all_goals
    rw[hr] at hst hB;have HR:=aj hr;have HST:=aj hst;clear hr hst
    go_wp2_with (go_at_call 96;refine(hB _).mono ?_;rintro e w2 ⟨rfl,hb2⟩)
    go_roundw
    case rel=>exact⟨k+1,oM,by go_num,by rw[HST.out];rfl,eE.trans (hb2.mono hsz)⟩
    case measure=>simp[intOf];omega
  obtain rfl:k=L:=oM;have uX:more.take k=more:=cQ (by rw[HL.out];exact aJ _);rw[uX];clear uX;go_wp2
  go_ret
  exact⟨rfl,eE⟩
def TT(first:Nat)(hf:first<512)(more:List Nat)(hm:∀x∈more,x<512)(v:ai)(w:ak)(hv:Reads w v more.length (more.map fun(p:Nat)=>ax af (p:Int))) :
  bm aq 160 #[.func (.func 102) #[] #[],ah af first,v] w (Rt w (ah af (jX ui first more:Nat))):=by
 rcases hv with⟨rfl,hn,_⟩|⟨g,off,cap,rfl,hn,hg,hc⟩
 .obtain rfl:=a_ hn;clear hn
  go_enter Tryz.func160,Tryz.ntmps160
  go_wp2
  go_loopw [1,11] (fun b i wr=>i=ah af 0/\b=ah af first/\Bw w wr) (fun _ _ _=>0)
  case atStart=>exact⟨rfl,rfl,ay _ _⟩
  case round=>
   obtain⟨rfl,rfl,eE⟩:=hrel;go_wp2
   go_ret
   exact⟨rfl,eE⟩
 have HC:=aj hc;have HM:=aj hm;clear hc hm;generalize hL:more.length=L at *;have HL:=aj hL;clear hL
 go_enter Tryz.func160,Tryz.ntmps160
 go_wp2
 go_loopw [1,8,11] (fun b _ i wr=>∃k:Nat,k<=L/\i=ah af k/\b=ah af (jX ui first (more.take k):Nat)/\Bw w wr) (fun _ _ i _=>L-(intOf i).toNat)
 case atStart=>exact⟨0,oM,rfl,rfl,ay _ _⟩
 case round=>
  obtain⟨k,hk,rfl,rfl,eE⟩:=hrel;have hbl:=Bh ui (more.take k) first hf (fun x hx=>HM.out x (fV hx))
  by_cases hlt:k<L
  .have kq:k<more.length:=by rw[HL.out];exact hlt
   have hcell:wr.cell? ⟨g,off+k,none⟩=some (ah af (more[k]:Nat)):=(eE.cell (p:=⟨g,off+k,none⟩) hg).trans (HC.out k _ (by simp[kq]));have hx:=HM.out more[k] (bS kq);have hst:=GN ui first more k kq
   generalize more[k]=x at *;generalize jX ui first (more.take k)=bst at *
   have hB:=S1 x bst hx hbl;have hsz:=eE.size;cases hr:ui x bst
   all_goals
    rw[hr] at hst hB;have HR:=aj hr;have HST:=aj hst;clear hr hst
    go_wp2_with (go_at_call 102;refine(hB _).mono ?_;rintro e w2 ⟨rfl,hb2⟩)
    go_roundw
    case rel=>exact⟨k+1,oM,by go_num,by rw[HST.out];rfl,eE.trans (hb2.mono hsz)⟩
    case measure=>simp[intOf];omega
  obtain rfl:k=L:=oM;have uX:more.take k=more:=cQ (by rw[HL.out];exact aJ _);rw[uX];clear uX;go_wp2
  go_ret
  exact⟨rfl,eE⟩
def YF(b:BB)(bn aL az:ai)(ml:List Mn)(ss:List Int)(ms:List Mk)(w:ak)(hL:Laid w)(hB:dh b bn aL az ml ss ms w)(hne:bu b ml ss ms≠[])(cp:Nat)
  (hown:∀W,Bw w W->bm aq 126 #[aO (b.cells bn aL az),pv cp 0] W fun e W'=>e=aU (ah af 0)/\Bw W W') :
  bm aq 103 #[aO (b.cells bn aL az),.func (.func 126) #[] #[pv cp 0]] w fun e w'=>∃v,e=aU (cR #[aO (b.open bn aL az v),ah af 0])/\iE w' w.heap.size v (bu b ml ss ms)/\Bw w w':=by
 have uL:nz (∀W,Bw w W->bm aq 71 #[aO (b.cells bn aL az)] W fun e w'=>e=aU (ah af 0)/\Bw W w'):=aj fun W hb=>fh b bn aL az ml ss ms W (hL.below hb) (hB.below hb);have XG:nz (∀W,Bw w W->bm aq 116 #[.func (.func 117) #[aO (b.cells bn aL az)] #[]] W fun e w'=>∃v,e=aU v/\iE w' W.heap.size v (bu b ml ss ms)/\Bw W w'):=aj fun W hb=>pY b bn aL az ml ss ms W (hB.below hb);have Og:=aj hown;obtain⟨pm,cm,rfl,_⟩:=aR hB.rm;obtain⟨pn,cn,rfl,_⟩:=aR hB.rs;obtain⟨pk,ck,rfl,_⟩:=aR hB.rk;have kY:0<(bu b ml ss ms).length:=dB.2 hne;clear hL hB hne hown;generalize bu b ml ss ms=all at *;generalize ml.length=lm at *;generalize ss.length=ln at *;generalize ms.length=lk at *;have b0:Bw w ((w.alloc (ar (b.sl pm lm cm pn ln cn pk lk ck) 28)).alloc (ar iM 122)):=dF.alloc sM _;have HT:nz (Two w (b.sl pm lm cm pn ln cn pk lk ck) 28 iM 122 ((w.alloc (ar (b.sl pm lm cm pn ln cn pk lk ck) 28)).alloc (ar iM 122))):=aj ⟨(Two.mk' w _ _ _ _).one,(Two.mk' w _ _ _ _).two,b0,sM⟩;have LB:=aj b0;clear b0
 go_enter Tryz.func103,Tryz.ntmps103
 go_wp2_with (first
  |(refine mS rfl 122 _ rfl _ rfl 122 _ (0,0) _ HL7.out js rfl kQ ?_)
  |(refine fY rfl 122 _ _ rfl _ _ rfl rfl 122 _ Qu.out kQ rfl (by simp[bJ]) ?_)
  |(go_at_call 71;refine(uL.out _ LB.out).mono ?_;clear uL;rintro e w1 ⟨rfl,hb1⟩
    have tO:=HT.out.next hb1;have qf:=aj tO
    obtain⟨x0,x1,x2,x3,x4,x5,x6,x7,x8,x9,qY,qX,r8,rT,rW⟩:=bZ tO.one
    clear tO hb1)
  |(go_at_call 126;refine(Og.out _ (qf.out.below.alloc (by have:=qf.out.size;omega) _)).mono ?_;clear Og;rintro e w2 ⟨rfl,hb2⟩
    have Ea:=(qf.out.next ((ay _ _).alloc (aJ _) (ar (b.open (ae pm lm cm) (ae pn ln cn) (ae pk lk ck) (ae none 0 0)) 122))).next hb2;have Iw:=aj Ea
    have hk2:=(hb2.block w1.heap.size sM).trans (aw w1 _);have Iz:=aj hk2;have hs1:=qf.out.size;have hs2:=hb2.size;obtain⟨y0,y1,y2,y3,y4,y5,y6,y7,y8,y9,Ow,Qz,Qy,Qx,LD,JL⟩:=jO hk2
    clear Ea hk2 hb2)
  |(go_at_call 116;refine(XG.out _ Iw.out.below).mono ?_;clear XG;rintro e w3 ⟨v,rfl,jA,hb3⟩
    have Hg:=Iw.out.next hb3;have RN:=aj Hg;have Oh:=aj jA
    simp only[eD] at hs2;have hk3:=(hb3.block w1.heap.size oM).trans Iz.out;have HK3:=aj hk3;have hs3:=hb3.size;clear y0 y1 y2 y3 y4 y5 y6 y7 y8 y9 Ow Qz Qy Qx LD JL;have JL:=aF hk3 15 _ rfl;have f7:=dm hk3 15;have qz:=aj hb3
    obtain⟨gv,pZ,rfl,FY⟩:∃gv pZ,v=ae (some ⟨gv,0,none⟩) all.length pZ/\w2.heap.size<=gv:=by
     rcases jA.1.2 with⟨_,h0⟩|⟨g,cap,cur,rfl,hg,_⟩
     .omega
     exact⟨g,cap,rfl,hg⟩
    have HL7:nz ((w3.setCell ⟨w1.heap.size,15,none⟩ (ae (some ⟨gv,0,none⟩) all.length pZ)).heap[w1.heap.size]?=some (ar (b.open (ae pm lm cm) (ae pn ln cn) (ae pk lk ck) (ae (some ⟨gv,0,none⟩) all.length pZ)) 122 (0,0))):=aj (dn _ hk3);have Qu:nz ((w3.setCell ⟨w1.heap.size,15,none⟩ (ae (some ⟨gv,0,none⟩) all.length pZ)).heap[w.heap.size+1]?=some (ar iM 122 (0,0))):=aj ((aW _ _ _ _ (by show w.heap.size+1≠w1.heap.size;omega)).trans Hg.two)
    clear Hg hk3 hb3 jA))
 refine bf (results_cell_tmp (g:=w.heap.size+1) rfl rfl (gY _ _ 122 122 _ (0,0) _ (cD Qu.out) js rfl kQ)) rfl ⟨_,rfl,?_,?_⟩
 .have hs1:=qf.out.size;refine(Oh.out.at_ fun g hg=>?_).base oM;have Cc:g=gv:=by simpa [jD] using hg.symm
  subst Cc;exact(setRow_other oM).trans (aW _ _ _ _ (by show g≠w1.heap.size;omega))
 have hs1:=qf.out.size;exact dx (RN.out.below.setCell (p:=⟨w1.heap.size,15,none⟩) (by show _<=w1.heap.size;omega) _) oM
def KB:(Tryz.prog.info? 81).map (fun i=>(i.zero,i.size,i.bytes))=some (some (aO #[ah af 0,ah af 0,ah af 0]),3,24):=kQ
def VA:(Tryz.prog.info? 79).map (fun i=>(i.zero,i.size,i.bytes))=some (some (aO #[.string ⟨#[]⟩,ah af 0,ah af 0]),3,32):=kQ
def Qa(v:ai)(n:Nat)(xs:List ai)(hl:xs.length=n*3)(h1:∀u∈xs,u.oneCell'=true)(hn:n<=1000)(w:ak)(hv:Reads w v n xs) :
  bm aq 149 #[v] w fun e w'=>∃v',e=aU v'/\w'.ownsRow w.heap.size 81 3 v' n xs/\Bw w w':=by
 obtain⟨i0,hi,hz0,hz1,hz2⟩:=gQ KB;rcases hv with⟨rfl,rfl,rfl⟩|⟨g,off,cap,rfl,H9,hg,hc⟩
 .have hq:∀w,(binOp BinOp.eql 26 (fU none 0 0) (fU none 0 0)).run aq w=.ok (aH true) w:=fun w=>by kernel_rfl
  go_enter Tryz.func149,Tryz.ntmps149
  go_wp2
  go_ret
  exact⟨_,rfl,dw _ _ _ _,ay _ _⟩
 have RP:nz (∀j u,xs[j]?=some u->(w.alloc (ar #[] 81)).cell? ((⟨g,off,none⟩:dc).add j)=some u):=aj fun j u hj=>by
  have e:(⟨g,off,none⟩:dc).add j=⟨g,off+j,none⟩:=by cases j<;>simp[jh]
  rw[e];exact(eI _ _ _ hg).trans (hc j u hj)
 have HO:=aj h1;have HL:=aj hl;clear hc h1 hl;have hq:∀w,(binOp BinOp.eql 26 (fU (some ⟨g,off,none⟩) n cap) (fU none 0 0)).run aq w=.ok (aH false) w:=fun w=>by kernel_rfl
 go_enter Tryz.func149,Tryz.ntmps149
 go_wp2_with (at_builtin;refine iY _ rfl _ _ 26 rfl w.heap.size 81 i0 (aO #[ah af 0,ah af 0,ah af 0]) 3 24 CL hi hz0 hz1 hz2 rfl dC _ _ _ rfl (World.ownsRow_made w #[] 0 (aJ _) (by unfold gP;omega) rfl) ⟨g,off,none⟩ n cap xs rfl HL.out RP.out HO.out (by unfold gP;omega) oM sM ?_;intro v' w1 hown hgrow hnil)
 go_ret
 refine⟨_,rfl,by simpa using hown,?_⟩;exact((ay _ _).alloc (aJ _) (ar #[] 81)).grown hgrow sM fun j hj=>by have h2:w.heap.size=j:=aT hj;omega
def Xc(v:ai)(n:Nat)(xs:List ai)(hl:xs.length=n*3)(h1:∀u∈xs,u.oneCell'=true)(hn:n<=1000)(w:ak)(hv:Reads w v n xs) :
  bm aq 154 #[v] w fun e w'=>∃v',e=aU v'/\w'.ownsRow w.heap.size 79 3 v' n xs/\Bw w w':=by
 obtain⟨i0,hi,hz0,hz1,hz2⟩:=gQ VA;rcases hv with⟨rfl,rfl,rfl⟩|⟨g,off,cap,rfl,H9,hg,hc⟩
 .have hq:∀w,(binOp BinOp.eql 24 (fU none 0 0) (fU none 0 0)).run aq w=.ok (aH true) w:=fun w=>by kernel_rfl
  go_enter Tryz.func154,Tryz.ntmps154
  go_wp2
  go_ret
  exact⟨_,rfl,dw _ _ _ _,ay _ _⟩
 have RP:nz (∀j u,xs[j]?=some u->(w.alloc (ar #[] 79)).cell? ((⟨g,off,none⟩:dc).add j)=some u):=aj fun j u hj=>by
  have e:(⟨g,off,none⟩:dc).add j=⟨g,off+j,none⟩:=by cases j<;>simp[jh]
  rw[e];exact(eI _ _ _ hg).trans (hc j u hj)
 have HO:=aj h1;have HL:=aj hl;clear hc h1 hl;have hq:∀w,(binOp BinOp.eql 24 (fU (some ⟨g,off,none⟩) n cap) (fU none 0 0)).run aq w=.ok (aH false) w:=fun w=>by kernel_rfl
 go_enter Tryz.func154,Tryz.ntmps154
 go_wp2_with (at_builtin;refine iY _ rfl _ _ 24 rfl w.heap.size 79 i0 (aO #[.string ⟨#[]⟩,ah af 0,ah af 0]) 3 32 Tryz.underlying24 hi hz0 hz1 hz2 rfl dC _ _ _ rfl (World.ownsRow_made w #[] 0 (aJ _) (by unfold gP;omega) rfl) ⟨g,off,none⟩ n cap xs rfl HL.out RP.out HO.out (by unfold gP;omega) oM sM ?_;intro v' w1 hown hgrow hnil)
 go_ret
 refine⟨_,rfl,by simpa using hown,?_⟩;exact((ay _ _).alloc (aJ _) (ar #[] 79)).grown hgrow sM fun j hj=>by have h2:w.heap.size=j:=aT hj;omega
def TN(v:ai)(n:Nat)(xs:List ai)(hl:xs.length=n*1)(h1:∀u∈xs,u.oneCell'=true)(hn:n<=1000)(w:ak)(hv:Reads w v n xs) :
  bm aq 156 #[v] w fun e w'=>∃v',e=aU v'/\w'.ownsRow w.heap.size 3 1 v' n xs/\Bw w w':=by
 obtain⟨i0,hi,hz0,hz1,hz2⟩:=gQ info3;rcases hv with⟨rfl,rfl,rfl⟩|⟨g,off,cap,rfl,H9,hg,hc⟩
 .have hq:∀w,(binOp BinOp.eql 25 (fU none 0 0) (fU none 0 0)).run aq w=.ok (aH true) w:=fun w=>by kernel_rfl
  go_enter Tryz.func156,Tryz.ntmps156
  go_wp2
  go_ret
  exact⟨_,rfl,dw _ _ _ _,ay _ _⟩
 have RP:nz (∀j u,xs[j]?=some u->(w.alloc (ar #[] 3)).cell? ((⟨g,off,none⟩:dc).add j)=some u):=aj fun j u hj=>by
  have e:(⟨g,off,none⟩:dc).add j=⟨g,off+j,none⟩:=by cases j<;>simp[jh]
  rw[e];exact(eI _ _ _ hg).trans (hc j u hj)
 have HO:=aj h1;have HL:=aj hl;clear hc h1 hl;have hq:∀w,(binOp BinOp.eql 25 (fU (some ⟨g,off,none⟩) n cap) (fU none 0 0)).run aq w=.ok (aH false) w:=fun w=>by kernel_rfl
 go_enter Tryz.func156,Tryz.ntmps156
 go_wp2_with (at_builtin;refine iY _ rfl _ _ 25 rfl w.heap.size 3 i0 (ah af 0) 1 8 dt hi hz0 hz1 hz2 rfl dC _ _ _ rfl (World.ownsRow_made w #[] 0 (aJ _) (by unfold gP;omega) rfl) ⟨g,off,none⟩ n cap xs rfl HL.out RP.out HO.out (by unfold gP;omega) oM sM ?_;intro v' w1 hown hgrow hnil)
 go_ret
 refine⟨_,rfl,by simpa using hown,?_⟩;exact((ay _ _).alloc (aJ _) (ar #[] 3)).grown hgrow sM fun j hj=>by have h2:w.heap.size=j:=aT hj;omega
def SM(l:List Mn):∀u∈dX l,u.oneCell'=true:=by
 intro u hu;simp only[dX,List.mem_flatMap] at hu;obtain⟨m,_,hu⟩:=hu;simp at hu;rcases hu with rfl|rfl|rfl<;>rfl
def Ja(l:List Mk):∀u∈ep l,u.oneCell'=true:=by
 intro u hu;simp only[ep,List.mem_flatMap] at hu;obtain⟨m,_,hu⟩:=hu;simp at hu;rcases hu with rfl|rfl|rfl<;>rfl
def Ak(l:List Int):∀u∈l.map (ax af),u.oneCell'=true:=by
 intro u hu;simp at hu;obtain⟨x,_,rfl⟩:=hu;rfl
def bP{W:ak}{base:Nat}{e:aV}{size:Nat}{v:ai}{n:Nat}{xs:List ai}(h:W.ownsRow base e size v n xs):∃p c,v=ae p n c:=by
 rcases h.2 with⟨rfl,rfl⟩|⟨g,cap,cur,rfl,_⟩
 .exact⟨_,_,rfl⟩
 exact⟨_,_,rfl⟩
structure tN(n:Nat)(a b c:ai):Prop where
 one:∀g,a.ownBlock=some g->n<=g
 two:∀g,b.ownBlock=some g->n<=g
 three:∀g,c.ownBlock=some g->n<=g
def tN.base{n m:Nat}{a b c:ai}(h:tN n a b c)(hm:m<=n):tN m a b c:=⟨fun g hg=>aG hm (h.one g hg),fun g hg=>aG hm (h.two g hg),fun g hg=>aG hm (h.three g hg)⟩
def Reads.at_{w w':ak}{v:ai}{n:Nat}{xs:List ai}(h:Reads w v n xs)(hs:w.heap.size<=w'.heap.size)(hk:∀g,v.ownBlock=some g->w'.heap[g]?=w.heap[g]?):Reads w' v n xs:=by
 rcases h with h|⟨g,off,cap,h1,h2,h3,h4⟩
 .exact bV h
 exact .inr ⟨g,off,cap,h1,h2,bA h3 hs,fun j u hj=>(World.cell?_of_block (a:=⟨g,off+j,none⟩) (hk g (by rw[h1];rfl))).trans (h4 j u hj)⟩
def dh.setRow{b:BB}{m s k:ai}{ml:List Mn}{ss:List Int}{ms:List Mk}{w:ak}{n B:Nat}{cs:Array ai}(h:dh b m s k ml ss ms w)(hf:tN n m s k)(hB:B<n):dh b m s k ml ss ms (w.setRow B cs):=
 ⟨h.ok,h.iF,h.ng,h.lK,h.rm.at_ (by rw[setRow_size];exact aJ _) fun g hg=>setRow_other (by have:=hf.one g hg;omega),h.rs.at_ (by rw[setRow_size];exact aJ _) fun g hg=>setRow_other (by have:=hf.two g hg;omega),h.rk.at_ (by rw[setRow_size];exact aJ _) fun g hg=>setRow_other (by have:=hf.three g hg;omega)⟩
def Typed(w:ak)(v:ai)(t:aV):Prop:=∀g,v.ownBlock=some g->∃cs,w.heap[g]?=some (ar cs t (0,0))
structure fX(b:BB)(m s k:ai)(ml:List Mn)(ss:List Int)(ms:List Mk)(w:ak):Prop extends dh b m s k ml ss ms w where
 t1:Typed w m 79
 t2:Typed w s 3
 t3:Typed w k 81
def Typed.setRow{w:ak}{v:ai}{t:aV}(h:Typed w v t){B:Nat}{cs:Array ai}(hB:∀g,v.ownBlock=some g->g≠B):Typed (w.setRow B cs) v t:=fun g hg=>by
 obtain⟨c,hc⟩:=h g hg;exact⟨c,(setRow_other (hB g hg)).trans hc⟩
def fX.setRow{b:BB}{m s k:ai}{ml:List Mn}{ss:List Int}{ms:List Mk}{w:ak}{n B:Nat}{cs:Array ai}(h:fX b m s k ml ss ms w)(hf:tN n m s k)(hB:B<n):fX b m s k ml ss ms (w.setRow B cs):=
 ⟨h.todh.setRow hf hB,h.t1.setRow fun g hg=>by have:=hf.one g hg;omega,h.t2.setRow fun g hg=>by have:=hf.two g hg;omega,h.t3.setRow fun g hg=>by have:=hf.three g hg;omega⟩
def td{w:ak}{base:Nat}{e:aV}{size:Nat}{v:ai}{n:Nat}{xs:List ai}(h:w.ownsRow base e size v n xs):Typed w v e:=fun g hg=>by
 rcases h.2 with⟨rfl,_⟩|⟨g',c,cur,rfl,_,h1,_⟩
 .cases hg
 obtain rfl:g'=g:=aT hg;exact⟨cur,h1⟩
def a8{w1 w2:ak}{base:Nat}{e:aV}{size:Nat}{v:ai}{n:Nat}{xs:List ai}(h:w1.ownsRow base e size v n xs)(hb:Bw w1 w2):w2.ownsRow base e size v n xs:=dY h fun g hg=>hb.block g (h.lt g hg).2
def di{w1:ak}{base:Nat}{e t:aV}{size B i:Nat}{v u:ai}{n:Nat}{xs:List ai}{cs:Array ai}(h:w1.ownsRow base e size v n xs)(hB:w1.heap[B]?=some (ar cs t (0,0)))(ht:t≠e):(w1.setCell ⟨B,i,none⟩ u).ownsRow base e size v n xs:=by
 refine dY h fun g hg=>aW _ _ _ _ ?_;show g≠B;rintro rfl;rcases h.2 with⟨rfl,_⟩|⟨g',cap,cur,rfl,_,h1,_⟩
 .cases hg
 have h3:g'=g:=aT hg;subst h3;rw[hB] at h1;cases h1;exact ht rfl
def Iu(w:ak)(b:BB)(bn aL az:ai)(Z:Array ai)(A B C:Bool)(w9:ak):Prop:=
 ∃m s k,w9.heap[w.heap.size]?=some (ar (b.cells m s k) 28 (0,0))/\(A=false->m=bn)/\(B=false->s=aL)/\(C=false->k=az)/\w9.heap[w.heap.size+1]?=some (ar Z 28 (0,0))/\Bw w w9/\w.heap.size+2<=w9.heap.size
def Iu.below{w:ak}{b:BB}{bn aL az:ai}{Z:Array ai}{A B C:Bool}{w9:ak}(h:Iu w b bn aL az Z A B C w9):Bw w w9:=by obtain⟨_,_,_,_,_,_,_,_,h,_⟩:=h;exact h
def Iu.zero{w:ak}{b:BB}{bn aL az:ai}{Z:Array ai}{A B C:Bool}{w9:ak}(h:Iu w b bn aL az Z A B C w9):w9.heap[w.heap.size+1]?=some (ar Z 28 (0,0)):=by obtain⟨_,_,_,_,_,_,_,h,_,_⟩:=h;exact h
def Iu.size{w:ak}{b:BB}{bn aL az:ai}{Z:Array ai}{A B C:Bool}{w9:ak}(h:Iu w b bn aL az Z A B C w9):w.heap.size+2<=w9.heap.size:=by obtain⟨_,_,_,_,_,_,_,_,_,h⟩:=h;exact h
def Iu.next{w:ak}{b:BB}{bn aL az:ai}{Z:Array ai}{A B C A' B' C':Bool}{w1 w2:ak}(hA:A'=false->A=false)(hB:B'=false->B=false)(hC:C'=false->C=false)(h:Iu w b bn aL az Z A B C w1)(hb:Bw w1 w2):Iu w b bn aL az Z A' B' C' w2:=by
 obtain⟨m,s,k,h1,h2,h3,h4,h5,h6,h7⟩:=h;exact⟨m,s,k,(hb.block _ oM).trans h1,fun h=>h2 (hA h),fun h=>h3 (hB h),fun h=>h4 (hC h),(hb.block _ oM).trans h5,h6.trans (hb.mono oM),aG h7 hb.size⟩
def YD(b:BB)(bn aL az:ai)(ml:List Mn)(ss:List Int)(ms:List Mk)(w:ak)(hB:dh b bn aL az ml ss ms w) :
  bm aq 157 #[aO (b.cells bn aL az)] w fun e w'=>∃m' s' k',e=aU (aO (b.cells m' s' k'))/\fX b m' s' k' ml ss ms w'/\tN w.heap.size m' s' k'/\Bw w w':=by
 have M3:=hB.iF.len;have hk3:=hB.lK.len;have hs3:ss.length<=3:=by have:=hB.ng.len;have:=hB.ok.ey;omega
 obtain⟨pm,cm,rfl,_⟩:=aR hB.rm;obtain⟨pn,cn,rfl,_⟩:=aR hB.rs;obtain⟨pk,ck,rfl,_⟩:=aR hB.rk;have ht:=Two.mk' w (b.sl pm ml.length cm pn ss.length cn pk ms.length ck) 28 zP 28
 go_enter Tryz.func157,Tryz.ntmps157
 go_wp2
 refine Ph.cy kQ [
 pV (pv w.heap.size 12),
  pV (ae pm ml.length cm),
  fun v ds w9=>w9.ownsRow (w.heap.size+2) 79 3 v ml.length (dX ml),
  pV (pv w.heap.size 13),
  pV (ae pn ss.length cn),
  fun v ds w9=>w9.ownsRow (w.heap.size+2) 3 1 v ss.length (ss.map (ax af)),
  pV (pv w.heap.size 14),
  pV (ae pk ms.length ck),
  fun v ds w9=>w9.ownsRow (w.heap.size+2) 81 3 v ms.length (ep ms),
  pV (pv w.heap.size 12),
  fun v ds w9=>∃x s m,ds[1]?=some x/\w9.heap[w.heap.size]?=some (ar (b.cells x s m) 28 (0,0)),
  pV (pv w.heap.size 13),
  fun v ds w9=>∃x y m,ds[5]?=some x/\ds[1]?=some y/\w9.heap[w.heap.size]?=some (ar (b.cells x y m) 28 (0,0)),
  pV (pv w.heap.size 14),
  fun v ds w9=>∃x y z,ds[5]?=some x/\ds[8]?=some y/\ds[1]?=some z/\w9.heap[w.heap.size]?=some (ar (b.cells x y z) 28 (0,0))]
  (fun L w9=>Iu w b (ae pm ml.length cm) (ae pn ss.length cn) (ae pk ms.length ck) zP (L 10) (L 12) (L 14) w9) [(1,pv w.heap.size 0)] kQ ?rst (fun L L2 w1 w2 Uf h hb=>h.next (Uf 10) (Uf 12) (Uf 14) hb) (⟨_,_,_,ht.one,fun _=>rfl,fun _=>rfl,fun _=>rfl,ht.two,ht.below,ht.size⟩) ⟨rfl,trivial⟩ ?reach ?rfin
 case rst=>
  refine⟨Ph.sV,Ph.sV,?_,Ph.sV,Ph.sV,?_,Ph.sV,Ph.sV,?_,Ph.sV,?_,Ph.sV,?_,Ph.sV,?_,trivial⟩
  .rintro v ds L w1 w2 hS h hb;exact a8 h hb
  .rintro v ds L w1 w2 hS h hb;exact a8 h hb
  .rintro v ds L w1 w2 hS h hb;exact a8 h hb
  .rintro v ds L w1 w2 hS ⟨x,s,m,h1,h2⟩ hb;exact⟨x,s,m,h1,(hb.block _ (ag.1 h2).1).trans h2⟩
  .rintro v ds L w1 w2 hS ⟨x,s,m,h1,h2,h3⟩ hb;exact⟨x,s,m,h1,h2,(hb.block _ (ag.1 h3).1).trans h3⟩
  rintro v ds L w1 w2 hS ⟨x,s,m,h1,h2,h3,h4⟩ hb;exact⟨x,s,m,h1,h2,h3,(hb.block _ (ag.1 h4).1).trans h4⟩
 case reach=>
  refine⟨?_,?_,?_,?_,?_,?_,?_,?_,?_,?_,?_,?_,?_,?_,?_,trivial⟩<;>rintro Lf ev w1 hn nG hS hc hg hf ⟨b1,-⟩ hd
  .exact Ph.t9
  .have d0:ev (aD 3)=_:=hd.1 rfl;obtain⟨m0,s0,k0,hb0,q1,q2,q3,_⟩:=hS;obtain rfl:=q1 (hn 10 kQ);have x:=aF hb0 12 _ rfl;exact Ph.t9
  .have d1:ev (aD 4)=_:=hd.1 rfl;refine jV (f:=154) (args:=#[ae pm ml.length cm]) ?_ (Xc _ ml.length (dX ml) (by rw[t_];omega) (SM ml) oM w1 (hB.rm.below hS.below)) ?_
   .go_simp
   rintro e w2 ⟨v',rfl,ho,hb⟩;exact⟨_,rfl,ownsRow_base ho hS.size,bV hb⟩
  .exact Ph.t9
  .have d3:ev (aD 6)=_:=hd.1 rfl;obtain⟨m0,s0,k0,hb0,q1,q2,q3,_⟩:=hS;obtain rfl:=q2 (hn 12 kQ);have x:=aF hb0 13 _ rfl;exact Ph.t9
  .have d4:ev (aD 7)=_:=hd.1 rfl;refine jV (f:=156) (args:=#[ae pn ss.length cn]) ?_ (TN _ ss.length (ss.map (ax af)) sM (Ak ss) oM w1 (hB.rs.below hS.below)) ?_
   .go_simp
   rintro e w2 ⟨v',rfl,ho,hb⟩;exact⟨_,rfl,ownsRow_base ho hS.size,bV hb⟩
  .exact Ph.t9
  .have d6:ev (aD 9)=_:=hd.1 rfl;obtain⟨m0,s0,k0,hb0,q1,q2,q3,_⟩:=hS;obtain rfl:=q3 (hn 14 kQ);have x:=aF hb0 14 _ rfl;exact Ph.t9
  .have d7:ev (aD 10)=_:=hd.1 rfl;refine jV (f:=149) (args:=#[ae pk ms.length ck]) ?_ (Qa _ ms.length (ep ms) (by rw[qN];omega) (Ja ms) oM w1 (hB.rk.below hS.below)) ?_
   .go_simp
   rintro e w2 ⟨v',rfl,ho,hb⟩;exact⟨_,rfl,ownsRow_base ho hS.size,bV hb⟩
  .exact Ph.t9
  .have d9:ev (aD 12)=_:=hd.1 rfl;have d2:w1.ownsRow (w.heap.size+2) 79 3 (ev (aD 5)) ml.length (dX ml):=hd.2.1 rfl;obtain⟨p5,c5,e5⟩:=bP d2;have hb:=hS.below;have hz:=hS.zero;have hsz:=hS.size;obtain⟨m0,s0,k0,hb0,q1,q2,q3,_⟩:=hS;have c1:=aF hb0 12 _ rfl;have f1:=dm hb0 12;refine yva (w':=w1.setCell ⟨w.heap.size,12,none⟩ (ev (aD 5))) ?_ ⟨⟨_,s0,k0,rfl,dn _ hb0⟩,.inr ⟨⟨_,s0,k0,dn _ hb0,(by intro h;simp[Ph.upd] at h),q2,q3,(aW _ _ _ _ (by show _≠w.heap.size;omega)).trans hz,hb.setCell (p:=⟨w.heap.size,12,none⟩) (aJ _) _,by simpa using hsz⟩,?_⟩⟩
   .rw[e5];go_simp
   .intro j u ds hj hL hp
    match j,hp with
    |0,hp|1,hp=>exact hp
    |2,hp=>exact di hp hb0 dC
    |3,hp|4,hp=>exact hp
    |5,hp=>exact di hp hb0 dC
    |6,hp|7,hp=>exact hp
    |8,hp=>exact di hp hb0 dC
    |9,hp=>exact hp
    |10,_=>exact(hj rfl).elim
    |11,hp=>exact hp
    |12,_=>rw[hn 12 kQ] at hL;cases hL
    |13,hp=>exact hp
    |14,_=>rw[hn 14 kQ] at hL;cases hL
    |j+15,_=>trivial
  .exact Ph.t9
  .have d11:ev (aD 13)=_:=hd.1 rfl;have d5:w1.ownsRow (w.heap.size+2) 3 1 (ev (aD 8)) ss.length (ss.map (ax af)):=hd.2.1 rfl;have d10:∃x s m,(_:List ai)[1]?=some x/\w1.heap[w.heap.size]?=some (ar (b.cells x s m) 28 (0,0)):=hd.2.2.1 rfl;have d1:ev (aD 4)=_:=hd.2.2.2.2.1 rfl;obtain⟨p5,c5,e8⟩:=bP d5;have hb:=hS.below;have hz:=hS.zero;have hsz:=hS.size;obtain⟨x,s,m,h1,h2⟩:=d10;obtain⟨m0,s0,k0,hb0,q1,q2,q3,_⟩:=hS;rw[hb0] at h2;cases h2;have c1:=aF hb0 13 _ rfl;have f1:=dm hb0 13;refine yva (w':=w1.setCell ⟨w.heap.size,13,none⟩ (ev (aD 8))) ?_ ⟨⟨_,_,_,h1,rfl,dn _ hb0⟩,.inr ⟨⟨_,_,_,dn _ hb0,(fun h=>q1 (by simpa [Ph.upd] using h)),(by intro h;simp[Ph.upd] at h),q3,(aW _ _ _ _ (by show _≠w.heap.size;omega)).trans hz,hb.setCell (p:=⟨w.heap.size,13,none⟩) (aJ _) _,by simpa using hsz⟩,?_⟩⟩
   .rw[e8];go_simp
   .intro j u ds hj hL hp
    match j,hp with
    |0,hp|1,hp=>exact hp
    |2,hp=>exact di hp hb0 dC
    |3,hp|4,hp=>exact hp
    |5,hp=>exact di hp hb0 dC
    |6,hp|7,hp=>exact hp
    |8,hp=>exact di hp hb0 dC
    |9,hp=>exact hp
    |10,⟨x,s,m,h1,h2⟩=>rw[hb0] at h2;cases h2;exact⟨_,_,_,h1,dn _ hb0⟩
    |11,hp=>exact hp
    |12,_=>exact(hj rfl).elim
    |13,hp=>exact hp
    |14,_=>rw[hn 14 kQ] at hL;cases hL
    |j+15,_=>trivial
  .exact Ph.t9
  have d13:ev (aD 14)=_:=hd.1 rfl;have d8:w1.ownsRow (w.heap.size+2) 81 3 (ev (aD 11)) ms.length (ep ms):=hd.2.1 rfl;have d12:∃x y m,(_:List ai)[5]?=some x/\(_:List ai)[1]?=some y/\w1.heap[w.heap.size]?=some (ar (b.cells x y m) 28 (0,0)):=hd.2.2.1 rfl;have d1:ev (aD 4)=_:=hd.2.2.2.2.1 rfl;obtain⟨p5,c5,e11⟩:=bP d8;have hb:=hS.below;have hz:=hS.zero;have hsz:=hS.size;obtain⟨x,y,m,h1,h2,h3⟩:=d12;obtain⟨m0,s0,k0,hb0,q1,q2,q3,_⟩:=hS;rw[hb0] at h3;cases h3;have c1:=aF hb0 14 _ rfl;have f1:=dm hb0 14;refine yva (w':=w1.setCell ⟨w.heap.size,14,none⟩ (ev (aD 11))) ?_ ⟨⟨_,_,_,h1,h2,rfl,dn _ hb0⟩,.inr ⟨⟨_,_,_,dn _ hb0,(fun h=>q1 (by simpa [Ph.upd] using h)),(fun h=>q2 (by simpa [Ph.upd] using h)),(by intro h;simp[Ph.upd] at h),(aW _ _ _ _ (by show _≠w.heap.size;omega)).trans hz,hb.setCell (p:=⟨w.heap.size,14,none⟩) (aJ _) _,by simpa using hsz⟩,?_⟩⟩
  .rw[e11];go_simp
  .intro j u ds hj hL hp
   match j,hp with
   |0,hp|1,hp=>exact hp
   |2,hp=>exact di hp hb0 dC
   |3,hp|4,hp=>exact hp
   |5,hp=>exact di hp hb0 dC
   |6,hp|7,hp=>exact hp
   |8,hp=>exact di hp hb0 dC
   |9,hp=>exact hp
   |10,⟨x,s,m,h1,h2⟩=>rw[hb0] at h2;cases h2;exact⟨_,_,_,h1,dn _ hb0⟩
   |11,hp=>exact hp
   |12,⟨x,y,m,h1,h2,h3⟩=>rw[hb0] at h3;cases h3;exact⟨_,_,_,h1,h2,dn _ hb0⟩
   |13,hp=>exact hp
   |14,_=>exact(hj rfl).elim
   |j+15,_=>trivial
 case rfin=>
  intro a2 w2 hR;have hS:=hR.s;have e2:w2.ownsRow (w.heap.size+2) 79 3 (a2.tmps.getD 5 au) ml.length (dX ml):=hR.val 2;have e5:w2.ownsRow (w.heap.size+2) 3 1 (a2.tmps.getD 8 au) ss.length (ss.map (ax af)):=hR.val 5;have e8:w2.ownsRow (w.heap.size+2) 81 3 (a2.tmps.getD 11 au) ms.length (ep ms):=hR.val 8;obtain⟨x,y,z,h5,h8,h11,lj⟩:=hR.val 14;have k1:a2.tmps.getD 1 au=pv w.heap.size 0:=hR.kept kQ;have k2:a2.tmps.getD 2 au=pv (w.heap.size+1) 0:=hR.kept kQ;have k0:a2.tmps.getD 0 au=aO (b.sl pm ml.length cm pn ss.length cn pk ms.length ck):=hR.kept kQ;have ha:=hR.lits 16 rfl;simp only[aP,cJ,oh] at ha;clear hR;have e5':a2.tmps.getD 5 au=x:=aT h5;have e8':a2.tmps.getD 8 au=y:=aT h8;have agA:a2.tmps.getD 11 au=z:=aT h11;rw[e5'] at e2;rw[e8'] at e5;rw[agA] at e8;rw[k0,k1,k2] at ha;generalize a2.tmps.getD=zz at ha;clear k0 k1 k2 h5 h8 h11 e5' e8' agA;obtain⟨p5,c5,rfl⟩:=bP e2;obtain⟨p8,c8,rfl⟩:=bP e5;obtain⟨XQ,c11,rfl⟩:=bP e8;have HX:=aj lj;have HZ:=aj hS.zero;have Hb:=aj hS.below;have H2:=aj e2;have H5:=aj e5;have H8:=aj e8;have HB:=aj hB;clear lj hS e2 e5 e8 hB ht;subst ha
  go_wp2_with (first
   |(refine mS rfl 28 _ rfl _ rfl 28 _ (0,0) _ HX.out cF rfl kQ ?_)
   |(refine fY rfl 28 _ _ rfl _ _ rfl rfl 28 _ HZ.out kQ rfl (by simp[bJ]) ?_))
  refine bf (results_cell_row rfl _ _ (w.heap.size+1) 28 _ (0,0) _ rfl (cD HZ.out) cF rfl kQ) rfl ⟨_,_,_,rfl,?_,⟨fun g hg=>by have:=(H2.out.lt g hg).1;omega,fun g hg=>by have:=(H5.out.lt g hg).1;omega,fun g hg=>by have:=(H8.out.lt g hg).1;omega⟩,dx Hb.out oM⟩;have hz:=HZ.out;have ns:∀ {e size v n xs},w2.ownsRow (w.heap.size+2) e size v n xs->(w2.setRow (w.heap.size+1) (b.sl p5 ml.length c5 p8 ss.length c8 XQ ms.length c11)).ownsRow (w.heap.size+2) e size v n xs:=fun h=>dY h fun g hg=>setRow_other (by have:=(h.lt g hg).1;omega);exact⟨⟨HB.out.ok,HB.out.iF,HB.out.ng,HB.out.lK,Reads.gG (ns H2.out) oM (by rw[t_];omega),Reads.gG (ns H5.out) oM sM,Reads.gG (ns H8.out) oM (by rw[qN];omega)⟩,td (ns H2.out),td (ns H5.out),td (ns H8.out)⟩
def ek(n mask:Nat):List Nat:=(aP n).filter fun i=>mask.testBit i
def vJ(n mask:Nat):List Int:=(ek n mask).map fun(i:Nat)=>(i:Int)
def su{W:ak}{b1 b2:Nat}{e1 e2:aV}{s1 s2:Nat}{v1 v2:ai}{n1 n2:Nat}{x1 x2:List ai}(h1:W.ownsRow b1 e1 s1 v1 n1 x1)(h2:W.ownsRow b2 e2 s2 v2 n2 x2)(he:e1≠e2){g:Nat}(hg:v1.ownBlock=some g):some g≠v2.ownBlock:=by
 intro h;rcases h1.2 with⟨rfl,_⟩|⟨g1,c1,q1,rfl,_,a1,_⟩
 .cases hg
 rcases h2.2 with⟨rfl,_⟩|⟨g2,c2,q2,rfl,_,a2,_⟩
 .cases h
 obtain rfl:g1=g:=aT hg;obtain rfl:g1=g2:=aT h;rw[a1] at a2;cases a2;exact he rfl
def gF{W:ak}{b1:Nat}{e1 t:aV}{s1:Nat}{v1:ai}{n1:Nat}{x1:List ai}{B:Nat}{cs:Array ai}(h1:W.ownsRow b1 e1 s1 v1 n1 x1)(hB:W.heap[B]?=some (ar cs t (0,0)))(he:t≠e1):some B≠v1.ownBlock:=by
 intro h;rcases h1.2 with⟨rfl,_⟩|⟨g1,c1,q1,rfl,_,a1,_⟩
 .cases h
 obtain rfl:B=g1:=aT h;rw[hB] at a1;cases a1;exact he rfl
def sJ(n mask:Nat):ek (n+1) mask=ek n mask++if mask.testBit n then[n] else[]:=by
 unfold ek;rw[List.range_succ,List.filter_append];cases h:mask.testBit n<;>simp[h]
def rI(n mask:Nat):(ek n mask).length<=n:=by
 have:=List.length_filter_le (fun i=>mask.testBit i) (aP n);simpa [ek] using this
end Go.Proofs.YtffladgmkiimjaaGreatDoor
namespace Go.Lag
open Go Go.RowKit
def Yields.mC{P:Program}{o:Oper}{ev:bI->ai}{w:ak}{R:ai->ak->Prop}(s x:bI)(t:aV)(ho:o.op=.call { callee:=.builtin .append,args:=#[s,x],argTypes:=#[t,t] })
  (base:Nat) (e:aV) (i:TypeInfo) (z:ai) (size tR:Nat) (ht:P.underlying t=some (.slice e)) (hi:P.info? e=some i) (hz:i.zero=some z) (hsize:i.size=size) (hby:i.bytes=tR) (hzs:z.cells.size=size) (hsz:0<size)
  (v:ai) (n:Nat) (xs:List ai) (hs:ev s=v) (hown:w.ownsRow base e size v n xs) (ad:dc) (m c:Nat) (news:List ai) (hx:ev x=.slice (some ad) m c) (hl:news.length=m*size) (hnews:∀j u,news[j]?=some u->w.cell? (ad.add j)=some u) (h1:∀u∈news,u.oneCell'=true)
  (h63:n+m<=gP) (hbytes:(n+m)*tR<=140737488355328) (hbase:base<=w.heap.size)
  (h:∀v' w',w'.ownsRow base e size v' (n+m) (xs++news)->w.grownBy w' v.ownBlock->(v'=.slice none 0 0↔v=.slice none 0 0/\m=0)->R v' w'):Lag.Yields P o ev w R:=by
 obtain⟨v',w',hr,h2,h3,h4⟩:=run_append_own (P:=P) w base t o.type e i z size tR ht hi hz hsize hby hzs hsz v n xs hown ad m c news hl hnews h1 h63 hbytes hbase;refine yN (v:=v') (w':=w') ?_ (h v' w' h2 h3 h4);unfold execOp;simp only[ho,resolve,invoke,builtin,wu,CO,lT,List.map_toArray,cV,gw,hs,hx,hr]
def Src(w:ak)(sv:ai)(m:Nat)(news:List ai):Prop:=
 (sv=.slice none 0 0/\m=0/\news=[])\/∃ad c,sv=.slice (some ad) m c/\∀j u,news[j]?=some u->w.cell? (ad.add j)=some u
section
variable{P:Program}{o:Oper}{ev:bI->ai}{w:ak}{R:ai->ak->Prop}
theorem Ff(base:Nat)(t ty e:aV)(i:TypeInfo)(z:ai)(size tR:Nat)(ht:P.underlying t=some (.slice e))(hi:P.info? e=some i)(hz:i.zero=some z)
  (hsize:i.size=size) (hby:i.bytes=tR) (hzs:z.cells.size=size) (hsz:0<size)
  (v:ai) (n:Nat) (xs:List ai) (hown:w.ownsRow base e size v n xs) (sv:ai) (m:Nat) (news:List ai) (hl:news.length=m*size) (BX:Src w sv m news) (h1:∀u∈news,u.oneCell'=true)
  (h63:n+m<=gP) (hbytes:(n+m)*tR<=140737488355328) (hbase:base<=w.heap.size) :
  ∃v' w',(kO #[t,t] ty #[v,sv]).run P w=.ok v' w'/\w'.ownsRow base e size v' (n+m) (xs++news)/\w.grownBy w' v.ownBlock:=by
 rcases BX with⟨rfl,rfl,rfl⟩|⟨ad,c,rfl,hnews⟩
 .refine⟨v,w,run_append_owned_none w base t ty e i size ht hi v n xs hown,by simpa using hown,rfl,rfl,rfl,aJ _,fun _ _ _=>rfl⟩
 obtain⟨v',w',h2,h3,h4,_⟩:=run_append_own (P:=P) w base t ty e i z size tR ht hi hz hsize hby hzs hsz v n xs hown ad m c news hl hnews h1 h63 hbytes hbase;exact⟨v',w',h2,h3,h4⟩
theorem Ll{w':ak}{v':ai}(base:Nat)(t ty e:aV)(i:TypeInfo)(z:ai)(size tR:Nat)(ht:P.underlying t=some (.slice e))(hi:P.info? e=some i)(hz:i.zero=some z)(hsize:i.size=size)(hby:i.bytes=tR)
  (v:ai) (n:Nat) (xs:List ai) (hown:w.ownsRow base e size v n xs) (sv:ai) (m:Nat) (news:List ai) (hl:news.length=m*size) (BX:Src w sv m news) (h1:∀u∈news,u.oneCell'=true)
  (h63:n+m<=gP) (hbytes:(n+m)*tR<=140737488355328) (hr:(kO #[t,t] ty #[v,sv]).run P w=.ok v' w') :
  ∀ {b2:Nat} {u:ai} {n2:Nat} {ys:List ai},n2<=n->w.ownsRow b2 e size u n2 ys->w'.ownsRow b2 e size u n2 ys:=by
 intro b2 u n2 ys zO hu;subst hsize;subst hby;have abM:n+m<=9223372036854775807:=by simp only[gP] at h63;omega
 rcases BX with⟨rfl,rfl,rfl⟩|⟨ad,c,rfl,hnews⟩
 .have h2:=run_append_owned_none w base t ty e i i.size ht hi v n xs hown;rw[h2] at hr;cases hr;exact hu
 have grow:∀(o:Obj),(w.drew.alloc o).ownsRow b2 e i.size u n2 ys:=fun o=>by
  refine⟨hu.1,?_⟩;rcases hu.2 with h|⟨g,cap,cur,h2,h3,h4,h5⟩
  .exact .inl h
  exact .inr ⟨g,cap,cur,h2,h3,(aY w.drew o g (ag.1 h4).1).trans h4,h5⟩
 rcases hown.2 with⟨rfl,rfl⟩|⟨g,cap,cur,rfl,hbg,hg,wA,hcm,hcs,VG⟩
 .by_cases hm:m=0
  .subst hm;have hn:news=[]:=a_ (by simpa using hl);subst hn
   have h2:(kO #[t,t] ty #[.slice none 0 0,.slice (some ad) 0 c]).run P w=.ok (.slice none 0 0) w:=by
    simp[kO,run_underlying ht,sizeOf,typeInfo,hi,Ev,eU,loadCells,loadCellsFrom]
   rw[h2] at hr;cases hr;exact hu
  have h2:=run_append_nil (P:=P) w t ty e i z ht hi hz ad m c news hl hnews (by omega) (by omega) (by have hb:=hbytes;simp only[dz] at hb;omega);rw[h2] at hr;cases hr;exact grow _
 by_cases hroom:n+m<=cap
 .have VZ:n*i.size+news.length<=cur.size:=by rw[hl,hcs,<-Nat.add_mul];exact Nat.mul_le_mul_right _ hroom
  have h2:=run_append_room (P:=P) w t ty e i ht hi g n cap cur hg ad m c news hl hnews h1 hroom VZ;rw[h2] at hr;cases hr;refine⟨hu.1,?_⟩;rcases hu.2 with h|⟨g2,ac9,aku,k2,h3,h4,h5,h6,h7,h8⟩
  .exact .inl h
  refine .inr ?_
  by_cases Cc:g2=g
  .subst Cc;rw[hg] at h4;cases h4;refine⟨g2,ac9,_,k2,h3,setRow_heap w g2 cur _ e _ hg,h5,h6,?_,?_⟩
   .rw[<-h7];simp only[jS,qK,II,List.length_drop,Array.length_toList];omega
   rw[<-h8];have hle:n2*i.size<=n*i.size:=Nat.mul_le_mul_right _ zO;simp only[List.append_assoc];rw[List.take_append_of_le_length (by rw[II,Array.length_toList];omega),List.take_take,Nat.min_eq_left hle]
  exact⟨g2,ac9,aku,k2,h3,(setRow_other w g g2 _ Cc).trans h4,h5,h6,h7,h8⟩
 have holds:∀j u,xs[j]?=some u->w.cell? ((⟨g,0,none⟩:dc).add j)=some u:=hown.cells (g:=g) rfl;have h2:=run_append_grow (P:=P) w t ty e i z ht hi hz ⟨g,0,none⟩ n cap xs hown.1 holds ad m c news hl hnews (by omega) (by omega) (growslice_fits (by omega) hbytes);rw[h2] at hr;cases hr;exact grow _
theorem Yields.zI(s x:bI)(t:aV)(ho:o.op=.call { callee:=.builtin .append,args:=#[s,x],argTypes:=#[t,t] })
  (base:Nat) (e:aV) (i:TypeInfo) (z:ai) (size tR:Nat) (ht:P.underlying t=some (.slice e)) (hi:P.info? e=some i) (hz:i.zero=some z) (hsize:i.size=size) (hby:i.bytes=tR) (hzs:z.cells.size=size) (hsz:0<size)
  (v:ai) (n:Nat) (xs:List ai) (hs:ev s=v) (hown:w.ownsRow base e size v n xs) (sv:ai) (m:Nat) (news:List ai) (hx:ev x=sv) (hl:news.length=m*size) (BX:Src w sv m news) (h1:∀u∈news,u.oneCell'=true)
  (h63:n+m<=gP) (hbytes:(n+m)*tR<=140737488355328) (hbase:base<=w.heap.size)
  (h:∀v' w',w'.ownsRow base e size v' (n+m) (xs++news)->w.grownBy w' v.ownBlock->(∀ {b2:Nat} {u:ai} {n2:Nat} {ys:List ai},n2<=n->w.ownsRow b2 e size u n2 ys->w'.ownsRow b2 e size u n2 ys)->R v' w'):Lag.Yields P o ev w R:=by
 obtain⟨v',w',hr,h2,h3⟩:=Ff (P:=P) (w:=w) base t o.type e i z size tR ht hi hz hsize hby hzs hsz v n xs hown sv m news hl BX h1 h63 hbytes hbase;refine yN (v:=v') (w':=w') ?_ (h v' w' h2 h3 (Ll base t o.type e i z size tR ht hi hz hsize hby v n xs hown sv m news hl BX h1 h63 hbytes hr));unfold execOp;simp only[ho,resolve,invoke,builtin,wu,CO,lT,List.map_toArray,cV,gw,hs,hx,hr]
theorem BL(base:Nat)(t ty e:aV)(i:TypeInfo)(z:ai)(size tR:Nat)(ht:P.underlying t=some (.slice e))(hi:P.info? e=some i)(hz:i.zero=some z)
  (hsize:i.size=size) (hby:i.bytes=tR) (hzs:z.cells.size=size) (hsz:0<size) (q:Nat) (hq:w.heap[q]?=some (.cells #[] e (0,0))) (hbq:base<=q)
  (sv:ai) (m:Nat) (news:List ai) (hl:news.length=m*size) (BX:Src w sv m news) (h1:∀u∈news,u.oneCell'=true) (h63:m<=gP) (hbytes:m*tR<=140737488355328) :
  ∃v' w',(kO #[t,t] ty #[.slice (some ⟨q,0,none⟩) 0 0,sv]).run P w=.ok v' w'/\w'.ownsRow base e size v' m news/\Bw w w'/\(m=0->v'=.slice (some ⟨q,0,none⟩) 0 0):=by
 have hql:=(ag.1 hq).1;have hown:w.ownsRow base e size (.slice (some ⟨q,0,none⟩) 0 0) 0 []:=⟨by simp,.inr ⟨q,0,#[],rfl,hbq,hq,aJ _,fF _,by simp,by simp⟩⟩
 by_cases hm:m=0
 .subst hm;have hn:news=[]:=a_ (by simpa using hl);subst hn;rcases BX with⟨rfl,_,_⟩|⟨ad,c,rfl,hnews⟩
  .exact⟨_,w,run_append_owned_none w base t ty e i size ht hi _ 0 [] hown,hown,ay _ _,fun _=>rfl⟩
  have hr:=run_append_room (P:=P) w t ty e i ht hi q 0 0 #[] hq ad 0 c [] (by simp) hnews h1 (by omega) (by simp)
  have hk:∀k,(w.setRow q (((#[]:Array ai).toList.take (0*i.size)++[]++(#[]:Array ai).toList.drop (0*i.size+([]:List ai).length)).toArray)).heap[k]?=w.heap[k]?:=fun k=>by
   by_cases hkq:k=q
   .subst hkq;rw[setRow_heap w k #[] _ e (0,0) hq,hq];simp
   exact setRow_other w q k _ hkq
  refine⟨_,_,hr,⟨by simp,.inr ⟨q,0,#[],rfl,hbq,(hk q).trans hq,aJ _,fF _,by simp,by simp⟩⟩,⟨rfl,rfl,rfl,by simp,fun k _=>hk k⟩,fun _=>rfl⟩
 rcases BX with⟨_,h0,_⟩|⟨ad,c,rfl,hnews⟩
 .exact absurd h0 hm
 subst hsize;subst hby;have hr:=run_append_grow (P:=P) w t ty e i z ht hi hz ⟨q,0,none⟩ 0 0 [] (by simp) (fun j u hj=>by simp at hj) ad m c news hl hnews (by omega) (by simp only[gP] at h63;omega) (growslice_fits (by omega) (by simpa using hbytes));have hge:=grownCap_ge w (0+m) 0 e;have hcm:grownCap w (0+m) 0 e<=maxLen:=grownCap_le_maxLen w (0+m) 0 e (by omega);simp only[dz] at hr hge hcm;refine⟨_,_,hr,⟨by simpa using hl,.inr ⟨w.heap.size,grownCap w m 0 e,_,rfl,by omega,heap_alloc_new w.drew _,by omega,hcm,?_,?_⟩⟩,?_,fun h=>absurd h hm⟩
 .simp only[Array.size_append,jS,size_zeroCells,hzs,hl,List.length_nil,dz];rw[<-Nat.add_mul]
  congr 1
  omega
 .simp only[Array.toList_append,List.nil_append];rw[show m*i.size=news.length from hl.symm];exact List.take_left
 exact(ay _ _).drew.alloc (aJ _) _
theorem Yields.append_empty(s x:bI)(t:aV)(ho:o.op=.call { callee:=.builtin .append,args:=#[s,x],argTypes:=#[t,t] })
  (base:Nat) (e:aV) (i:TypeInfo) (z:ai) (size tR:Nat) (ht:P.underlying t=some (.slice e)) (hi:P.info? e=some i) (hz:i.zero=some z) (hsize:i.size=size) (hby:i.bytes=tR) (hzs:z.cells.size=size) (hsz:0<size)
  (q:Nat) (hs:ev s=.slice (some ⟨q,0,none⟩) 0 0) (hq:w.heap[q]?=some (.cells #[] e (0,0))) (hbq:base<=q) (sv:ai) (m:Nat) (news:List ai) (hx:ev x=sv) (hl:news.length=m*size) (BX:Src w sv m news) (h1:∀u∈news,u.oneCell'=true)
  (h63:m<=gP) (hbytes:m*tR<=140737488355328) (h:∀v' w',w'.ownsRow base e size v' m news->Bw w w'->(m=0->v'=.slice (some ⟨q,0,none⟩) 0 0)->R v' w'):Lag.Yields P o ev w R:=by
 obtain⟨v',w',hr,h2,h3,h4⟩:=BL (P:=P) (w:=w) base t o.type e i z size tR ht hi hz hsize hby hzs hsz q hq hbq sv m news hl BX h1 h63 hbytes;refine yN (v:=v') (w':=w') ?_ (h v' w' h2 h3 h4);unfold execOp;simp only[ho,resolve,invoke,builtin,wu,CO,lT,List.map_toArray,cV,gw,hs,hx,hr]
end
end Go.Lag
namespace Go.Proofs.YtffladgmkiimjaaGreatDoor
open Go.RowKit Go.Lag
def Sv(l:List Mk)(m:Mk):ep (l++[m])=ep l++m.cells.toList:=by simp[ep]
def Reads.src{w:ak}{v:ai}{n:Nat}{xs:List ai}(h:Reads w v n xs):Src w v n xs:=by
 rcases h with⟨h1,h2,h3⟩|⟨g,off,cap,h1,_,_,h4⟩
 .exact bV ⟨h1,h2,h3⟩
 exact .inr ⟨⟨g,off,none⟩,cap,h1,fun j u hj=>by
  have:=h4 j u hj
  cases j<;>simpa [jh] using this⟩
structure RM(k:Nat)(bk mk:Array ai)(w0:ak)(C:Bool)(w:ak):Prop where
 one:w.heap[k]?=some (ar bk 28 (0,0))
 two:w.heap[k+1]?=some (ar mk 81 (0,0))
 three:w.heap[k+2]?=some (ar zP 28 (0,0))
 four:C=false->w.heap[k+3]?=some (ar bk 28 (0,0))
 below:Below k w0 w
 size:k+4<=w.heap.size
section
variable{k:Nat}{bk mk:Array ai}{w0 w1 w2:ak}{C C':Bool}
theorem RM.next(hC:C'=false->C=false)(h:RM k bk mk w0 C w1)(hb:Bw w1 w2):RM k bk mk w0 C' w2:=by
 have hs:=h.size;exact⟨(hb.block _ oM).trans h.one,(hb.block _ oM).trans h.two,(hb.block _ oM).trans h.three,fun e=>(hb.block _ oM).trans (h.four (hC e)),h.below.trans (hb.mono oM),aG hs hb.size⟩
theorem RM.grown{row:Option Nat}(hC:C'=C)(h:RM k bk mk w0 C w1)(g:w1.grownBy w2 row)(hr:∀q,row=some q->k+4<=q):RM k bk mk w0 C' w2:=by
 subst hC;have hs:=h.size;have hn:∀q,q<k+4->some q≠row:=fun q hq e=>by have:=hr q e.symm;omega
 exact⟨(g.block _ oM (hn _ oM)).trans h.one,(g.block _ oM (hn _ oM)).trans h.two,(g.block _ oM (hn _ oM)).trans h.three,fun e=>(g.block _ oM (hn _ oM)).trans (h.four e),h.below.grown g oM (fun q hq=>by have:=hr q hq;omega),aG hs g.size⟩
theorem RM.put(h:RM k bk mk w0 C w1)(u:ai)(i:Nat):RM k bk mk w0 true (w1.setCell ⟨k+3,i,none⟩ u):=by
 have hn:∀q,q≠k+3->(w1.setCell ⟨k+3,i,none⟩ u).heap[q]?=w1.heap[q]?:=fun q hq=>aW _ _ _ _ hq;exact⟨(hn _ oM).trans h.one,(hn _ oM).trans h.two,(hn _ oM).trans h.three,fun e=>(by cases e),h.below.setCell (p:=⟨k+3,i,none⟩) (by show k<=k+3;omega) _,by simpa using h.size⟩
theorem RM.drew(h:RM k bk mk w0 C w1):RM k bk mk w0 C w1.drew:=⟨h.one,h.two,h.three,h.four,h.below.drew,h.size⟩
end
def Qr(b:BB)(bn aL az:ai)(hv:(∃p n c,bn=ae p n c)/\(∃p n c,aL=ae p n c))(ms:List Mk)(hlen:ms.length<=20)(m:Mk)(w:ak)(hk:Reads w az ms.length (ep ms)) :
  bm aq 88 #[aO (b.cells bn aL az),aO m.cells] w fun e w'=>∃k',e=aU (aO (b.cells bn aL k'))/\Reads w' k' (ms++[m]).length (ep (ms++[m]))/\(∃g,k'.ownBlock=some g/\w.heap.size<=g/\∃cs,w'.heap[g]?=some (ar cs 81 (0,0)))/\Bw w w':=by
 obtain⟨i1,Bv,MT,hy1,hy2⟩:=gQ KB;obtain⟨⟨pm,nm,cm,rfl⟩,⟨pn,nn,cn,rfl⟩⟩:=hv;obtain⟨pk,ck,rfl,_⟩:=aR hk;have HL:=aj (qN ms);have oK:(((w.alloc (ar (b.sl pm nm cm pn nn cn pk ms.length ck) 28)).alloc (ar m.cells 81)).alloc (ar zP 28)).heap.size=w.heap.size+3:=sM;have hb3:Bw w (((w.alloc (ar (b.sl pm nm cm pn nn cn pk ms.length ck) 28)).alloc (ar m.cells 81)).alloc (ar zP 28)):=(dF.alloc sM _).alloc sO _;have h0:(((w.alloc (ar (b.sl pm nm cm pn nn cn pk ms.length ck) 28)).alloc (ar m.cells 81)).alloc (ar zP 28)).heap[w.heap.size]?=some (ar (b.sl pm nm cm pn nn cn pk ms.length ck) 28 (0,0)):=(aY _ _ _ sO).trans ((aY _ _ _ sM).trans (aw w _));have h1:(((w.alloc (ar (b.sl pm nm cm pn nn cn pk ms.length ck) 28)).alloc (ar m.cells 81)).alloc (ar zP 28)).heap[w.heap.size+1]?=some (ar m.cells 81 (0,0)):=(aY _ _ _ sM).trans (by have:=aw (w.alloc (ar (b.sl pm nm cm pn nn cn pk ms.length ck) 28)) (ar m.cells 81);simpa using this);have h2:(((w.alloc (ar (b.sl pm nm cm pn nn cn pk ms.length ck) 28)).alloc (ar m.cells 81)).alloc (ar zP 28)).heap[w.heap.size+2]?=some (ar zP 28 (0,0)):=by have:=aw ((w.alloc (ar (b.sl pm nm cm pn nn cn pk ms.length ck) 28)).alloc (ar m.cells 81)) (ar zP 28);simpa using this
 have h3:((((w.alloc (ar (b.sl pm nm cm pn nn cn pk ms.length ck) 28)).alloc (ar m.cells 81)).alloc (ar zP 28)).alloc (ar (b.sl pm nm cm pn nn cn pk ms.length ck) 28)).heap[w.heap.size+3]?=some (ar (b.sl pm nm cm pn nn cn pk ms.length ck) 28 (0,0)):=by have:=aw (((w.alloc (ar (b.sl pm nm cm pn nn cn pk ms.length ck) 28)).alloc (ar m.cells 81)).alloc (ar zP 28)) (ar (b.sl pm nm cm pn nn cn pk ms.length ck) 28);rw[oK] at this;exact this
 have HS0:nz (RM w.heap.size (b.sl pm nm cm pn nn cn pk ms.length ck) m.cells w false ((((w.alloc (ar (b.sl pm nm cm pn nn cn pk ms.length ck) 28)).alloc (ar m.cells 81)).alloc (ar zP 28)).alloc (ar (b.sl pm nm cm pn nn cn pk ms.length ck) 28))):=
  aj ⟨(aY _ _ _ (by rw[oK];omega)).trans h0,(aY _ _ _ (by rw[oK];omega)).trans h1,(aY _ _ _ (by rw[oK];omega)).trans h2,fun _=>h3,hb3.alloc (by rw[oK];omega) _,sM⟩
 have HRk:nz (∀w9,Bw w w9->Src w9 (ae pk ms.length ck) ms.length (ep ms)):=aj fun w9 h9=>(hk.below h9).src;clear h0 h1 h2 h3 hb3 hk oK
 go_enter Tryz.func88,Tryz.ntmps88
 go_wp2
 refine Ph.cy kQ [
 fun v ds w9=>∃q,v=ae (some ⟨q,0,none⟩) 0 0/\w9.ownsRow (w.heap.size+4) 81 3 v 0 [],
  pV (fP (some ⟨w.heap.size,14,none⟩)),
  pV (ae pk ms.length ck),
  fun v ds w9=>∃p c,v=ae p ms.length c/\w9.ownsRow (w.heap.size+4) 81 3 v ms.length (ep ms)/\(ms.length=0->c=0),
  pV (aO m.cells),
  fun v ds w9=>∃q,v=ae (some ⟨q,0,none⟩) 1 1/\w9.ownsRow (w.heap.size+4) 81 3 v 1 m.cells.toList,
  fun v ds w9=>∃p c,v=ae p (ms.length+1) c/\w9.ownsRow (w.heap.size+4) 81 3 v (ms.length+1) (ep ms++m.cells.toList),
  pV (fP (some ⟨w.heap.size+1+1+1,14,none⟩)),
  fun v ds w9=>∃x,ds[1]?=some x/\w9.heap[w.heap.size+3]?=some (ar (b.cells (ae pm nm cm) (ae pn nn cn) x) 28 (0,0))]
  (fun L w9=>RM w.heap.size (b.sl pm nm cm pn nn cn pk ms.length ck) m.cells w (L 8) w9) [(2,fP (some ⟨w.heap.size,0,none⟩)),(3,fP (some ⟨w.heap.size+1,0,none⟩)),(5,fP (some ⟨w.heap.size+1+1+1,0,none⟩))] kQ ?rst (fun L L2 w1 w2 Uf h hb=>h.next (Uf 8) hb) (HS0.out.drew) ⟨rfl,rfl,rfl,trivial⟩ ?reach ?rfin
 case rst=>
  refine⟨?_,Ph.sV,Ph.sV,?_,Ph.sV,?_,?_,Ph.sV,?_,trivial⟩
  .rintro v ds L w1 w2 hS ⟨q,h1,h2⟩ hb;exact⟨q,h1,a8 h2 hb⟩
  .rintro v ds L w1 w2 hS ⟨p,c,h1,h2,h3⟩ hb;exact⟨p,c,h1,a8 h2 hb,h3⟩
  .rintro v ds L w1 w2 hS ⟨q,h1,h2⟩ hb;exact⟨q,h1,a8 h2 hb⟩
  .rintro v ds L w1 w2 hS ⟨p,c,h1,h2⟩ hb;exact⟨p,c,h1,a8 h2 hb⟩
  rintro v ds L w1 w2 hS ⟨x,h1,h2⟩ hb;exact⟨x,h1,(hb.block _ (ag.1 h2).1).trans h2⟩
 case reach=>
  refine⟨?_,?_,?_,?_,?_,?_,?_,?_,?_,trivial⟩<;>rintro Lf ev w1 hn nG hS hc hg hf ⟨b2,b3,b5,-⟩ hd
  .have hs4:=hS.size;refine yN (v:=ae (some ⟨w1.heap.size,0,none⟩) 0 0) (w':=w1.alloc (ar #[] 81)) ?_ ⟨⟨_,rfl,⟨sM,.inr ⟨w1.heap.size,0,#[],rfl,hs4,aw _ _,aJ _,fF _,sM,sM⟩⟩⟩,bV dF⟩;go_simp
  .exact Ph.t9
  .have d1:ev (aD 8)=_:=hd.1 rfl;have c14:=aF hS.one 14 (ae pk ms.length ck) rfl;exact Ph.t9
  .have d0:∃q,(ev (aD 7))=ae (some ⟨q,0,none⟩) 0 0/\w1.ownsRow (w.heap.size+4) 81 3 (ev (aD 7)) 0 []:=hd.1 rfl;have d2:ev (aD 9)=_:=hd.2.1 rfl;obtain⟨q,e7,hq⟩:=d0;rw[e7] at hq;obtain⟨g,c,cur,h1,h2,h3,_,_,h4,_⟩:=hq.2.resolve_left sM;cases h1;obtain rfl:cur = #[]:=Array.eq_empty_of_size_eq_zero (by simpa using h4);refine Lag.Yields.append_empty (aD 7) (aD 9) 26 rfl (w.heap.size+4) 81 i1 (aO #[ah af 0,ah af 0,ah af 0]) 3 24 CL Bv MT hy1 hy2 rfl dC q e7 h3 h2 (ae pk ms.length ck) ms.length (ep ms) d2 (by have:=HL.out;omega) (HRk.out w1 hS.below) (Ja ms) (by unfold gP;omega) oM ?_;intro v' w' hown' hb' hz;obtain⟨p',c',rfl⟩:=bP hown';exact⟨⟨p',c',rfl,hown',fun h0=>by have:=hz h0;simp at this;exact this.2.2⟩,bV hb'⟩
  .have q:w1.heap[w.heap.size+1]?=some (ar m.cells 81 (0,0)):=hS.two;refine Lag.Yields.pD 81 _ rfl _ b3 81 _ (0,0) _ q Tryz.underlying81 rfl kQ ⟨rfl,bV (ay _ _)⟩
  .have d4:ev (aD 11)=_:=hd.1 rfl;have hs4:=hS.size;refine yN (v:=ae (some ⟨w1.heap.size,0,none⟩) 1 1) (w':=w1.alloc (ar m.cells 81)) ?_ ⟨⟨_,rfl,World.ownsRow_lit w1 m.cells 1 hs4 (by unfold gP;omega) rfl⟩,bV dF⟩;go_simp
  .have d3:∃p c,(ev (aD 10))=ae p ms.length c/\w1.ownsRow (w.heap.size+4) 81 3 (ev (aD 10)) ms.length (ep ms)/\(ms.length=0->c=0):=hd.1 rfl;have d5:∃q,(ev (aD 12))=ae (some ⟨q,0,none⟩) 1 1/\w1.ownsRow (w.heap.size+4) 81 3 (ev (aD 12)) 1 m.cells.toList:=hd.2.1 rfl;obtain⟨p,c,Eh,hown,hz⟩:=d3;obtain⟨q,Uj,hq⟩:=d5;have Pz:=HL.out;rw[Eh] at hown;have hown1:=hq;rw[Uj] at hq;obtain⟨g,c2,cur,h1,h2,h3,_,_,h4,h5⟩:=hq.2.resolve_left sM;cases h1
   have acd:cur=m.cells:=by
    apply Array.ext';have h6:cur.toList.length=3:=by simpa using h4
    rw[cQ oM] at h5;exact h5
   subst acd;refine Lag.Yields.zI (aD 10) (aD 12) 26 rfl (w.heap.size+4) 81 i1 (aO #[ah af 0,ah af 0,ah af 0]) 3 24 CL Bv MT hy1 hy2 rfl dC (ae p ms.length c) ms.length (ep ms) Eh hown (ae (some ⟨q,0,none⟩) 1 1) 1 m.cells.toList Uj rfl (.inr ⟨_,_,rfl,?_⟩) (by simp[bJ]) (by unfold gP;omega) oM hS.size ?_
   .intro n u hn;have h5:=aF h3 n u (by simpa using hn);have e:(⟨q,0,none⟩:dc).add n=⟨q,n,none⟩:=by cases n<;>simp[jh]
    rw[e];exact h5
   intro v' w' hown' hgrow jx;obtain⟨p',c',rfl⟩:=bP hown';refine⟨⟨p',c',rfl,hown'⟩,.inr ⟨hS.grown (by simp[Ph.upd]) hgrow (fun q hq=>(hown.lt q hq).1),?_⟩⟩;intro t u ds hj hL hp
   match t,hp with
   |0,⟨q2,h1,h2⟩=>exact⟨q2,h1,jx (fF _) h2⟩
   |1,hp|2,hp=>exact hp
   |3,⟨p2,c2,h1,h2,h3⟩=>exact⟨p2,c2,h1,jx (aJ _) h2,h3⟩
   |4,hp=>exact hp
   |5,⟨q2,h1,h2⟩=>
    refine⟨q2,h1,?_⟩
    by_cases h0:ms.length=0
    .have hc:=hz h0;refine dY h2 fun g2 hg2=>hgrow.block g2 (h2.lt g2 hg2).2 fun Cc=>?_;rw[h1] at h2;obtain⟨g3,c3,akt,k1,_,k3,_,_,k4,_⟩:=h2.2.resolve_left sM;cases k1;have e2:q2=g2:=by rw[h1] at hg2;exact aT hg2
     subst e2;rcases hown.2 with⟨k5,_⟩|⟨g4,c4,aks,k5,_,k6,_,_,k7,_⟩
     .rw[k5] at Cc;cases Cc
     cases k5;have e4:q2=g4:=aT Cc;subst e4;rw[k3] at k6;cases k6;omega
    exact jx oM h2
   |6,_=>exact(hj rfl).elim
   |7,hp=>exact hp
   |8,_=>rw[hn 8 kQ] at hL;cases hL
   |t+9,_=>trivial
  .exact Ph.t9
  have d7:ev (aD 14)=_:=hd.1 rfl;have d6:∃p c,(ev (aD 13))=ae p (ms.length+1) c/\w1.ownsRow (w.heap.size+4) 81 3 (ev (aD 13)) (ms.length+1) (ep ms++m.cells.toList):=hd.2.1 rfl;obtain⟨p,c,h1,h2⟩:=d6;have nW:w1.heap[w.heap.size+1+1+1]?=some (ar (b.sl pm nm cm pn nn cn pk ms.length ck) 28 (0,0)):=hS.four nG;have c1:=aF nW 14 (ae pk ms.length ck) rfl;have f1:=dm nW 14;refine yva (w':=w1.setCell ⟨w.heap.size+1+1+1,14,none⟩ (ev (aD 13))) ?_ ⟨⟨_,rfl,dn _ nW⟩,.inr ⟨(hS.put (ev (aD 13)) 14),?_⟩⟩
  .rw[h1];go_simp
  .intro t u ds hj hL hp
   match t,hp with
   |0,⟨q2,g1,g2⟩=>exact⟨q2,g1,di g2 nW dC⟩
   |1,hp|2,hp=>exact hp
   |3,⟨p2,c2,g1,g2,g3⟩=>exact⟨p2,c2,g1,di g2 nW dC,g3⟩
   |4,hp=>exact hp
   |5,⟨q2,g1,g2⟩=>exact⟨q2,g1,di g2 nW dC⟩
   |6,⟨p2,c2,g1,g2⟩=>exact⟨p2,c2,g1,di g2 nW dC⟩
   |7,hp=>exact hp
   |8,_=>exact(hj rfl).elim
   |t+9,_=>trivial
 case rfin=>
  intro a3 w3 hR;have hS:=hR.s;have e6:∃p c,(a3.tmps.getD 13 au)=ae p (ms.length+1) c/\w3.ownsRow (w.heap.size+4) 81 3 (a3.tmps.getD 13 au) (ms.length+1) (ep ms++m.cells.toList):=hR.val 6;have e8:∃x,([a3.tmps.getD 14 au,a3.tmps.getD 13 au,a3.tmps.getD 13 au,a3.tmps.getD 7 au,a3.tmps.getD 8 au,a3.tmps.getD 9 au,a3.tmps.getD 10 au,a3.tmps.getD 11 au,a3.tmps.getD 12 au,a3.tmps.getD 13 au]:List ai)[1]?=some x/\w3.heap[w.heap.size+3]?=some (ar (b.cells (ae pm nm cm) (ae pn nn cn) x) 28 (0,0)):=hR.val 8;have k4:a3.tmps.getD 4 au=fP (some ⟨w.heap.size+1+1,0,none⟩):=hR.kept kQ;have k5:a3.tmps.getD 5 au=fP (some ⟨w.heap.size+1+1+1,0,none⟩):=hR.kept kQ;have ha:=hR.lits 16 rfl;simp only[aP,cJ,oh] at ha;clear hR;obtain⟨x,ex,nW⟩:=e8;have ex2:a3.tmps.getD 13 au=x:=aT ex;obtain⟨p13,c13,e13,abV⟩:=e6;rw[e13] at ex2 abV;subst ex2;rw[k4,k5] at ha;generalize a3.tmps.getD=zz at ha;have HOb:nz (w3.heap[w.heap.size+1+1+1]?=some (ar (b.sl pm nm cm pn nn cn p13 (ms.length+1) c13) 28 (0,0))):=aj nW;have HZ:nz (w3.heap[w.heap.size+1+1]?=some (ar zP 28 (0,0))):=aj hS.three;have HB:=aj hS.below;have Og:=aj abV;clear e13 ex nW abV hS k4 k5;subst ha
  go_wp2_with (first
   |(refine mS rfl 28 _ rfl _ rfl 28 _ (0,0) _ HOb.out cF rfl kQ ?_)
   |(refine fY rfl 28 _ _ rfl _ _ rfl rfl 28 _ HZ.out kQ rfl (by simp[bJ]) ?_))
  have ho:(w3.setRow (w.heap.size+1+1) (b.sl pm nm cm pn nn cn p13 (ms.length+1) c13)).ownsRow (w.heap.size+4) 81 3 (ae p13 (ms.length+1) c13) (ms.length+1) (ep ms++m.cells.toList):=dY Og.out fun g hg=>setRow_other (by have:=(Og.out.lt g hg).1;omega);refine bf (results_cell_row rfl _ _ (w.heap.size+1+1) 28 _ (0,0) _ rfl (cD HZ.out) cF rfl kQ) rfl ⟨_,rfl,?_,?_,dx HB.out oM⟩
  .rw[Sv];exact Reads.gG ho sO (by have:=HL.out;simp;omega)
  obtain⟨g,cap,cur,h1,h2,h3,_⟩:=ho.2.resolve_left sM;exact⟨g,by rw[h1];rfl,oM,cur,h3⟩
def sA(a b:List Int):Bool:=decide (a.length<b.length)||(decide (a.length=b.length)&&decide (kx a b<0))
def SZ(xs ys:List Int)(v1 v2:ai)(w:ak)(h1:Reads w v1 xs.length (xs.map (ax af)))(h2:Reads w v2 ys.length (ys.map (ax af))) :
  bm aq 121 #[v1,v2] w fun e w'=>e=aU (aH (sA xs ys))/\w=w':=by
 obtain⟨p1,c1,rfl,_⟩:=aR h1;obtain⟨p2,c2,rfl,_⟩:=aR h2;have hC:=sQ xs ys _ _ w h1 h2;have hL:sA xs ys=(decide (xs.length<ys.length)||(decide (xs.length=ys.length)&&decide (kx xs ys<0))):=rfl;have AH:=EM xs ys;generalize kx xs ys=c at *;generalize sA xs ys=r at *;generalize xs.length=na at *;generalize ys.length=nb at *;have HL:=aj hL;clear hL h1 h2
 by_cases h1:na<nb
 .have e1:decide (na<nb)=true:=sO;have er:r=true:=by rw[HL.out,decide_eq_true h1];rfl
  subst er;have H1:=aj h1;clear h1 hC
  go_enter Tryz.func121,Tryz.ntmps121
  go_wp2
  go_ret
  exact⟨rfl,rfl⟩
 by_cases h2:na=nb
 .subst h2;have er:r=decide (c<0):=by rw[HL.out];simp
  subst er;clear h1 HL;have e1:decide (na<na)=false:=sM;have e9:(na==na)=true:=sM
  go_enter Tryz.func121,Tryz.ntmps121
  go_wp2_with fail
  refine hC.mono ?_;rintro e w7 ⟨rfl,rfl⟩;go_wp2
  go_ret
  exact⟨rfl,rfl⟩
 have e1:decide (na<nb)=false:=sO;have e2:decide ((na:Int)=(nb:Int))=false:=sO;have e3:((na:Int)==(nb:Int))=false:=sO;have e4:(na==nb)=false:=sO;have er:r=false:=by rw[HL.out,decide_eq_false h1,decide_eq_false h2];rfl
 subst er;clear h1 h2 HL hC
 go_enter Tryz.func121,Tryz.ntmps121
 go_wp2
 go_ret
 exact⟨rfl,rfl⟩
abbrev VL:=ai × List Int
def tM(w:ak)(r:VL):Prop:=Reads w r.1 r.2.length (r.2.map (ax af))
def tM.below{w w':ak}{r:VL}(h:tM w r)(hb:Bw w w'):tM w' r:=Reads.below h hb
def oz(first:VL)(more:List VL):VL:=more.foldl (fun b x=>if sA x.2 b.2 then x else b) first
def Qi(first:VL)(more:List VL)(k:Nat)(hk:k<more.length):oz first (more.take (k+1))=if sA more[k].2 (oz first (more.take k)).2 then more[k] else oz first (more.take k):=by
 unfold oz;rw[bH hk,ot];rfl
def uH:∀(more:List VL) (first:VL),oz first more=first\/oz first more∈more
 |[],first=>bV rfl
 |x::more,first=>by
  show oz (if sA x.2 first.2=true then x else first) more=first\/oz (if sA x.2 first.2=true then x else first) more∈x::more
  by_cases hl:sA x.2 first.2=true
  .rw[if_pos hl];rcases uH more x with h|h
   .rw[h];exact .inr sM
   exact .inr (bW _ h)
  rw[if_neg hl];rcases uH more first with h|h
  .exact bV h
  exact .inr (bW _ h)
def TS(first:VL)(more:List VL)(v:ai)(w:ak)(hf:tM w first)(hm:∀r∈more,tM w r)(hv:Reads w v more.length (more.map (·.1))) :
  bm aq 120 #[.func (.func 121) #[] #[],first.1,v] w fun e w'=>e=aU (oz first more).1/\Bw w w':=by
 have HSl:nz (∀r∈first::more,∃p n c,r.1=ae p n c):=aj fun r hr=>by
  have h1:tM w r:=by
   rcases List.mem_cons.1 hr with rfl|h
   .exact hf
   exact hm r h
  obtain⟨p,c,h2,_⟩:=aR h1;exact⟨p,_,c,h2⟩
 obtain⟨pf,nf,cf,hfv⟩:=HSl.out first sM
 rcases hv with⟨rfl,hn,_⟩|⟨g,off,cap,rfl,hn,hg,hc⟩
 .obtain rfl:=a_ hn;clear hn;show bm aq 120 #[.func (.func 121) #[] #[],first.1,ae none 0 0] w fun e w'=>e=aU first.1/\Bw w w'
  rw[hfv];clear hfv
  go_enter Tryz.func120,Tryz.ntmps120
  go_wp2
  go_loopw [1,11] (fun b i wr=>i=ah af 0/\b=ae pf nf cf/\Bw w wr) (fun _ _ _=>0)
  case atStart=>exact⟨rfl,rfl,ay _ _⟩
  case round=>
   obtain⟨rfl,rfl,eE⟩:=hrel;go_wp2
   go_ret
   exact⟨rfl,eE⟩
 have HC:=aj hc;have HM:=aj hm;have HF:=aj hf;clear hc hm hf;generalize hL:more.length=L at *;have HL:=aj hL;clear hL;have HFv:=aj hfv;rw[hfv];clear hfv
 go_enter Tryz.func120,Tryz.ntmps120
 go_wp2
 go_loopw [1,8,11] (fun b _ i wr=>∃k:Nat,k<=L/\i=ah af k/\b=(oz first (more.take k)).1/\Bw w wr) (fun _ _ i _=>L-(intOf i).toNat)
 case atStart=>exact⟨0,oM,rfl,HFv.out.symm,ay _ _⟩
 case round=>
  obtain⟨k,hk,rfl,XX,eE⟩:=hrel
  by_cases hlt:k<L
  .have kq:k<more.length:=by rw[HL.out];exact hlt
   have hcell:wr.cell? ⟨g,off+k,none⟩=some more[k].1:=(eE.cell (p:=⟨g,off+k,none⟩) hg).trans (HC.out k _ (by simp[kq]));have hx:=HM.out more[k] (bS kq);have hst:=Qi first more k kq
   have Tn:tM w (oz first (more.take k)):=by
    rcases uH (more.take k) first with h|h
    .rw[h];exact HF.out
    exact HM.out _ (fV h)
   generalize more[k]=x at *;generalize oz first (more.take k)=bst at *
   obtain⟨p1,c1,e1,_⟩:=aR hx;obtain⟨p2,c2,e2,_⟩:=aR Tn;rw[e2] at XX;subst XX;have hB:=SZ x.2 bst.2 x.1 bst.1 wr (hx.below eE) (Tn.below eE);rw[e1] at hcell;rw[e1,e2] at hB;have hsz:=eE.size;have E1:=aj e1;have E2:=aj e2;clear hx Tn e1 e2;cases hr:sA x.2 bst.2
   all_goals
    rw[hr] at hst hB;have HR:=aj hr;have HST:=aj hst;clear hr hst
    go_wp2_with (go_at_call 121;refine hB.mono ?_;rintro e w2 ⟨rfl,rfl⟩)
    go_roundw
    case rel=>exact⟨k+1,oM,by go_num,by rw[HST.out];first|exact E1.out.symm|exact E2.out.symm,eE⟩
    case measure=>simp[intOf];omega
  obtain rfl:k=L:=oM;have uX:more.take k=more:=cQ (by rw[HL.out];exact aJ _);rw[uX] at XX;have HBv:=aj XX
  obtain⟨p1,n1,c1,e1⟩:=HSl.out (oz first more) (by
   rcases uH more first with h|h
   .rw[h];simp
   exact bW _ h)
  rw[e1] at XX;subst XX;have E1:=aj e1;clear e1 uX;go_wp2
  go_ret
  exact⟨congrArg bq E1.out.symm,eE⟩
def nP(ms:List Mk)(l:List Nat):List Mk:=l.filterMap fun i=>ms[i]?
def SI(ms:List Mk)(l:List Nat):(nP ms l).length<=l.length:=List.length_filterMap_le _ _
def SH{ms:List Mk}{l:List Nat}{m:Mk}(h:m∈nP ms l):m∈ms:=by
 obtain⟨i,_,hi⟩:=List.mem_filterMap.1 h;exact List.mem_of_getElem? hi
def O8(ms:List Mk)(l:List Nat)(j:Nat)(hj:j<ms.length):nP ms (l++[j])=nP ms l++[ms[j]]:=by
 unfold nP;rw[List.filterMap_append];simp[hj]
def Mq(ms:List Mk)(l:List Nat)(h:∀i∈l,i<ms.length):(nP ms l).length=l.length:=by
 induction l with
 |nil=>rfl
 |cons a l ih=>
  have ha:=h a sM;have:=ih fun i hi=>h i (by simp[hi])
  have e:nP ms (a::l)=ms[a]::nP ms l:=by
   unfold nP;rw[List.filterMap_cons];simp[ha]
  rw[e];simp[this]
def UZ{b:BB}{ms:List Mk}(h:lN b ms){n mask:Nat}(hn:n<=ms.length):lN b (nP ms (ek n mask)):=
 ⟨fun m hm=>h.mem m (SH hm),by have:=SI ms (ek n mask);have:=rI n mask;have:=h.len;omega⟩
def m9(b:BB)(ml:List Mn)(ss:List Int)(ms:List Mk)(mask:Nat):Bool:=decide (bu b ml ss (nP ms (ek ms.length mask))=[])
def FE(b:BB)(ml:List Mn)(ss:List Int)(ms:List Mk)(M:Nat):List (List Int):=((aP M).filter (m9 b ml ss ms)).map (vJ ms.length)
def SQ(b:BB)(ml:List Mn)(ss:List Int)(ms:List Mk)(M:Nat):FE b ml ss ms (M+1)=FE b ml ss ms M++if m9 b ml ss ms M then[vJ ms.length M] else[]:=by
 unfold FE;rw[List.range_succ,List.filter_append,d_];cases h:m9 b ml ss ms M<;>simp[h]
def Xm(first:List Int)(more:List (List Int)):List Int:=more.foldl (fun b x=>if sA x b then x else b) first
def Jy:∀(more:List VL) (first:VL),(oz first more).2=Xm first.2 (more.map (·.2))
 |[],_=>rfl
 |x::more,first=>by
  show(oz (if sA x.2 first.2=true then x else first) more).2=Xm (if sA x.2 first.2=true then x.2 else first.2) (more.map (·.2));rw[Jy more]
  by_cases h:sA x.2 first.2=true
  .rw[if_pos h,if_pos h]
  rw[if_neg h,if_neg h]
def rJ(b:BB)(ml:List Mn)(ss:List Int)(ms:List Mk):List Int:=
 if bu b ml ss ms≠[] then[] else match FE b ml ss ms (2 ^ ms.length) with|[]=>[]|f::r=>Xm f r
def TK(n:Nat):ek n (2 ^ n-1)=aP n:=by
 unfold ek;rw[List.filter_eq_self];intro i hi;rw[bO] at hi;rw[Nat.testBit_two_pow_sub_one];simp[hi]
def SG(ms:List Mk):nP ms (aP ms.length)=ms:=by
 unfold nP;apply List.ext_getElem?;intro i
 have key:∀k,k<=ms.length->(aP k).filterMap (fun i=>ms[i]?)=ms.take k:=by
  intro k
  induction k with
  |zero=>simp
  |succ k ih=>
   intro hk;rw[List.range_succ,List.filterMap_append,ih oM,bH oM];simp[show k<ms.length by omega]
 rw[key _ (aJ _),List.take_length]
def abo{b:BB}{ml:List Mn}{ss:List Int}{ms:List Mk}(h:bu b ml ss ms=[]):FE b ml ss ms (2 ^ ms.length)≠[]:=by
 unfold FE;intro h2;have h3:=List.map_eq_nil_iff.1 h2
 have h4:2 ^ ms.length-1∈(aP (2 ^ ms.length)).filter (m9 b ml ss ms):=by
  rw[List.mem_filter];have:0<2 ^ ms.length:=Nat.two_pow_pos _;refine⟨bO.2 oM,?_⟩;unfold m9;rw[TK,SG];simp[h]
 rw[h3] at h4;cases h4
def abE:(Tryz.prog.info? 25).map (fun i=>(i.zero,i.size,i.bytes))=some (some (ae none 0 0),1,24):=kQ
def OW(l:List Mk)(m:Mk):ep (l++[m])=ep l++m.cells.toList:=by simp[ep]
structure Oi(ob mb:Nat)(bc:ai->Array ai)(V8 Qo:ai)(k:Nat)(xs ys:List ai)(mc:Array ai)(wo:ak)(A B C:Bool)(w:ak):Prop where
 Kc:A=false->w.ownsRow (ob+1) 3 1 V8 k xs
 Ai:B=false->w.ownsRow (ob+1) 81 3 Qo k ys
 obk:C=false->w.heap[ob]?=some (ar (bc Qo) 119 (0,0))
 XR:w.heap[mb]?=some (ar mc 81 (0,0))
 below:Below ob wo w
 size:ob+1<=w.heap.size
section
variable{ob mb:Nat}{bc:ai->Array ai}{V8 Qo:ai}{k:Nat}{xs ys:List ai}{mc:Array ai}{wo w1 w2:ak}{A B C A' B' C':Bool}
theorem Oi.next(hA:A'=false->A=false)(hB:B'=false->B=false)(hC:C'=false->C=false)(h:Oi ob mb bc V8 Qo k xs ys mc wo A B C w1)(hb:Bw w1 w2):Oi ob mb bc V8 Qo k xs ys mc wo A' B' C' w2:=
 ⟨fun e=>a8 (h.Kc (hA e)) hb,fun e=>a8 (h.Ai (hB e)) hb,fun e=>(hb.block _ (by have:=h.size;omega)).trans (h.obk (hC e)),(hb.block _ (ag.1 h.XR).1).trans h.XR,h.below.trans (hb.mono (by have:=h.size;omega)),aG h.size hb.size⟩
theorem Oi.akM(h:Oi ob mb bc V8 Qo k xs ys mc wo A B C w1)(hA:A=false)(g:w1.grownBy w2 V8.ownBlock)(hB:B'=B)(hC:C'=C):Oi ob mb bc V8 Qo k xs ys mc wo true B' C' w2:=by
 subst hB;subst hC;have h8:=h.Kc hA;have hm:=(ag.1 h.XR).1;refine⟨fun e=>(by cases e),fun e=>dY (h.Ai e) fun q hq=>g.block q ((h.Ai e).lt q hq).2 (su (h.Ai e) h8 dC hq),fun e=>(g.block ob (by have:=h.size;omega) fun hq=>?_).trans (h.obk e),(g.block mb hm (gF h8 h.XR dC)).trans h.XR,h.below.grown g (by have:=h.size;omega) fun q hq=>by have:=(h8.lt q hq).1;omega,aG h.size g.size⟩;have:=(h8.lt ob hq.symm).1;omega
theorem Oi.agL(h:Oi ob mb bc V8 Qo k xs ys mc wo A B C w1)(hB:B=false)(g:w1.grownBy w2 Qo.ownBlock)(hm:some mb≠Qo.ownBlock)(hA:A'=A)(hC:C'=C):Oi ob mb bc V8 Qo k xs ys mc wo A' true C' w2:=by
 subst hA;subst hC;have h14:=h.Ai hB;have VT:=(ag.1 h.XR).1;refine⟨fun e=>dY (h.Kc e) fun q hq=>g.block q ((h.Kc e).lt q hq).2 (su (h.Kc e) h14 dC hq),fun e=>(by cases e),fun e=>(g.block ob (by have:=h.size;omega) fun hq=>?_).trans (h.obk e),(g.block mb VT hm).trans h.XR,h.below.grown g (by have:=h.size;omega) fun q hq=>by have:=(h14.lt q hq).1;omega,aG h.size g.size⟩;have:=(h14.lt ob hq.symm).1;omega
theorem Oi.drew(h:Oi ob mb bc V8 Qo k xs ys mc wo A B C w1):Oi ob mb bc V8 Qo k xs ys mc wo A B C w1.drew:=⟨h.Kc,h.Ai,h.obk,h.XR,h.below.drew,h.size⟩
theorem Xl{w:ak}{a b:Nat}{x y:Array ai}{t u:aV}(h1:w.heap[a]?=some (ar x t (0,0)))(h2:w.heap[b]?=some (ar y u (0,0)))(h:t≠u):a≠b:=by
 rintro rfl;rw[h1] at h2;cases h2;exact h rfl
theorem Oi.put(h:Oi ob mb bc V8 Qo k xs ys mc wo A B C w1)(hC:C=false)(hm:mb≠ob)(u:ai)(hA:A'=A)(hB:B'=B):Oi ob mb bc V8 Qo k xs ys mc wo A' B' true (w1.setCell ⟨ob,14,none⟩ u):=by
 subst hA;subst hB;have ho:=h.obk hC;exact⟨fun e=>di (h.Kc e) ho dC,fun e=>di (h.Ai e) ho dC,fun e=>(by cases e),(aW _ _ _ _ hm).trans h.XR,h.below.setCell (p:=⟨ob,14,none⟩) (aJ _) _,by simpa using h.size⟩
end
def XO(b:BB)(bn aL az:ai)(ml:List Mn)(ss:List Int)(ms:List Mk)(w:ak)(hL:Laid w)(hB:dh b bn aL az ml ss ms w) :
  bm aq 50 #[aO (b.cells bn aL az)] w fun e w'=>∃v,e=aU (cR #[v,ah af 0])/\Reads w' v (rJ b ml ss ms).length ((rJ b ml ss ms).map (ax af))/\Bw w w':=by
 have dp:=hB.ok;have hk3:=hB.lK.len;obtain⟨i0,hi,hz0,hz1,hz2⟩:=gQ info3;obtain⟨i1,Bv,MT,hy1,hy2⟩:=gQ KB;obtain⟨i2,Zg,hx0,hx1,hx2⟩:=gQ abE;obtain⟨pm,cm,rfl,_⟩:=aR hB.rm;obtain⟨pn,cn,rfl,_⟩:=aR hB.rs;obtain⟨pk,ck,rfl,_⟩:=aR hB.rk;have b1:Bw w (w.alloc (ar (b.sl pm ml.length cm pn ss.length cn pk ms.length ck) 28)):=dF;have hk:=aw w (ar (b.sl pm ml.length cm pn ss.length cn pk ms.length ck) 28);have uL:=aj (fh b _ _ _ ml ss ms _ (hL.below b1) (hB.below b1))
 have ZZ:nz (∀(k:ai) (l:List Mk) (r:Bool),decide (bu b ml ss l≠[])=r->lN b l->∀W,Bw w W->Reads W k l.length (ep l)->bm aq 119 #[aO (b.cells (ae pm ml.length cm) (ae pn ss.length cn) k)] W fun e w'=>e=aU (aH r)/\Bw W w'):=
  aj fun k l r hr hl W hW hk=>by
   have:=LV b _ _ k ml ss l W ⟨hB.ok,hB.iF,hB.ng,hl,hB.rm.below hW,hB.rs.below hW,hk⟩;rw[hr] at this;exact this
 obtain⟨r,hr⟩:∃r,decide (bu b ml ss ms≠[])=r:=⟨_,rfl⟩
 have HR0:=aj hr;clear hr;have HB:=aj hB;have zQ:=aj b1;have HK:=aj hk;have HMo:=aj hB.lK;clear hL hB b1 hk;have HML:=aj (rfl:ml.length=ml.length);generalize ml.length=lm at *;generalize ss.length=ln at *;generalize hlk:ms.length=lk at *;have HLk:=aj hlk;clear hlk
 go_enter Tryz.func50,Tryz.ntmps50
 go_wp2_with (first
  |(go_at_call 71;refine uL.out.mono ?_;clear uL;rintro e w1 ⟨rfl,hb1⟩
    have rC:=(hb1.block w.heap.size sM).trans HK.out;obtain⟨x0,x1,x2,x3,x4,x5,x6,x7,x8,x9,qY,qX,r8,rT,rW⟩:=bZ rC;have HK1:=aj rC;have hw1:w.heap.size<w1.heap.size:=(ag.1 rC).1;have qp:nz (Bw w w1):=aj (zQ.out.trans (hb1.mono sM))
    clear rC hb1)
  |(go_at_call 119;refine(ZZ.out _ ms r HR0.out HMo.out _ (qp.out.alloc oM _) (HB.out.rk.below (qp.out.alloc oM _))).mono ?_;rintro e w2 ⟨rfl,hb2⟩
    have hs2:=hb2.size;simp only[eD] at hs2;have hk2:=(hb2.block w.heap.size sO).trans ((aY w1 (ar (b.sl pm lm cm pn ln cn pk lk ck) 119) _ hw1).trans HK1.out);have hx2:=(hb2.block w1.heap.size sM).trans (aw w1 (ar (b.sl pm lm cm pn ln cn pk lk ck) 119));have Iz:=aj hk2;have HX2:=aj hx2;have qz:nz (Bw w w2):=aj ((qp.out.alloc oM _).trans (hb2.mono sO));have z14:=aF hk2 14 (ae pk lk ck) rfl;have f14:=dm hk2 14
    clear hk2 hx2 hb2 x0 x1 x2 x3 x4 x5 x6 x7 x8 x9 qY qX r8 rT rW))
 .have hr1:r=true:=by assumption
  have HQ:nz (rJ b ml ss ms=[]):=aj (by have:=HR0.out;rw[hr1] at this;unfold rJ;rw[if_pos (by simpa using this)]);go_ret2;exact⟨_,rfl,by rw[HQ.out];exact bV ⟨rfl,rfl,rfl⟩,qz.out⟩
 obtain rfl:r=false:=by assumption
 have HE:nz (bu b ml ss ms=[]):=aj (by have:=HR0.out;simpa using this);obtain⟨N,hN0⟩:∃N,N=2 ^ lk:=⟨_,rfl⟩
 have hN8:N<=8:=by
  have:lk=0\/lk=1\/lk=2\/lk=3:=oM;rcases this with h|h|h|h<;>subst h<;>omega
 have hN:wrap64 (2 ^ lk)=(N:Int):=by
  have:lk=0\/lk=1\/lk=2\/lk=3:=oM;rcases this with h|h|h|h<;>subst h<;>subst hN0<;>simp[wrap64]
 have HN0:=aj hN0
 have HBk:nz (∀w9,Bw w w9->∀(k:Nat) (hk:k<ms.length),∃g off,pk=some ⟨g,off,none⟩/\w9.cell? ⟨g,off+k*3,none⟩=some (ah af ms[k].minute)/\w9.cell? ⟨g,off+k*3+1,none⟩=some (ah af ms[k].lo)/\w9.cell? ⟨g,off+k*3+2,none⟩=some (ah af ms[k].hi)):=aj fun w9 h9 k hk=>by
  rcases HB.out.rk.below h9 with⟨_,h0,_⟩|⟨g,off,cap,h0,_,_,h1⟩
  .omega
  cases h0;exact⟨g,off,rfl,xJ h1 k hk⟩
 rw[hN];clear hN hN0
 go_loopw [6,7,8,9,10,11,25,34] (fun v6 _ _ _ _ _ i _ wr=>∃(M:Nat) (rows:List VL),M<=N/\i=ah af M/\rows.map (·.2)=FE b ml ss ms M/\wr.ownsRow w.heap.size 25 1 v6 rows.length (rows.map (·.1))/\(∀r∈rows,wr.ownsRow w.heap.size 3 1 r.1 r.2.length (r.2.map (ax af)))/\wr.heap[w.heap.size]?=some (ar (b.sl pm lm cm pn ln cn pk lk ck) 28 (0,0))/\wr.heap[w1.heap.size]?=some (ar (b.sl pm lm cm pn ln cn pk lk ck) 119 (0,0))/\Bw w wr) (fun _ _ _ _ _ _ i _ _=>N-(intOf i).toNat)
 case atStart=>exact⟨0,[],fF _,sM,rfl,dw _ _ _ _,sM,Iz.out,HX2.out,qz.out⟩
 case round=>
  obtain⟨M,rows,hM,rfl,FU,MW,Rc,hkw,hxw,eE⟩:=hrel;rename ak=>wo
  by_cases hlt:M<N
  .have HRw:=aj FU;have HO6:=aj MW;have HOr:=aj Rc;have HKw:=aj hkw;have HXw:=aj hxw;have yL:=aj eE;have Lx:=eE.size;have Y2:=(ag.1 hkw).1;have hwx:=(ag.1 hxw).1;obtain⟨x0,x1,x2,x3,x4,x5,x6,x7,x8,x9,qY,qX,r8,rT,rW⟩:=bZ hxw;have g2:(wo.alloc (ar #[ah af b.room,ah af b.depth,ah af b.least,ah af b.minutes,ah af b.cI,ah af b.jP,ah af b.ey,ah af b.iC,ah af b.ll,ah af b.lm,ah af b.pl,ah af b.pm,ae pm lm cm,ae pn ln cn,ae none 0 0] 119)).heap[w.heap.size]?=some (ar (b.sl pm lm cm pn ln cn pk lk ck) 28 (0,0)):=(aY _ _ _ Y2).trans hkw;have z14:=aF g2 14 (ae pk lk ck) rfl;have akh:=dm g2 14;have hb2:Bw wo (wo.alloc (ar #[ah af b.room,ah af b.depth,ah af b.least,ah af b.minutes,ah af b.cI,ah af b.jP,ah af b.ey,ah af b.iC,ah af b.ll,ah af b.lm,ah af b.pl,ah af b.pm,ae pm lm cm,ae pn ln cn,ae none 0 0] 119)):=dF;have ho2:=aw wo (ar #[ah af b.room,ah af b.depth,ah af b.least,ah af b.minutes,ah af b.cI,ah af b.jP,ah af b.ey,ah af b.iC,ah af b.ll,ah af b.lm,ah af b.pl,ah af b.pm,ae pm lm cm,ae pn ln cn,ae none 0 0] 119);have alq:=aj hb2;have alc:=aj ho2;have ae6:(wo.alloc (ar #[ah af b.room,ah af b.depth,ah af b.least,ah af b.minutes,ah af b.cI,ah af b.jP,ah af b.ey,ah af b.iC,ah af b.ll,ah af b.lm,ah af b.pl,ah af b.pm,ae pm lm cm,ae pn ln cn,ae none 0 0] 119)).heap.size=wo.heap.size+1:=sM;clear FU MW Rc hkw hxw eE f14 g2 hb2 ho2;go_wp2
   go_loopw [8,10,11,34] (fun v8 _ _ i wr=>∃(j:Nat) (v14:ai),j<=lk/\i=ah af j/\wr.ownsRow (wo.heap.size+1) 3 1 v8 (ek j M).length ((ek j M).map fun(i:Nat)=>ax af (i:Int))/\wr.ownsRow (wo.heap.size+1) 81 3 v14 (ek j M).length (ep (nP ms (ek j M)))/\wr.heap[wo.heap.size]?=some (ar (b.cells (ae pm lm cm) (ae pn ln cn) v14) 119 (0,0))/\Bw wo wr) (fun _ _ _ i _=>lk-(intOf i).toNat)
   case atStart=>exact⟨0,ae none 0 0,fF _,sM,dw _ _ _ _,dw _ _ _ _,alc.out,alq.out⟩
   case round=>
    obtain⟨j,v14,hj,rfl,Jk,B_,XU,zN⟩:=hrel;have hqs:=zN.size;have hcl:=rI j M;have hM5:M<512:=bA hlt (aG hN8 dC)
    by_cases M6:j<lk
    .have Tm:=xR M j hM5;have KL:j<ms.length:=by rw[HLk.out];exact M6
     obtain⟨g,off,rfl,c0,c1,c2⟩:=HBk.out wr (yL.out.trans (zN.mono Lx)) j KL;obtain⟨p8,c8,rfl⟩:=bP Jk;obtain⟨U0,c14,rfl⟩:=bP B_;have Y8:=O8 ms (ek j M) j KL;have agX:=aj Jk;have XC:=aj B_;have HOj:=aj XU;have T7:=aj zN;have HPs:=aj Y8;have Ra:=(ag.1 XU).1;clear Jk B_ XU zN Y8;generalize hmk:ms[j]=mk at *;cases hb:M.testBit j
     .have e1:ek (j+1) M=ek j M:=by rw[sJ,hb];simp
      rw[hb] at Tm;have H1:=aj e1;clear e1;go_wp2;go_roundw
      case rel=>exact⟨j+1,ae U0 (ek j M).length c14,oM,sM,by rw[H1.out];exact agX.out.alloc _,by rw[H1.out];exact XC.out.alloc _,(aY _ _ _ Ra).trans HOj.out,T7.out.alloc oM _⟩
      case measure=>simp[intOf];omega
     have e1:ek (j+1) M=ek j M++[j]:=by rw[sJ,hb];simp
     rw[hb] at Tm;have H1:=aj e1;clear e1;have Ji:∃xs,((ek j M).map fun(i:Nat)=>ax af (i:Int))=xs:=⟨_,rfl⟩
     have YY:∃ys,ep (nP ms (ek j M))=ys:=⟨_,rfl⟩
     obtain⟨xs,Ji⟩:=Ji;obtain⟨ys,YY⟩:=YY;have HXs:=aj Ji;have HYs:=aj YY;generalize hk:(ek j M).length=k at *;have HKk:=aj hk;clear hk Ji YY
     have HS0:nz (Oi wo.heap.size wr.heap.size (fun v=>(b.cells (ae pm lm cm) (ae pn ln cn) v)) (ae p8 k c8) (ae U0 k c14) k xs ys mk.cells wo false false false (wr.alloc (ar mk.cells 81))):=
      aj ⟨fun _=>by have:=agX.out.alloc (ar mk.cells 81);rw[HXs.out] at this;exact this,fun _=>by have:=XC.out.alloc (ar mk.cells 81);rw[HYs.out] at this;exact this,fun _=>(aY wr (ar mk.cells 81) _ Ra).trans HOj.out,aw _ _,T7.out.alloc oM _,sO⟩
     have aft:some wr.heap.size≠(ae U0 k c14:ai).ownBlock:=fun h=>by
      have:=(XC.out.lt _ h.symm).2;omega
     have ai8:wr.heap.size≠wo.heap.size:=oM;go_wp2
     refine Ph.qZ (late:=[(10,8,ae p8 k c8)]) (hlate:=⟨⟨rfl,rfl⟩,trivial⟩) kQ [
     pV (ae p8 k c8),
      pV (ah af j),
      fun v ds w9=>∃q,v=ae (some ⟨q,0,none⟩) 1 1/\w9.heap[q]?=some (ar #[ah af j] 3 (0,0))/\some q≠(ae p8 k c8:ai).ownBlock,
      fun v ds w9=>∃p c,v=ae p (k+1) c/\w9.ownsRow (wo.heap.size+1) 3 1 v (k+1) (xs++[ah af j]),
      pV (fP (some ⟨wo.heap.size,0,none⟩)),
      pV (fP (some ⟨wo.heap.size,14,none⟩)),
      pV (ae U0 k c14),
      pV (aO mk.cells),
      fun v ds w9=>∃q,v=ae (some ⟨q,0,none⟩) 1 1/\w9.heap[q]?=some (ar mk.cells 81 (0,0))/\some q≠(ae U0 k c14:ai).ownBlock,
      fun v ds w9=>∃p c,v=ae p (k+1) c/\w9.ownsRow (wo.heap.size+1) 81 3 v (k+1) (ys++mk.cells.toList),
      fun v ds w9=>∃p c,v=ae p (k+1) c/\w9.ownsRow (wo.heap.size+1) 3 1 v (k+1) (xs++[ah af j]),
      pV (fP (some ⟨wo.heap.size,0,none⟩)),
      pV (fP (some ⟨wo.heap.size,14,none⟩)),
      fun v ds w9=>∃x,ds[1]?=some x/\w9.heap[wo.heap.size]?=some (ar (b.cells (ae pm lm cm) (ae pn ln cn) x) 119 (0,0))]
      (fun L w9=>Oi wo.heap.size wr.heap.size (fun v=>(b.cells (ae pm lm cm) (ae pn ln cn) v)) (ae p8 k c8) (ae U0 k c14) k xs ys mk.cells wo (L 3) (L 9) (L 13) w9) [(9,pv wo.heap.size 0),(10,ah af j),(11,pv wr.heap.size 0)] kQ ?rst (fun L L2 w1 w2 Uf h hb=>h.next (Uf 3) (Uf 9) (Uf 13) hb) (HS0.out.drew) ⟨rfl,rfl,rfl,trivial⟩ ?reach ?rfin
     case rst=>
      refine⟨Ph.sV,Ph.sV,?_,?_,Ph.sV,Ph.sV,Ph.sV,Ph.sV,?_,?_,?_,Ph.sV,Ph.sV,?_,trivial⟩
      .rintro v ds L w1 w2 hS ⟨q,h1,h2,h3⟩ hb;exact⟨q,h1,(hb.block _ (ag.1 h2).1).trans h2,h3⟩
      .rintro v ds L w1 w2 hS ⟨p,c,h1,h2⟩ hb;exact⟨p,c,h1,a8 h2 hb⟩
      .rintro v ds L w1 w2 hS ⟨q,h1,h2,h3⟩ hb;exact⟨q,h1,(hb.block _ (ag.1 h2).1).trans h2,h3⟩
      .rintro v ds L w1 w2 hS ⟨p,c,h1,h2⟩ hb;exact⟨p,c,h1,a8 h2 hb⟩
      .rintro v ds L w1 w2 hS ⟨p,c,h1,h2⟩ hb;exact⟨p,c,h1,a8 h2 hb⟩
      rintro v ds L w1 w2 hS ⟨x,h1,h2⟩ hb;exact⟨x,h1,(hb.block _ (ag.1 h2).1).trans h2⟩
     case reach=>
      refine⟨?_,?_,?_,?_,?_,?_,?_,?_,?_,?_,?_,?_,?_,?_,trivial⟩<;>rintro Lf ev w1 hn nG hS hc hg hf ⟨b9,Ov,ZK,hlt⟩ hd
      .have b8:=hlt.1 (hn 10 kQ);exact Ph.t9
      .exact Ph.t9
      .have d1:ev (aD 45)=_:=hd.1 rfl;refine yN (v:=ae (some ⟨w1.heap.size,0,none⟩) 1 1) (w':=w1.alloc (ar #[ah af j] 3)) ?_ ⟨⟨_,rfl,aw _ _,fun h=>absurd ((hS.Kc (hn 3 kQ)).lt _ h.symm).2 (Nat.lt_irrefl _)⟩,bV dF⟩;go_simp
      .have d0:ev (aD 44)=_:=hd.1 rfl;obtain⟨q,e46,hq1,Uc⟩:=hd.2.1 rfl;replace e46:ev (aD 46)=_:=e46;have hown:=hS.Kc nG;refine Yields.mC (aD 44) (aD 46) 25 rfl (wo.heap.size+1) 3 i0 (ah af 0) 1 8 dt hi hz0 hz1 hz2 rfl dC (ae p8 k c8) k _ d0 hown ⟨q,0,none⟩ 1 1 [ah af j] e46 rfl ?_ (by simp[bJ]) (by unfold gP;omega) oM hS.size ?_
       .intro n u hn;have h5:=aF hq1 n u (by simpa using hn);have e:(⟨q,0,none⟩:dc).add n=⟨q,n,none⟩:=by cases n<;>simp[jh]
        rw[e];exact h5
       intro v' w' hown' hgrow hnil;obtain⟨p',c',rfl⟩:=bP hown';refine⟨⟨p',c',rfl,hown'⟩,.inr ⟨hS.akM nG hgrow (by simp[Ph.upd]) (by simp[Ph.upd]),?_⟩⟩;intro t u ds hj hL hp
       match t,hp with
       |0,hp|1,hp=>exact hp
       |2,⟨q2,h1,h2,h3⟩=>exact⟨q2,h1,(hgrow.block q2 (ag.1 h2).1 h3).trans h2,h3⟩
       |3,_=>exact(hj rfl).elim
       |4,hp|5,hp|6,hp|7,hp=>exact hp
       |8,⟨q2,h1,h2,h3⟩=>exact⟨q2,h1,(hgrow.block q2 (ag.1 h2).1 (gF hown h2 dC)).trans h2,h3⟩
       |9,_=>rw[hn 9 kQ] at hL;cases hL
       |10,_=>rw[hn 10 kQ] at hL;cases hL
       |11,hp|12,hp=>exact hp
       |13,_=>rw[hn 13 kQ] at hL;cases hL
       |t+14,_=>trivial
      .exact Ph.t9
      .have d4:ev (aD 48)=_:=hd.1 rfl;exact Ph.t9
      .have d5:ev (aD 49)=_:=hd.1 rfl;have aqQ:=aF (hS.obk (hn 13 kQ)) 14 (ae U0 k c14) rfl;exact Ph.t9
      .refine Lag.Yields.pD 81 _ rfl _ ZK 81 _ (0,0) _ hS.XR Tryz.underlying81 rfl kQ ⟨rfl,bV (ay _ _)⟩
      .have d7:ev (aD 51)=_:=hd.1 rfl;refine yN (v:=ae (some ⟨w1.heap.size,0,none⟩) 1 1) (w':=w1.alloc (ar mk.cells 81)) ?_ ⟨⟨_,rfl,aw _ _,fun h=>absurd ((hS.Ai (hn 9 kQ)).lt _ h.symm).2 (Nat.lt_irrefl _)⟩,bV dF⟩;go_simp
      .have d6:ev (aD 50)=_:=hd.1 rfl;obtain⟨q,e52,hq1,Uc⟩:=hd.2.1 rfl;replace e52:ev (aD 52)=_:=e52;have hown:=hS.Ai nG;refine Yields.mC (aD 50) (aD 52) 26 rfl (wo.heap.size+1) 81 i1 (aO #[ah af 0,ah af 0,ah af 0]) 3 24 CL Bv MT hy1 hy2 rfl dC (ae U0 k c14) k _ d6 hown ⟨q,0,none⟩ 1 1 mk.cells.toList e52 rfl ?_ (by simp[bJ]) (by unfold gP;omega) oM hS.size ?_
       .intro n u hn;have h5:=aF hq1 n u (by simpa using hn);have e:(⟨q,0,none⟩:dc).add n=⟨q,n,none⟩:=by cases n<;>simp[jh]
        rw[e];exact h5
       intro v' w' hown' hgrow hnil;obtain⟨p',c',rfl⟩:=bP hown';refine⟨⟨p',c',rfl,hown'⟩,.inr ⟨hS.agL nG hgrow aft (by simp[Ph.upd]) (by simp[Ph.upd]),?_⟩⟩;intro t u ds hj hL hp
       match t,hp with
       |0,hp|1,hp=>exact hp
       |2,⟨q2,h1,h2,h3⟩=>exact⟨q2,h1,(hgrow.block q2 (ag.1 h2).1 (gF hown h2 dC)).trans h2,h3⟩
       |3,⟨p,c,h1,h2⟩=>exact⟨p,c,h1,dY h2 fun g hg=>hgrow.block g (h2.lt g hg).2 (su h2 hown dC hg)⟩
       |4,hp|5,hp|6,hp|7,hp=>exact hp
       |8,⟨q2,h1,h2,h3⟩=>exact⟨q2,h1,(hgrow.block q2 (ag.1 h2).1 h3).trans h2,h3⟩
       |9,_=>exact(hj rfl).elim
       |10,_=>rw[hn 10 kQ] at hL;cases hL
       |11,hp|12,hp=>exact hp
       |13,_=>rw[hn 13 kQ] at hL;cases hL
       |t+14,_=>trivial
      .have d3:∃p c,(ev (aD 47))=ae p (k+1) c/\w1.ownsRow (wo.heap.size+1) 3 1 (ev (aD 47)) (k+1) (xs++[ah af j]):=hd.1 rfl;obtain⟨p,c,h1,h2⟩:=d3;refine yN (v:=ev (aD 47)) (w':=w1) rfl ⟨⟨p,c,h1,h2⟩,bV (ay _ _)⟩
      .exact Ph.t9
      .have d11:ev (aD 54)=_:=hd.1 rfl;exact Ph.t9
      have d12:ev (aD 55)=_:=hd.1 rfl;have d9:∃p c,(ev (aD 53))=ae p (k+1) c/\w1.ownsRow (wo.heap.size+1) 81 3 (ev (aD 53)) (k+1) (ys++mk.cells.toList):=hd.2.1 rfl;obtain⟨p,c,h1,h2⟩:=d9;have nW:=hS.obk nG;have c1:=aF nW 14 (ae U0 k c14) rfl;have f1:=dm nW 14;refine yva (w':=w1.setCell ⟨wo.heap.size,14,none⟩ (ev (aD 53))) ?_ ⟨⟨_,rfl,dn _ nW⟩,.inr ⟨hS.put nG ai8 (ev (aD 53)) (by simp[Ph.upd]) (by simp[Ph.upd]),?_⟩⟩
      .rw[h1];go_simp
      .intro t u ds hj hL hp
       match t,hp with
       |0,hp|1,hp=>exact hp
       |2,⟨q2,g1,g2,g3⟩=>exact⟨q2,g1,(aW _ _ _ _ (Xl g2 nW dC)).trans g2,g3⟩
       |3,⟨p2,c2,g1,g2⟩=>exact⟨p2,c2,g1,di g2 nW dC⟩
       |4,hp|5,hp|6,hp|7,hp=>exact hp
       |8,⟨q2,g1,g2,g3⟩=>exact⟨q2,g1,(aW _ _ _ _ (Xl g2 nW dC)).trans g2,g3⟩
       |9,⟨p2,c2,g1,g2⟩=>exact⟨p2,c2,g1,di g2 nW dC⟩
       |10,⟨p2,c2,g1,g2⟩=>exact⟨p2,c2,g1,di g2 nW dC⟩
       |11,hp|12,hp=>exact hp
       |13,_=>exact(hj rfl).elim
       |t+14,_=>trivial
     case rfin=>
      intro a3 w3 hR;have hS:=hR.s;have e9:∃p c,(a3.tmps.getD 53 au)=ae p (k+1) c/\w3.ownsRow (wo.heap.size+1) 81 3 (a3.tmps.getD 53 au) (k+1) (ys++mk.cells.toList):=hR.val 9;have Eh:∃p c,(a3.tmps.getD 8 au)=ae p (k+1) c/\w3.ownsRow (wo.heap.size+1) 3 1 (a3.tmps.getD 8 au) (k+1) (xs++[ah af j]):=hR.val 10;have e13:∃x,([a3.tmps.getD 55 au,a3.tmps.getD 53 au,a3.tmps.getD 8 au,a3.tmps.getD 44 au,a3.tmps.getD 45 au,a3.tmps.getD 46 au,a3.tmps.getD 47 au,a3.tmps.getD 48 au,a3.tmps.getD 49 au,a3.tmps.getD 50 au,a3.tmps.getD 51 au,a3.tmps.getD 52 au,a3.tmps.getD 53 au,a3.tmps.getD 8 au]:List ai)[1]?=some x/\w3.heap[wo.heap.size]?=some (ar (b.cells (ae pm lm cm) (ae pn ln cn) x) 119 (0,0)):=hR.val 13;have ha:=hR.lits 71 rfl;simp only[aP,cJ,oh] at ha;rw[hR.kp 0,hR.kp 1,hR.kp 2,hR.kp 3,hR.kp 4,hR.kp 5,hR.kp 6,hR.kp 7,hR.kp 9,hR.kp 12,hR.kp 13,hR.kp 14,hR.kp 15,hR.kp 16,hR.kp 17,hR.kp 18,hR.kp 19,hR.kp 20,hR.kp 21,hR.kp 22,hR.kp 23,hR.kp 24,hR.kp 25,hR.kp 26,hR.kp 27,hR.kp 28,hR.kp 29,hR.kp 30,hR.kp 31,hR.kp 32,hR.kp 33,hR.kp 34,hR.kp 57,hR.kp 58,hR.kp 59,hR.kp 60,hR.kp 61,hR.kp 62,hR.kp 63,hR.kp 64,hR.kp 65,hR.kp 66,hR.kp 67,hR.kp 68,hR.kp 69,hR.kp 70] at ha;simp only[lr,gI,gH] at ha;clear hR;obtain⟨p8n,c8n,e8,ho8⟩:=Eh;obtain⟨p53,c53,e53,abU⟩:=e9;obtain⟨x,ex,nW⟩:=e13;have ex2:a3.tmps.getD 53 au=x:=aT ex;rw[e53] at ex2 abU;subst ex2;rw[e8] at ho8;rw[e8] at ha;generalize a3.tmps.getD=zz at ha;have qz:=aj hS.below;have HOb:=aj nW;have HN8:=aj ho8;have alk:=aj abU;clear e8 e53 ex ho8 abU nW hS;subst ha;go_wp2;go_roundw
      case rel=>
       refine⟨j+1,ae p53 (k+1) c53,oM,sM,?_,?_,HOb.out,qz.out⟩
       .rw[H1.out,qK,d_,HKk.out,HXs.out];exact HN8.out
       rw[H1.out,qK,HKk.out,HPs.out,OW,HYs.out];exact alk.out
      case measure=>simp[intOf];omega
    obtain rfl:lk=j:=oM;rename ak=>wc;obtain⟨p8,c8,rfl⟩:=bP Jk;obtain⟨U0,c14,rfl⟩:=bP B_;obtain⟨p6,c6,rfl⟩:=bP HO6.out;have hpl:(nP ms (ek lk M)).length=(ek lk M).length:=Mq ms _ fun i hi=>by rw[HLk.out];simp[ek] at hi;exact hi.1
    have Zb:=UZ HMo.out (n:=lk) (mask:=M) (by rw[HLk.out];exact aJ _)
    have hrk:Reads wc (ae U0 (ek lk M).length c14) (nP ms (ek lk M)).length (ep (nP ms (ek lk M))):=by
     rw[hpl];exact Reads.gG B_ oM (by rw[qN,hpl];omega)
    have hwc:Bw w wc:=yL.out.trans (zN.mono Lx);obtain⟨r2,hr2⟩:∃r2,decide (bu b ml ss (nP ms (ek lk M))≠[])=r2:=⟨_,rfl⟩
    have hso:=ZZ.out _ _ r2 hr2 Zb wc hwc hrk;have afM:m9 b ml ss ms M = !r2:=by unfold m9;rw[HLk.out,<-hr2];simp
    have Y_:=SQ b ml ss ms M;rw[afM] at Y_;have hcI:vJ ms.length M=(ek lk M).map fun(i:Nat)=>(i:Int):=by rw[HLk.out];rfl
    rw[hcI] at Y_;obtain⟨y0,y1,y2,y3,y4,y5,y6,y7,y8,y9,Ow,Qz,Qy,Qx,LD⟩:=bZ XU;have VI:wc.ownsRow w.heap.size 3 1 (ae p8 (ek lk M).length c8) (ek lk M).length ((ek lk M).map fun(i:Nat)=>ax af (i:Int)):=ownsRow_base Jk oM;have agU:=aj hso;have HOd:=aj Y_;have HO8:=aj VI;have HWc:=aj hwc;have T7:=aj zN
    have hrl:rows.length<=M:=by
     have h1:=congrArg List.length HRw.out;have h2:=List.length_filter_le (m9 b ml ss ms) (aP M);unfold FE at h1;simp at h1 h2;omega
    clear hso Y_ VI Jk B_ hwc zN XU Zb hrk hpl hcI afM x0 x1 x2 x3 x4 x5 x6 x7 x8 x9 qY qX r8 rT rW z14 akh;generalize ek lk M=C at *
    go_wp2_with (first
     |(go_at_call 119;refine agU.out.mono ?_;clear agU;rintro e w5 ⟨rfl,hb5⟩
       have HB5:=aj hb5;have hs5:=hb5.size;clear hb5 y0 y1 y2 y3 y4 y5 y6 y7 y8 y9 Ow Qz Qy Qx LD)
     |(at_builtin
       have hQ1:∀(i:Nat) (u:ai),([ae p8 C.length c8]:List ai)[i]?=some u->(w5.alloc (ar #[ae p8 C.length c8] 25)).cell? ((⟨w5.heap.size,0,none⟩:dc).add i)=some u:=fun i u hj=>by
        match i,hj with
        |0,hj=>simp at hj;subst hj;simp[jh]
       have KE:Bw wo w5:=T7.out.trans (HB5.out.mono oM);have acw:w5.ownsRow w.heap.size 25 1 (ae p6 rows.length c6) rows.length (rows.map (·.1)):=a8 HO6.out KE;have Z3:=aj acw;refine iY _ rfl _ _ 116 rfl w.heap.size 25 i2 (ae none 0 0) 1 24 Tryz.underlying116 Zg hx0 hx1 hx2 rfl dC (ae p6 rows.length c6) rows.length (rows.map (·.1)) rfl (acw.alloc _) ⟨w5.heap.size,0,none⟩ 1 1 [ae p8 C.length c8] rfl rfl hQ1 (by simp[bJ]) (by unfold gP;omega) oM sO ?_;intro v' w7 VJ hgrow hnil
       obtain⟨p7,c7,rfl⟩:=bP VJ))
    .have e2:r2=false:=by simp_all
     subst e2;have Dy:∀q,(ae p6 rows.length c6:ai).ownBlock=some q->w.heap.size<=q:=fun q hq=>(Z3.out.lt q hq).1;have hb7:Bw w w7:=((yL.out.trans (KE.mono Lx)).alloc oM _).grown hgrow sO Dy;have hn5:∀q,q<w5.heap.size->some q≠(ae p6 rows.length c6:ai).ownBlock->w7.heap[q]?=w5.heap[q]?:=fun q hq hne=>(hgrow.block q sO hne).trans (aY _ _ _ hq);have jx:∀ {base size v n xs},w5.ownsRow base 3 size v n xs->w7.ownsRow base 3 size v n xs:=fun h=>dY h fun q hq=>hn5 q (h.lt q hq).2 (su h Z3.out dC hq);have hk5:=(KE.block _ Y2).trans HKw.out;have hx5:=(KE.block _ hwx).trans HXw.out;have hk7:=(hn5 _ oM (gF Z3.out hk5 dC)).trans hk5;have hx7:=(hn5 _ oM (gF Z3.out hx5 dC)).trans hx5
     have HR7:nz (∀r∈rows++[((ae p8 C.length c8:ai),C.map fun(i:Nat)=>(i:Int))],w7.ownsRow w.heap.size 3 1 r.1 r.2.length (r.2.map (ax af))):=aj fun r hr=>by
      rcases List.mem_append.1 hr with h|h
      .exact jx (a8 (HOr.out r h) KE)
      rw[List.mem_singleton] at h;subst h;simp only[eJ,List.map_map];exact jx (a8 HO8.out HB5.out)
     have HB7:=aj hb7;have HK7:=aj hk7;have HX7:=aj hx7;have HO7:=aj VJ;clear hb7 hn5 jx hk5 hx5 hk7 hx7 VJ hgrow hnil hQ1 acw KE Dy;go_roundw
     case rel=>
      refine⟨M+1,rows++[((ae p8 C.length c8:ai),C.map fun(i:Nat)=>(i:Int))],oM,sM,?_,?_,HR7.out,HK7.out,HX7.out,HB7.out⟩
      .rw[HOd.out,d_,HRw.out];rfl
      rw[qK,d_];exact HO7.out
     case measure=>simp[intOf];omega
    have e2:r2=true:=by simp_all
    subst e2;have KE:Bw wo w5:=T7.out.trans (HB5.out.mono oM);have HW5:=aj KE;clear KE;go_roundw
    case rel=>
     refine⟨M+1,rows,oM,sM,?_,a8 HO6.out HW5.out,fun r hr=>a8 (HOr.out r hr) HW5.out,(HW5.out.block _ Y2).trans HKw.out,(HW5.out.block _ hwx).trans HXw.out,yL.out.trans (HW5.out.mono Lx)⟩;rw[HOd.out,HRw.out];simp
    case measure=>simp[intOf];omega
  obtain rfl:N=M:=oM;rename ak=>wz;have hz:=eE.size
  obtain⟨f,rest,rfl⟩:∃f rest,rows=f::rest:=by
   cases rows with
   |nil=>
    have h1:=abo HE.out;rw[HLk.out,<-HN0.out] at h1;exact absurd FU.symm h1
   |cons f rest=>exact⟨f,rest,rfl⟩
  have hfr:∀r∈f::rest,tM wz r:=fun r hr=>Reads.gG (Rc r hr) (by
   have h1:r.2∈FE b ml ss ms N:=by rw[<-FU];exact List.mem_map_of_mem hr
   unfold FE at h1;obtain⟨m,_,h2⟩:=List.mem_map.1 h1;rw[<-h2];unfold vJ;have:=rI ms.length m;rw[eJ,HLk.out] at *
   omega) sM
  have hcl:rJ b ml ss ms=(oz f rest).2:=by
   unfold rJ;rw[if_neg (by simp[HE.out]),HLk.out,<-HN0.out,<-FU,Jy];rfl
  have Tn:tM wz (oz f rest):=hfr _ (by
   rcases uH rest f with h|h
   .rw[h];simp
   exact bW _ h)
  have hrl:rest.length+1<=N:=by
   have h1:=congrArg List.length FU;have h2:=List.length_filter_le (m9 b ml ss ms) (aP N);unfold FE at h1;simp at h1 h2;omega
  obtain⟨go,cap,rfl,hgo,H9,hcell⟩:∃go cap,u6=ae (some ⟨go,0,none⟩) (rest.length+1) cap/\go<wz.heap.size/\rest.length+1<=cap/\∀j u,((f::rest).map (·.1))[j]?=some u->wz.cell? ⟨go,0+j,none⟩=some u:=by
   have h1:=Reads.gG MW sO sM;rcases MW.2 with⟨_,h0⟩|⟨g,cap,cur,rfl,_,hg,_⟩
   .simp at h0
   rcases h1 with⟨h2,_⟩|⟨g2,off,ac9,h2,h3,h4,h5⟩
   .cases h2
   cases h2;exact⟨g,cap,rfl,h4,h3.2,h5⟩
  have HC0:nz (∀w,Bw wz w->w.cell? ⟨go,0,none⟩=some f.1):=aj fun w hb=>(hb.cell (p:=⟨go,0,none⟩) hgo).trans (hcell 0 _ rfl)
  have XB:nz (∀w,Bw wz w->Reads w (ae (if cap=1 then some ⟨go,0,none⟩ else some ⟨go,1,none⟩) rest.length (cap-1)) rest.length (rest.map (·.1))):=aj fun w hb=>
   if h1:cap=1 then by
    have h0:rest=[]:=a_ oM;subst h0;rw[if_pos h1];exact .inr ⟨go,0,cap-1,rfl,⟨sM,sM⟩,bA hgo hb.size,fun j u hj=>by simp at hj⟩
   else by
   rw[if_neg h1]
   exact .inr ⟨go,1,cap-1,rfl,oM,bA hgo hb.size,fun j u hj=>(hb.cell (p:=⟨go,_,none⟩) hgo).trans (by
    have:=hcell (j+1) u (by simpa using hj)
    rwa [show 0+(j+1)=1+j by omega] at this)⟩
  have HBe:nz (∀W,Bw wz W->bm aq 120 #[.func (.func 121) #[] #[],f.1,ae (if cap=1 then some ⟨go,0,none⟩ else some ⟨go,1,none⟩) rest.length (cap-1)] W fun e w'=>e=aU (oz f rest).1/\Bw W w'):=aj fun W hb=>
   TS f rest _ W ((hfr f sM).below hb) (fun r hr=>(hfr r (bW _ hr)).below hb) (XB.out W hb)
  obtain⟨pf,cf,hfv,_⟩:=aR (hfr f sM);obtain⟨pb,cb,XX,_⟩:=aR Tn
  have HBm:nz (∀W,Bw wz W->Reads W (ae pb (rJ b ml ss ms).length cb) (rJ b ml ss ms).length ((rJ b ml ss ms).map (ax af))):=aj fun W hb=>by
   have:=Tn.below hb;unfold tM at this;rw[XX] at this;rw[hcl];exact this
  rw[hfv] at HC0 HBe;rw[XX,<-hcl] at HBe;generalize hcn:(rJ b ml ss ms).length=cn at *;have HCn:=aj hcn;clear hcn;generalize f.2.length=fn at *;have HNz:=aj eE;clear FU MW Rc hkw hxw eE hfr hcl Tn hcell hfv XX XB;generalize rest.length=Rn at *;have l2:(1:Int)<=(Rn:Int)+1:=oM;go_wp2
  refine cy kQ [
  pV (ae (some ⟨go,0,none⟩) (Rn+1) cap),
   pV (pv go 0),
   pV (ae pf fn cf),
   pV (ae (some ⟨go,0,none⟩) (Rn+1) cap),
   pV (ae (if cap=1 then some ⟨go,0,none⟩ else some ⟨go,1,none⟩) Rn (cap-1)),
   pV (ae pb cn cb),
   pV (ae pb cn cb),
   pV (ah af 0)]
   (fun w9=>Bw wz w9) [(6,ae (some ⟨go,0,none⟩) (Rn+1) cap)] kQ ?rst (fun w1 w2 h hb=>h.trans (hb.mono h.size)) ((ay _ _).drew) ⟨rfl,trivial⟩ ?reach ?rfin
  case rst=>
   refine⟨sV,sV,sV,sV,sV,sV,sV,sV,trivial⟩
  case reach=>
   refine⟨?_,?_,?_,?_,?_,?_,?_,?_,trivial⟩<;>rintro ev w1 hS hc hg hf ⟨b6,-⟩ hd
   .exact tV
   .have d0:ev (aD 65)=_:=hd.1 rfl;exact tV
   .have d1:ev (aD 66)=_:=hd.1 rfl;have z:=HC0.out w1 hS;exact tV
   .exact tV
   .have d3:ev (aD 68)=_:=hd.1 rfl;exact tV
   .have d2:ev (aD 67)=_:=hd.1 rfl;have d4:ev (aD 69)=_:=hd.2.1 rfl;refine yc (HBe.out w1 hS) ?_ fun _=>rfl;go_simp
   .have d5:ev (aD 70)=_:=hd.1 rfl;exact tV
   exact tV
  case rfin=>
   intro a3 w3 hR;have hS:=hR.s;have e6:a3.tmps.getD 2 au=_:=hR.val 6;have e7:a3.tmps.getD 3 au=_:=hR.val 7;have ha:=hR.lits 71 rfl;simp only[aP,cJ,oh] at ha;clear hR;rw[e6,e7] at ha;generalize a3.tmps.getD=zz at ha;have qz:=aj hS;clear e6 e7 hS;subst ha;go_wp2;go_ret2;exact⟨_,rfl,by rw[HCn.out];exact HBm.out _ qz.out,HNz.out.trans (qz.out.mono oM)⟩
def Ey(b:BB)(bn aL az:ai)(ml:List Mn)(ss:List Int)(ms:List Mk)(w:ak)(hL:Laid w)(hB:dh b bn aL az ml ss ms w)(hne:bu b ml ss ms≠[])(cp:Nat)
  (hown:∀W,Bw w W->bm aq 164 #[aO (b.cells bn aL az),pv cp 0] W fun e W'=>e=aU (ah af 0)/\Bw W W') :
  bm aq 103 #[aO (b.cells bn aL az),.func (.func 164) #[] #[pv cp 0]] w fun e w'=>∃v,e=aU (cR #[aO (b.open bn aL az v),ah af 0])/\iE w' w.heap.size v (bu b ml ss ms)/\Bw w w':=by
 have uL:nz (∀W,Bw w W->bm aq 71 #[aO (b.cells bn aL az)] W fun e w'=>e=aU (ah af 0)/\Bw W w'):=aj fun W hb=>fh b bn aL az ml ss ms W (hL.below hb) (hB.below hb);have XG:nz (∀W,Bw w W->bm aq 116 #[.func (.func 117) #[aO (b.cells bn aL az)] #[]] W fun e w'=>∃v,e=aU v/\iE w' W.heap.size v (bu b ml ss ms)/\Bw W w'):=aj fun W hb=>pY b bn aL az ml ss ms W (hB.below hb);have Og:=aj hown;obtain⟨pm,cm,rfl,_⟩:=aR hB.rm;obtain⟨pn,cn,rfl,_⟩:=aR hB.rs;obtain⟨pk,ck,rfl,_⟩:=aR hB.rk;have kY:0<(bu b ml ss ms).length:=dB.2 hne;clear hL hB hne hown;generalize bu b ml ss ms=all at *;generalize ml.length=lm at *;generalize ss.length=ln at *;generalize ms.length=lk at *;have b0:Bw w ((w.alloc (ar (b.sl pm lm cm pn ln cn pk lk ck) 28)).alloc (ar iM 122)):=dF.alloc sM _;have HT:nz (Two w (b.sl pm lm cm pn ln cn pk lk ck) 28 iM 122 ((w.alloc (ar (b.sl pm lm cm pn ln cn pk lk ck) 28)).alloc (ar iM 122))):=aj ⟨(Two.mk' w _ _ _ _).one,(Two.mk' w _ _ _ _).two,b0,sM⟩;have LB:=aj b0;clear b0
 go_enter Tryz.func103,Tryz.ntmps103
 go_wp2_with (first
  |(refine mS rfl 122 _ rfl _ rfl 122 _ (0,0) _ HL7.out js rfl kQ ?_)
  |(refine fY rfl 122 _ _ rfl _ _ rfl rfl 122 _ Qu.out kQ rfl (by simp[bJ]) ?_)
  |(go_at_call 71;refine(uL.out _ LB.out).mono ?_;clear uL;rintro e w1 ⟨rfl,hb1⟩
    have tO:=HT.out.next hb1;have qf:=aj tO
    obtain⟨x0,x1,x2,x3,x4,x5,x6,x7,x8,x9,qY,qX,r8,rT,rW⟩:=bZ tO.one
    clear tO hb1)
  |(go_at_call 164;refine(Og.out _ (qf.out.below.alloc (by have:=qf.out.size;omega) _)).mono ?_;clear Og;rintro e w2 ⟨rfl,hb2⟩
    have Ea:=(qf.out.next ((ay _ _).alloc (aJ _) (ar (b.open (ae pm lm cm) (ae pn ln cn) (ae pk lk ck) (ae none 0 0)) 122))).next hb2;have Iw:=aj Ea
    have hk2:=(hb2.block w1.heap.size sM).trans (aw w1 _);have Iz:=aj hk2;have hs1:=qf.out.size;have hs2:=hb2.size;obtain⟨y0,y1,y2,y3,y4,y5,y6,y7,y8,y9,Ow,Qz,Qy,Qx,LD,JL⟩:=jO hk2
    clear Ea hk2 hb2)
  |(go_at_call 116;refine(XG.out _ Iw.out.below).mono ?_;clear XG;rintro e w3 ⟨v,rfl,jA,hb3⟩
    have Hg:=Iw.out.next hb3;have RN:=aj Hg;have Oh:=aj jA
    simp only[eD] at hs2;have hk3:=(hb3.block w1.heap.size oM).trans Iz.out;have HK3:=aj hk3;have hs3:=hb3.size;clear y0 y1 y2 y3 y4 y5 y6 y7 y8 y9 Ow Qz Qy Qx LD JL;have JL:=aF hk3 15 _ rfl;have f7:=dm hk3 15;have qz:=aj hb3
    obtain⟨gv,pZ,rfl,FY⟩:∃gv pZ,v=ae (some ⟨gv,0,none⟩) all.length pZ/\w2.heap.size<=gv:=by
     rcases jA.1.2 with⟨_,h0⟩|⟨g,cap,cur,rfl,hg,_⟩
     .omega
     exact⟨g,cap,rfl,hg⟩
    have HL7:nz ((w3.setCell ⟨w1.heap.size,15,none⟩ (ae (some ⟨gv,0,none⟩) all.length pZ)).heap[w1.heap.size]?=some (ar (b.open (ae pm lm cm) (ae pn ln cn) (ae pk lk ck) (ae (some ⟨gv,0,none⟩) all.length pZ)) 122 (0,0))):=aj (dn _ hk3);have Qu:nz ((w3.setCell ⟨w1.heap.size,15,none⟩ (ae (some ⟨gv,0,none⟩) all.length pZ)).heap[w.heap.size+1]?=some (ar iM 122 (0,0))):=aj ((aW _ _ _ _ (by show w.heap.size+1≠w1.heap.size;omega)).trans Hg.two)
    clear Hg hk3 hb3 jA))
 refine bf (results_cell_tmp (g:=w.heap.size+1) rfl rfl (gY _ _ 122 122 _ (0,0) _ (cD Qu.out) js rfl kQ)) rfl ⟨_,rfl,?_,?_⟩
 .have hs1:=qf.out.size;refine(Oh.out.at_ fun g hg=>?_).base oM;have Cc:g=gv:=by simpa [jD] using hg.symm
  subst Cc;exact(setRow_other oM).trans (aW _ _ _ _ (by show g≠w1.heap.size;omega))
 have hs1:=qf.out.size;exact dx (RN.out.below.setCell (p:=⟨w1.heap.size,15,none⟩) (by show _<=w1.heap.size;omega) _) oM
def iv:List Int->List Int->Bool
 |_,[]=>false
 |[],_::_=>true
 |x::xs,y::ys=>if x<y then true else if y<x then false else iv xs ys
def KY(xs ys:List Int)(k:Nat)(h1:k<xs.length)(h2:k<ys.length):iv (xs.drop k) (ys.drop k)=if xs[k]<ys[k] then true else if ys[k]<xs[k] then false else iv (xs.drop (k+1)) (ys.drop (k+1)):=by
 rw[eh h1,eh h2];rfl
def AV:∀(xs ys:List Int),(!iv xs ys && !iv ys xs)=decide (xs=ys)
 |[],[]=>rfl
 |[],_::_=>by simp[iv]
 |_::_,[]=>by simp[iv]
 |x::xs,y::ys=>by
  have ih:=AV xs ys;unfold iv
  by_cases h1:x<y
  .have:x≠y:=oM;simp[h1,this]
  by_cases h2:y<x
  .have:x≠y:=oM;simp[h2,this]
  have:x=y:=oM;subst this;simp only[Int.lt_irrefl,if_false,List.cons.injEq,true_and];exact ih
def DL(xs ys:List Int)(v1 v2:ai)(w:ak)(h1:Reads w v1 xs.length (xs.map (ax af)))(h2:Reads w v2 ys.length (ys.map (ax af))) :
  bm aq 46 #[v1,v2] w (Rt w (aH (iv xs ys))):=by
 obtain⟨p1,c1,rfl,hb1⟩:=aR h1;obtain⟨p2,c2,rfl,hb2⟩:=aR h2
 have cell:∀ {zs:List Int} {p:Option dc} {c:Nat},Reads w (ae p zs.length c) zs.length (zs.map (ax af))->∀k (hk:k<zs.length),∃g off,p=some ⟨g,off,none⟩/\g<w.heap.size/\w.cell? ⟨g,off+k,none⟩=some (ah af zs[k]):=by
  rintro zs p c (⟨h,_⟩|⟨g,off,cap,h,_,hg,hc⟩) k hk
  .cases zs with
   |nil=>simp at hk
   |cons z zs=>simp at h
  cases h;exact⟨g,off,rfl,hg,hc k _ (by simp[hk])⟩
 have RP:=aj (cell h1);have HC2:=aj (cell h2);clear cell h1 h2
 go_enter Tryz.func46,Tryz.ntmps46
 go_wp2
 go_loopw [5] (fun i wr=>∃k:Nat,k<=ys.length/\k<=xs.length/\i=ah af k/\iv xs ys=iv (xs.drop k) (ys.drop k)/\Bw w wr) (fun i _=>ys.length-(intOf i).toNat)
 case atStart=>exact⟨0,oM,oM,rfl,sM,ay _ _⟩
 case round=>
  obtain⟨k,hk2,rC,rfl,he,eE⟩:=hrel;have hsz:=eE.size;have HE:=aj he;have yL:=aj eE;clear he eE
  by_cases hlt:k<ys.length
  .obtain⟨g2,o2,hp2,hg2,hc2⟩:=HC2.out k hlt;have HY:nz (∀w9,Bw wr w9->w9.cell? ⟨g2,o2+k,none⟩=some (ah af ys[k])):=aj fun w9 h9=>((yL.out.trans (h9.mono hsz)).cell (p:=⟨g2,o2+k,none⟩) hg2).trans hc2
   by_cases hx:k<xs.length
   .obtain⟨g1,o1,hp1,hg1,hc1⟩:=RP.out k hx;have HX:nz (∀w9,Bw wr w9->w9.cell? ⟨g1,o1+k,none⟩=some (ah af xs[k])):=aj fun w9 h9=>((yL.out.trans (h9.mono hsz)).cell (p:=⟨g1,o1+k,none⟩) hg1).trans hc1;have hst:=KY xs ys k hx hlt;subst hp1;subst hp2;clear hc1 hc2 RP HC2;generalize xs[k]=x at *;generalize ys[k]=y at *;generalize vG:xs.length=n1 at *;generalize zO:ys.length=n2 at *;have HN1:=aj vG;have HN2:=aj zO;have XA:=aj hst;clear vG zO hst;have hge:decide ((n1:Int)<=(k:Int))=false:=decide_eq_false oM;have ab9:decide (n1<=k)=false:=decide_eq_false oM;obtain⟨lt,Ed⟩:∃lt,decide (x<y)=lt:=⟨_,rfl⟩
    go_wp2
    refine Gd.cy kQ [
    pV (ah af k),
     pV (ae (some ⟨g1,o1,none⟩) n1 c1),
     pV (ah af n1),
     pV (aH false),
     pV (aH false),
     pV (ae (some ⟨g1,o1,none⟩) n1 c1),
     pV (ah af k),
     pV (pv g1 (o1+k)),
     pV (ah af x),
     pV (ae (some ⟨g2,o2,none⟩) n2 c2),
     pV (ah af k),
     pV (pv g2 (o2+k)),
     pV (ah af y),
     pV (aH lt),
     pV (aH lt)]
     (fun w9=>Bw wr w9) [(0,ae (some ⟨g1,o1,none⟩) n1 c1),(1,ae (some ⟨g2,o2,none⟩) n2 c2),(5,ah af k)] kQ ?rst (fun w1 w2 h hb=>h.trans (hb.mono h.size)) ((ay _ _).drew) ⟨rfl,rfl,rfl,trivial⟩ ?reach ?rfin
    case rst=>
     refine⟨sV,sV,sV,sV,sV,sV,sV,sV,sV,sV,sV,sV,sV,sV,sV,trivial⟩
    case reach=>
     refine⟨?_,?_,?_,?_,?_,?_,?_,?_,?_,?_,?_,?_,?_,?_,?_,trivial⟩<;>rintro ev w1 hS hc hg hf ⟨b0,b1,b5,-⟩ hd
     .exact tV
     .exact tV
     .have d1:ev (aD 13)=_:=hd.1 rfl;exact tV
     .have d0:ev (aD 12)=_:=hd.1 rfl;have d2:ev (aD 14)=_:=hd.2.1 rfl;exact tV
     .have d3:ev (aD 15)=_:=hd.1 rfl;exact tV
     .have d4:ev (aD 16)=_:=hd.1 rfl;refine gL d4 ?_;exact tV
     .have d4:ev (aD 16)=_:=hd.1 rfl;refine gL d4 ?_;exact tV
     .have d5:ev (aD 17)=_:=hd.1 rfl;have d6:ev (aD 18)=_:=hd.2.1 rfl;have d4:ev (aD 16)=_:=hd.2.2.1 rfl;refine gL d4 ?_;exact tV
     .have d7:ev (aD 19)=_:=hd.1 rfl;have d4:ev (aD 16)=_:=hd.2.1 rfl;refine gL d4 ?_;have z:=HX.out w1 hS;exact tV
     .have d4:ev (aD 16)=_:=hd.1 rfl;refine gL d4 ?_;exact tV
     .have d4:ev (aD 16)=_:=hd.1 rfl;refine gL d4 ?_;exact tV
     .have d9:ev (aD 21)=_:=hd.1 rfl;have d10:ev (aD 22)=_:=hd.2.1 rfl;have d4:ev (aD 16)=_:=hd.2.2.1 rfl;refine gL d4 ?_;exact tV
     .have d11:ev (aD 23)=_:=hd.1 rfl;have d4:ev (aD 16)=_:=hd.2.1 rfl;refine gL d4 ?_;have z:=HY.out w1 hS;exact tV
     .have d8:ev (aD 20)=_:=hd.1 rfl;have d12:ev (aD 24)=_:=hd.2.1 rfl;have d4:ev (aD 16)=_:=hd.2.2.1 rfl;refine gL d4 ?_;refine yv ?_ rfl;rw[<-Ed];go_simp
     have d4:ev (aD 16)=_:=hd.1 rfl;have d13:ev (aD 25)=_:=hd.2.1 rfl;exact tV
    case rfin=>
     intro a3 w3 hR;have hS:=hR.s;have EI:a3.tmps.getD 26 au=_:=hR.val 14;have ha:=hR.lits 36 rfl;simp only[aP,cJ,oh] at ha;rw[hR.kp 0,hR.kp 1,hR.kp 2,hR.kp 3,hR.kp 4,hR.kp 5] at ha;simp only[lr,gI,gH] at ha;clear hR;rw[EI] at ha;generalize a3.tmps.getD=zz at ha;have qz:=aj hS;clear EI hS;subst ha;cases lt
     .have h3:¬x<y:=by simpa using Ed
      obtain⟨gt,ab6⟩:∃gt,decide (y<x)=gt:=⟨_,rfl⟩
      go_wp2
      refine Gd.cy kQ [
      pV (ae (some ⟨g1,o1,none⟩) n1 c1),
       pV (ah af k),
       pV (pv g1 (o1+k)),
       pV (ah af x),
       pV (ae (some ⟨g2,o2,none⟩) n2 c2),
       pV (ah af k),
       pV (pv g2 (o2+k)),
       pV (ah af y),
       pV (aH gt)]
       (fun w9=>Bw w3 w9) [(0,ae (some ⟨g1,o1,none⟩) n1 c1),(1,ae (some ⟨g2,o2,none⟩) n2 c2),(5,ah af k)] kQ ?rst (fun w1 w2 h hb=>h.trans (hb.mono h.size)) ((ay _ _).drew) ⟨rfl,rfl,rfl,trivial⟩ ?reach ?rfin
      case rst=>
       refine⟨sV,sV,sV,sV,sV,sV,sV,sV,sV,trivial⟩
      case reach=>
       refine⟨?_,?_,?_,?_,?_,?_,?_,?_,?_,trivial⟩<;>rintro ev w1 hS hc hg hf ⟨b0,b1,b5,-⟩ hd
       .exact tV
       .exact tV
       .have d0:ev (aD 27)=_:=hd.1 rfl;have d1:ev (aD 28)=_:=hd.2.1 rfl;exact tV
       .have d2:ev (aD 29)=_:=hd.1 rfl;have z:=HX.out w1 (qz.out.trans (hS.mono qz.out.size));exact tV
       .exact tV
       .exact tV
       .have d4:ev (aD 31)=_:=hd.1 rfl;have d5:ev (aD 32)=_:=hd.2.1 rfl;exact tV
       .have d6:ev (aD 33)=_:=hd.1 rfl;have z:=HY.out w1 (qz.out.trans (hS.mono qz.out.size));exact tV
       have d3:ev (aD 30)=_:=hd.1 rfl;have d7:ev (aD 34)=_:=hd.2.1 rfl;refine yv ?_ rfl;rw[<-ab6];go_simp
      case rfin=>
       intro a4 w4 hR;have hS:=hR.s;have e8:a4.tmps.getD 35 au=_:=hR.val 8;have ha:=hR.lits 36 rfl;simp only[aP,cJ,oh] at ha;rw[hR.kp 0,hR.kp 1,hR.kp 2,hR.kp 3,hR.kp 4,hR.kp 5] at ha;simp only[lr,gI,gH] at ha;clear hR;rw[e8] at ha;generalize a4.tmps.getD=zz at ha;have HB4:=aj hS;clear e8 hS;subst ha;cases gt
       .have h4:¬y<x:=by simpa using ab6
        have hs:=XA.out;rw[if_neg (show ¬x<y by omega),if_neg (show ¬y<x by omega)] at hs;have HS:=aj hs;clear hs;go_wp2;go_roundw
        case rel=>exact⟨k+1,oM,oM,by go_num,by rw[HE.out,HS.out],yL.out.trans ((qz.out.trans (HB4.out.mono qz.out.size)).mono hsz)⟩
        case measure=>simp[intOf];omega
       have h4:y<x:=by simpa using ab6
       have hs:=XA.out;rw[if_neg (show ¬x<y by omega),if_pos (show y<x by omega)] at hs;have HS:=aj hs;clear hs;go_wp2
       go_ret
       exact⟨by rw[HE.out,HS.out];rfl,yL.out.trans ((qz.out.trans (HB4.out.mono qz.out.size)).mono hsz)⟩
     have h3:x<y:=by simpa using Ed
     have hs:=XA.out;rw[if_pos (show x<y by omega)] at hs;have HS:=aj hs;clear hs;go_wp2
     go_ret
     exact⟨by rw[HE.out,HS.out];rfl,yL.out.trans (qz.out.mono hsz)⟩
   obtain rfl:xs.length=k:=oM
   have hres:iv xs ys=true:=by
    rw[HE.out,List.drop_length,eh hlt];rfl
   have ado:=aj hres;clear hres hc2 HY RP HC2;generalize vG:xs.length=n1 at *;generalize zO:ys.length=n2 at *;clear vG zO;have hge:decide ((n1:Int)<=(n1:Int))=true:=decide_eq_true oM;go_wp2
   refine Gd.cy kQ [
   pV (ah af n1),
    pV (ae p1 n1 c1),
    pV (ah af n1),
    pV (aH true),
    pV (aH true),
    fun v ds w9=>True,
    fun v ds w9=>True,
    fun v ds w9=>True,
    fun v ds w9=>True,
    fun v ds w9=>True,
    fun v ds w9=>True,
    fun v ds w9=>True,
    fun v ds w9=>True,
    fun v ds w9=>True,
    pV (aH true)]
    (fun w9=>Bw wr w9) [(0,ae p1 n1 c1),(1,ae p2 n2 c2),(5,ah af n1)] kQ ?rst (fun w1 w2 h hb=>h.trans (hb.mono h.size)) ((ay _ _).drew) ⟨rfl,rfl,rfl,trivial⟩ ?reach ?rfin
   case rst=>
    refine⟨sV,sV,sV,sV,sV,kS,kS,kS,kS,kS,kS,kS,kS,kS,sV,trivial⟩
   case reach=>
    refine⟨?_,?_,?_,?_,?_,?_,?_,?_,?_,?_,?_,?_,?_,?_,?_,trivial⟩<;>rintro ev w1 hS hc hg hf ⟨b0,b1,b5,-⟩ hd
    .exact tV
    .exact tV
    .have d1:ev (aD 13)=_:=hd.1 rfl;exact tV
    .have d0:ev (aD 12)=_:=hd.1 rfl;have d2:ev (aD 14)=_:=hd.2.1 rfl;exact tV
    .have d3:ev (aD 15)=_:=hd.1 rfl;exact tV
    .have d4:ev (aD 16)=_:=hd.1 rfl;refine⟨fun hgd=>absurd (d4.symm.trans hgd) sM,fun hgd=>⟨trivial,bV (ay _ _)⟩⟩
    .have d4:ev (aD 16)=_:=hd.1 rfl;refine⟨fun hgd=>absurd (d4.symm.trans hgd) sM,fun hgd=>⟨trivial,bV (ay _ _)⟩⟩
    .have d4:ev (aD 16)=_:=hd.2.2.1 rfl;refine⟨fun hgd=>absurd (d4.symm.trans hgd) sM,fun hgd=>⟨trivial,bV (ay _ _)⟩⟩
    .have d4:ev (aD 16)=_:=hd.2.1 rfl;refine⟨fun hgd=>absurd (d4.symm.trans hgd) sM,fun hgd=>⟨trivial,bV (ay _ _)⟩⟩
    .have d4:ev (aD 16)=_:=hd.1 rfl;refine⟨fun hgd=>absurd (d4.symm.trans hgd) sM,fun hgd=>⟨trivial,bV (ay _ _)⟩⟩
    .have d4:ev (aD 16)=_:=hd.1 rfl;refine⟨fun hgd=>absurd (d4.symm.trans hgd) sM,fun hgd=>⟨trivial,bV (ay _ _)⟩⟩
    .have d4:ev (aD 16)=_:=hd.2.2.1 rfl;refine⟨fun hgd=>absurd (d4.symm.trans hgd) sM,fun hgd=>⟨trivial,bV (ay _ _)⟩⟩
    .have d4:ev (aD 16)=_:=hd.2.1 rfl;refine⟨fun hgd=>absurd (d4.symm.trans hgd) sM,fun hgd=>⟨trivial,bV (ay _ _)⟩⟩
    .have d4:ev (aD 16)=_:=hd.2.2.1 rfl;refine⟨fun hgd=>absurd (d4.symm.trans hgd) sM,fun hgd=>⟨trivial,bV (ay _ _)⟩⟩
    have d4:ev (aD 16)=_:=hd.1 rfl;exact tV
   case rfin=>
    intro a3 w3 hR;have hS:=hR.s;have EI:a3.tmps.getD 26 au=_:=hR.val 14;have ha:=hR.lits 36 rfl;simp only[aP,cJ,oh] at ha;rw[hR.kp 0,hR.kp 1,hR.kp 2,hR.kp 3,hR.kp 4,hR.kp 5] at ha;simp only[lr,gI,gH] at ha;clear hR;rw[EI] at ha;generalize a3.tmps.getD=zz at ha;have qz:=aj hS;clear EI hS;subst ha;go_wp2
    go_ret
    exact⟨by rw[ado.out];rfl,yL.out.trans (qz.out.mono hsz)⟩
  obtain rfl:ys.length=k:=oM
  have hres:iv xs ys=false:=by
   rw[HE.out,List.drop_length];cases(xs.drop ys.length)<;>rfl
  have ado:=aj hres;clear hres RP HC2;generalize vG:xs.length=n1 at *;generalize zO:ys.length=n2 at *;clear vG zO;go_wp2
  go_ret
  exact⟨by rw[ado.out];rfl,yL.out⟩
def J4(xs ys:List Int)(v1 v2:ai)(w:ak)(h1:Reads w v1 xs.length (xs.map (ax af)))(h2:Reads w v2 ys.length (ys.map (ax af))) :
  bm aq 22 #[v1,v2] w (Rt w (aH (decide (xs=ys)))):=by
 have hA:∀W,Bw w W->bm aq 46 #[v1,v2] W fun e w'=>e=aU (aH (iv xs ys))/\Bw W w':=fun W hb=>DL xs ys v1 v2 W (h1.below hb) (h2.below hb);have hB:∀W,Bw w W->bm aq 46 #[v2,v1] W fun e w'=>e=aU (aH (iv ys xs))/\Bw W w':=fun W hb=>DL ys xs v2 v1 W (h2.below hb) (h1.below hb);obtain⟨p1,c1,rfl,_⟩:=aR h1;obtain⟨p2,c2,rfl,_⟩:=aR h2;rw[<-AV];generalize iv xs ys=r at *;generalize iv ys xs=s at *;generalize xs.length=n1 at *;generalize ys.length=n2 at *;have HA:=aj hA;have HB:=aj hB;clear hA hB h1 h2;cases r
 .go_enter Tryz.func22,Tryz.ntmps22
  go_wp2_with fail
  refine(HA.out w (ay _ _)).mono ?_;rintro e w1 ⟨rfl,hb1⟩;have H1:=aj hb1;clear hb1
  go_wp2_with fail
  refine(HB.out w1 H1.out).mono ?_;rintro e w2 ⟨rfl,hb2⟩;have H2:=aj hb2;clear hb2;go_wp2
  go_ret
  exact⟨rfl,H1.out.trans (H2.out.mono H1.out.size)⟩
 go_enter Tryz.func22,Tryz.ntmps22
 go_wp2_with fail
 refine(HA.out w (ay _ _)).mono ?_;rintro e w1 ⟨rfl,hb1⟩;have H1:=aj hb1;clear hb1;go_wp2
 go_ret
 exact⟨rfl,H1.out⟩
def il(n l m:Int)(w:ak):bm aq 35 #[ah af n,ah af l,ah af m] w (Rt w (aH (aS n l m))):=by
 refine lu Tryz.func35 rfl rfl [(2,ah af m),(1,ah af l),(0,ah af n)] ⟨jB rfl,jB rfl,jB rfl,trivial⟩ fun a hF=>?_;refine(fun h:∀W,Bw w W->CU aq _ _ a W=>h w (ay _ _)) ?_;intro W HB;refine fe [(6,aH false)] hF ?_;intro a W ho hF;replace HB:=HB.tr ho;replace hF:=hF.tl;refine fe [(6,aH ((decide (l<=n))&&(decide (n<=m))))] hF ?_;intro a W ho hF;replace HB:=HB.tr ho;refine fQ ?_;exact bf (cg rfl _ _ _) hF.defers ⟨congrArg bq (((hF.g 0 rfl):a.eval (aD 6)=aH ((decide (l<=n))&&(decide (n<=m)))).trans (rfl)),HB⟩
def cN(lo hi l m:Int):Bool:=(decide (l<=lo)&&decide (lo<=hi))&&decide (hi<=m)
def sB(lo hi l m:Int)(w:ak):bm aq 147 #[aO #[ah af lo,ah af hi],ah af l,ah af m] w (Rt w (aH (cN lo hi l m))):=by
 refine lu Tryz.func147 rfl rfl [(2,ah af m),(1,ah af l),(0,aO #[ah af lo,ah af hi])] ⟨jB rfl,jB rfl,jB rfl,trivial⟩ fun a hF=>?_;refine(fun h:∀W,Bw w W->CU aq _ _ a W=>h w (ay _ _)) ?_;intro W HB
 refine ox [fun v ds w9=>∃B,v=pv B 0/\w9.heap[B]?=some (ar #[ah af lo,ah af hi] 23 (0,0)),pV (aH false)]
  _ kQ hF.size hF.base ?_ ?_ ?_
 .refine⟨?_,sV,trivial⟩
  .rintro v ds w1 w2 hS ⟨B,h1,h2⟩ hb;exact⟨B,h1,aA h2 hb⟩
 .refine⟨?_,?_,trivial⟩<;>rintro ev w1 hS hc hg hf ⟨-,-,b0,-⟩ hd
  .refine yN (v:=pv w1.heap.size 0) (w':=w1.alloc (ar #[ah af lo,ah af hi] 23)) ?_ ⟨⟨_,rfl,aw _ _⟩,bV dF⟩;go_simp
  exact tV
 intro a W hR;have ho:=hR.s;obtain⟨B3,e3,K3⟩:=hR.val 0;replace e3:a.eval (aD 3)=pv B3 0:=e3;replace HB:=HB.tr ho;replace hF:=((hR.fr hF).cons (t:=3) e3).cons (t:=6) (hR.val 1);clear hR ho e3;replace hF:=hF.tl;refine EN ⟨[],[],[(B3,#[ah af lo,ah af hi])],[]⟩ [(6,aH (((decide (l<=lo))&&(decide (lo<=hi)))&&(decide (hi<=m))))] hF hF ⟨fun w1 hS=>⟨_,_,aA K3 hS⟩,trivial⟩ trivial ?_;intro a W ho hF;replace HB:=HB.tr ho;replace K3:=aA K3 ho;refine fQ ?_;exact bf (cg rfl _ _ _) hF.defers ⟨congrArg bq (((hF.g 0 rfl):a.eval (aD 6)=aH (((decide (l<=lo))&&(decide (lo<=hi)))&&(decide (hi<=m)))).trans (rfl)),HB⟩
def tj(b:BB)(bn aL az:ai)(n:Int)(w:ak):bm aq 134 #[aO (b.cells bn aL az),ah af n] w (Rt w (aH (aS n 1 b.minutes))):=by
 refine lu Tryz.func134 rfl rfl [(1,ah af n),(0,aO (b.cells bn aL az))] ⟨jB rfl,jB rfl,trivial⟩ fun a hF=>?_;refine(fun h:∀W,Bw w W->CU aq _ _ a W=>h w (ay _ _)) ?_;intro W HB
 refine ox [fun v ds w9=>∃B,v=pv B 0/\w9.heap[B]?=some (ar (b.cells bn aL az) 28 (0,0)),pV (aH false)]
  _ kQ hF.size hF.base ?_ ?_ ?_
 .refine⟨?_,sV,trivial⟩
  .rintro v ds w1 w2 hS ⟨B,h1,h2⟩ hb;exact⟨B,h1,aA h2 hb⟩
 .refine⟨?_,?_,trivial⟩<;>rintro ev w1 hS hc hg hf ⟨-,b0,-⟩ hd
  .refine yN (v:=pv w1.heap.size 0) (w':=w1.alloc (ar (b.cells bn aL az) 28)) ?_ ⟨⟨_,rfl,aw _ _⟩,bV dF⟩;go_simp
  exact tV
 intro a W hR;have ho:=hR.s;obtain⟨B2,e2,K2⟩:=hR.val 0;replace e2:a.eval (aD 2)=pv B2 0:=e2;replace HB:=HB.tr ho;replace hF:=((hR.fr hF).cons (t:=2) e2).cons (t:=4) (hR.val 1);clear hR ho e2;replace hF:=hF.tl;refine EN ⟨[],[(3,aH (aS n 1 b.minutes))],[(B2,(b.cells bn aL az))],[]⟩ [(4,aH (aS n 1 b.minutes))] hF hF ⟨fun w1 hS=>⟨_,_,aA K2 hS⟩,trivial⟩ ⟨fun w1 hS _=>gc (il n 1 b.minutes w1),trivial⟩ ?_;intro a W ho hF;replace HB:=HB.tr ho;replace K2:=aA K2 ho;refine fQ ?_;exact bf (cg rfl _ _ _) hF.defers ⟨congrArg bq (((hF.g 0 rfl):a.eval (aD 4)=aH (aS n 1 b.minutes)).trans (rfl)),HB⟩
def UC{lo hi:Int}(h:cN lo hi 0 99=true):IntKind.i64.wrap (hi-lo)=hi-lo:=by
 unfold cN at h;simp at h;rw[bp];omega
def DX(b:BB):Bool:=(((!(aS b.room 1 99))||(!(aS b.depth 0 99)))||(!(aS b.least 0 99)))||(!(aS b.minutes 1 8))
def GQ(b:BB):Bool:=(((!(aS b.cI 0 99))||(!(aS b.jP 0 99)))||(!(aS b.iC 0 99)))||(!(aS b.ey 0 3))
def Jz(b:BB):Bool:=((!(cN b.pl b.pm 1 b.minutes))||(!(cN b.ll b.lm 0 99)))||decide (b.lm-b.ll≥3)
def qb(b:BB):Int:=if DX b then 1 else if GQ b then 1 else if Jz b then 1 else 0
def Ii(b:BB)(bn aL az:ai)(w:ak):bm aq 145 #[aO (b.cells bn aL az)] w (Rt w (ah af (qb b))):=by
 refine lu Tryz.func145 rfl rfl [(0,aO (b.cells bn aL az))] ⟨jB rfl,trivial⟩ fun a hF=>?_;refine(fun h:∀W,Bw w W->CU aq _ _ a W=>h w (ay _ _)) ?_;intro W HB
 refine ox [fun v ds w9=>∃B,v=pv B 0/\w9.heap[B]?=some (ar (b.cells bn aL az) 28 (0,0)),pV (ah af 0)]
  _ kQ hF.size hF.base ?_ ?_ ?_
 .refine⟨?_,sV,trivial⟩
  .rintro v ds w1 w2 hS ⟨B,h1,h2⟩ hb;exact⟨B,h1,aA h2 hb⟩
 .refine⟨?_,?_,trivial⟩<;>rintro ev w1 hS hc hg hf ⟨b0,-⟩ hd
  .refine yN (v:=pv w1.heap.size 0) (w':=w1.alloc (ar (b.cells bn aL az) 28)) ?_ ⟨⟨_,rfl,aw _ _⟩,bV dF⟩;go_simp
  exact tV
 intro a W hR;have ho:=hR.s;obtain⟨B1,e1,K1⟩:=hR.val 0;replace e1:a.eval (aD 1)=pv B1 0:=e1;replace HB:=HB.tr ho;replace hF:=((hR.fr hF).cons (t:=1) e1).cons (t:=2) (hR.val 1);clear hR ho e1;refine wp_seq ?_;refine EN ⟨[],[(2,aH (aS b.room 1 99)),(7,aH (aS b.depth 0 99)),(13,aH (aS b.least 0 99)),(19,aH (aS b.minutes 1 8))],[(B1,(b.cells bn aL az))],[]⟩ [(24,aH ((((!(aS b.room 1 99))||(!(aS b.depth 0 99)))||(!(aS b.least 0 99)))||(!(aS b.minutes 1 8))))] hF hF ⟨fun w1 hS=>⟨_,_,aA K1 hS⟩,trivial⟩ ⟨fun w1 hS _=>gc (il b.room 1 99 w1),fun w1 hS _=>gc (il b.depth 0 99 w1),fun w1 hS _=>gc (il b.least 0 99 w1),fun w1 hS _=>gc (il b.minutes 1 8 w1),trivial⟩ ?_;intro a W ho hF;replace HB:=HB.tr ho;replace K1:=aA K1 ho;refine b_ (t:=((((!(aS b.room 1 99))||(!(aS b.depth 0 99)))||(!(aS b.least 0 99)))||(!(aS b.minutes 1 8)))) (hF.g 0 rfl) (fun KP=>?_) (fun KP=>?_)
 .replace hF:=hF.tl;replace hF:=hF.tl;refine fe [(2,ah af 1)] hF ?_;intro a W ho hF;replace HB:=HB.tr ho;replace K1:=aA K1 ho;refine fQ ?_;exact bf (cg rfl _ _ _) hF.defers ⟨congrArg bq (((hF.g 0 rfl):a.eval (aD 2)=ah af 1).trans (by unfold qb;rw[if_pos (show DX b=true from KP)])),HB⟩
 replace hF:=hF.tl;refine wp_skip ?_;refine wp_seq ?_;refine EN ⟨[],[(2,aH (aS b.cI 0 99)),(7,aH (aS b.jP 0 99)),(13,aH (aS b.iC 0 99)),(19,aH (aS b.ey 0 3))],[(B1,(b.cells bn aL az))],[]⟩ [(46,aH ((((!(aS b.cI 0 99))||(!(aS b.jP 0 99)))||(!(aS b.iC 0 99)))||(!(aS b.ey 0 3))))] hF hF ⟨fun w1 hS=>⟨_,_,aA K1 hS⟩,trivial⟩ ⟨fun w1 hS _=>gc (il b.cI 0 99 w1),fun w1 hS _=>gc (il b.jP 0 99 w1),fun w1 hS _=>gc (il b.iC 0 99 w1),fun w1 hS _=>gc (il b.ey 0 3 w1),trivial⟩ ?_;intro a W ho hF;replace HB:=HB.tr ho;replace K1:=aA K1 ho;refine b_ (t:=((((!(aS b.cI 0 99))||(!(aS b.jP 0 99)))||(!(aS b.iC 0 99)))||(!(aS b.ey 0 3)))) (hF.g 0 rfl) (fun Zj=>?_) (fun Zj=>?_)
 .replace hF:=hF.tl;replace hF:=hF.tl;refine fe [(2,ah af 1)] hF ?_;intro a W ho hF;replace HB:=HB.tr ho;replace K1:=aA K1 ho;refine fQ ?_;exact bf (cg rfl _ _ _) hF.defers ⟨congrArg bq (((hF.g 0 rfl):a.eval (aD 2)=ah af 1).trans (by unfold qb;rw[if_neg (by rw[show DX b=_ from KP];simp),if_pos (show GQ b=true from Zj)])),HB⟩
 replace hF:=hF.tl;refine wp_skip ?_;refine wp_seq ?_
 refine ox [pV (pv B1 10),pV (aO #[ah af b.pl,ah af b.pm]),pV (pv B1 3),pV (ah af b.minutes),pV (aH (cN b.pl b.pm 1 b.minutes)),pV (aH (!(cN b.pl b.pm 1 b.minutes))),pV (aH (!(cN b.pl b.pm 1 b.minutes))),pC (!(!(cN b.pl b.pm 1 b.minutes))) (pv B1 8),pC (!(!(cN b.pl b.pm 1 b.minutes))) (aO #[ah af b.ll,ah af b.lm]),pC (!(!(cN b.pl b.pm 1 b.minutes))) (aH (cN b.ll b.lm 0 99)),pC (!(!(cN b.pl b.pm 1 b.minutes))) (aH (!(cN b.ll b.lm 0 99))),pV (aH ((!(cN b.pl b.pm 1 b.minutes))||(!(cN b.ll b.lm 0 99)))),pV (aH ((!(cN b.pl b.pm 1 b.minutes))||(!(cN b.ll b.lm 0 99)))),pC (!((!(cN b.pl b.pm 1 b.minutes))||(!(cN b.ll b.lm 0 99)))) (pv B1 8),pC (!((!(cN b.pl b.pm 1 b.minutes))||(!(cN b.ll b.lm 0 99)))) (pv B1 9),pC (!((!(cN b.pl b.pm 1 b.minutes))||(!(cN b.ll b.lm 0 99)))) (ah af b.lm),pC (!((!(cN b.pl b.pm 1 b.minutes))||(!(cN b.ll b.lm 0 99)))) (pv B1 8),pC (!((!(cN b.pl b.pm 1 b.minutes))||(!(cN b.ll b.lm 0 99)))) (pv B1 8),pC (!((!(cN b.pl b.pm 1 b.minutes))||(!(cN b.ll b.lm 0 99)))) (ah af b.ll),pC (!((!(cN b.pl b.pm 1 b.minutes))||(!(cN b.ll b.lm 0 99)))) (ah af (b.lm-b.ll)),pC (!((!(cN b.pl b.pm 1 b.minutes))||(!(cN b.ll b.lm 0 99)))) (aH (decide ((b.lm-b.ll)≥3))),pV (aH (((!(cN b.pl b.pm 1 b.minutes))||(!(cN b.ll b.lm 0 99)))||(decide ((b.lm-b.ll)≥3))))]
  _ kQ hF.size hF.base ?_ ?_ ?_
 .exact⟨sV,sV,sV,sV,sV,sV,sV,sC,sC,sC,sC,sV,sV,sC,sC,sC,sC,sC,sC,sC,sC,sV,trivial⟩
 .refine⟨?_,?_,?_,?_,?_,?_,?_,?_,?_,?_,?_,?_,?_,?_,?_,?_,?_,?_,?_,?_,?_,?_,trivial⟩<;>rintro ev w1 hS hc hg hf ⟨-,b1,-,-⟩ hd
  all_goals try
   try have d0:ev (aD _)=_:=hd.1 rfl
   refine yw rfl ?_ rfl;go_simp;done
  all_goals try
   try have d0:ev (aD _)=_:=hd.1 rfl
   try have c0:_->ev (aD _)=_:=hd.1 rfl
   try have d1:ev (aD _)=_:=hd.2.1 rfl
   first|refine gC d0 mR fun hA=>?_|refine gC d1 mR fun hA=>?_
   try replace c0:=c0 hA
   refine yw rfl ?_ (fun _=>rfl);go_simp;done
  .have d0:ev (aD 47)=_:=hd.1 rfl;have z10:=aF (aA K1 hS) 10 _ rfl;have z11:=aF (aA K1 hS) 11 _ rfl;exact tV
  .have d2:ev (aD 49)=_:=hd.1 rfl;have z:=aF (aA K1 hS) 3 _ rfl;exact tV
  .have d1:ev (aD 48)=_:=hd.1 rfl;have d3:ev (aD 50)=_:=hd.2.1 rfl;refine yc (sB b.pl b.pm 1 b.minutes w1) ?_ (fun _=>rfl);go_simp
  .have d7:_->ev (aD 54)=_:=hd.1 rfl;have d6:ev (aD 53)=_:=hd.2.1 rfl;refine gC d6 mR fun hA=>?_;have y7:=d7 hA;have z8:=aF (aA K1 hS) 8 _ rfl;have z9:=aF (aA K1 hS) 9 _ rfl;refine yv ?_ (fun _=>rfl);go_simp
  .have d8:_->ev (aD 55)=_:=hd.1 rfl;have d6:ev (aD 53)=_:=hd.2.1 rfl;refine gC d6 mR fun hA=>?_;have y8:=d8 hA;refine yc (sB b.ll b.lm 0 99 w1) ?_ (fun _=>fun _=>rfl);go_simp
  .have d6:ev (aD 53)=_:=hd.1 rfl;have d10:_->ev (aD 57)=_:=hd.2.1 rfl;exact yO rfl hc d6 (fun hq=>d10 (by simp[hq])) (rfl)
  .have d14:_->ev (aD 61)=_:=hd.1 rfl;have d12:ev (aD 59)=_:=hd.2.1 rfl;refine gC d12 mR fun hA=>?_;have LD:=d14 hA;have z:=aF (aA K1 hS) 9 _ rfl;refine yv ?_ (fun _=>rfl);go_simp
  .have d17:_->ev (aD 64)=_:=hd.1 rfl;have d12:ev (aD 59)=_:=hd.2.1 rfl;refine gC d12 mR fun hA=>?_;have y17:=d17 hA;have z:=aF (aA K1 hS) 8 _ rfl;refine yv ?_ (fun _=>rfl);go_simp
  .have d15:_->ev (aD 62)=_:=hd.1 rfl;have d18:_->ev (aD 65)=_:=hd.2.1 rfl;have d12:ev (aD 59)=_:=hd.2.2.1 rfl;refine gC d12 mR fun hA=>?_;have JL:=d15 hA;have y18:=d18 hA;have hw:=UC (lo:=b.ll) (hi:=b.lm) (by revert hA;cases cN b.ll b.lm 0 99<;>simp);refine yv ?_ (fun _=>rfl);go_simp
  have d12:ev (aD 59)=_:=hd.1 rfl;have d20:_->ev (aD 67)=_:=hd.2.1 rfl;exact yO rfl hc d12 (fun hq=>d20 (by simp[hq])) (rfl)
 intro a W hR;have ho:=hR.s;replace HB:=HB.tr ho;replace K1:=aA K1 ho;replace hF:=(hR.fr hF).cons (t:=68) (hR.val 21);clear hR ho;refine b_ (t:=(((!(cN b.pl b.pm 1 b.minutes))||(!(cN b.ll b.lm 0 99)))||(decide ((b.lm-b.ll)≥3)))) (hF.g 0 rfl) (fun acg=>?_) (fun acg=>?_)
 .replace hF:=hF.tl;replace hF:=hF.tl;refine fe [(2,ah af 1)] hF ?_;intro a W ho hF;replace HB:=HB.tr ho;replace K1:=aA K1 ho;refine fQ ?_;exact bf (cg rfl _ _ _) hF.defers ⟨congrArg bq (((hF.g 0 rfl):a.eval (aD 2)=ah af 1).trans (by unfold qb;rw[if_neg (by rw[show DX b=_ from KP];simp),if_neg (by rw[show GQ b=_ from Zj];simp),if_pos (show Jz b=true from acg)])),HB⟩
 replace hF:=hF.tl;refine wp_skip ?_;replace hF:=hF.tl;refine fe [(2,ah af 0)] hF ?_;intro a W ho hF;replace HB:=HB.tr ho;replace K1:=aA K1 ho;refine fQ ?_;exact bf (cg rfl _ _ _) hF.defers ⟨congrArg bq (((hF.g 0 rfl):a.eval (aD 2)=ah af 0).trans (by unfold qb;rw[if_neg (by rw[show DX b=_ from KP];simp),if_neg (by rw[show GQ b=_ from Zj];simp),if_neg (by rw[show Jz b=_ from acg];simp)])),HB⟩
end Go.Proofs.YtffladgmkiimjaaGreatDoor
