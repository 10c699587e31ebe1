/- LONE WALKS: Pick (111), Holds (34). LONE WALKS: handed (112). (nil bre .. -/
import Derived.Test.YtffladgmkiimjaaGreatDoorU01
set_option linter.all false
set_option maxHeartbeats 0
set_option maxRecDepth 1000000
open Go.Lag.Yields renaming call -> jO,value -> Gw,skip -> yva
open Array renaming getElem?_eq_some_iff -> ah
open Go renaming TypeId -> a7,Value -> aj,World -> ak,undef -> aw,Operand -> bI,wp_cond_split -> bW,results_tmp -> bZ,bodyPost_ret -> bj,Calls -> bm,Addr -> cX,wpList_store_row -> fY,wpList_append_own -> g_,info_parts -> jk,run_loadVar_row -> jw,maxLen -> jx,wpList_load_row -> mH,bytes -> td
open Go.Addr renaming add -> jP
open Go.Builtin renaming lenOf -> DL,firstCells -> eM,append_ -> kE
open Go.Ending renaming returned -> aY,returned -> bA
open Go.Instr renaming indexAt -> fp
open Go.IntKind renaming i64 -> af,wrap_i64 -> bg
open Go.Lib renaming hid -> ai
open Go.Obj renaming cells -> au
open Go.Operand renaming tmp -> aL
open Go.Proofs.Tryz renaming prog -> aq,underlying28 -> cM,underlying25 -> ek,underlying122 -> jl,underlying26 -> tj
open Go.Result renaming andThen_ok -> h_
open Go.RowKit renaming Hid -> mU
open Go.RowKit.Below renaming refl -> aB,heap_alloc -> aZ,heap_setCell -> bu
open Go.Sem renaming run_pure -> Ca,run_bind -> mI
open Go.Value renaming int -> aD,bool -> aI,agg -> aR,slice -> ae,int -> ag,oneCell' -> cD,tuple -> cH,slice -> eE,pointer -> eX,ownBlock -> jy
open Go.World renaming alloc_heap_new -> az,ownsRow_nil -> dG,size_alloc -> dY,cell?_alloc_lt -> eD
open List renaming foldl_append -> Cc,map_toArray -> HV,take_length -> Hz,eq_nil_of_length_eq_zero -> a8,range -> aS,mem_append -> bB,take_succ_eq_append_getElem -> bO,getElem_mem -> bQ,mem_cons_of_mem -> bT,mem_range -> bV,length_pos_iff -> cN,map_cons -> cV,drop_eq_getElem_cons -> dW,take_of_length_le -> di,map_append -> eF,mem_of_mem_take -> eU,length_map -> fC,map_nil -> fg,getD_cons_zero -> gH,getD_cons_succ -> gI,size_toArray -> jM,mem_singleton -> kg,mem_flatMap -> lg,map -> nh,length_append -> qj
open List.range renaming loop -> cA
open Nat renaming le_trans -> aF,le_refl -> aO,lt_of_lt_of_le -> bw,reduceEqDiff -> bz,zero_add -> dh,zero_le -> gD
open Option.some renaming inj -> bp
open Or renaming inl -> cJ
namespace Go.Proofs.YtffladgmkiimjaaGreatDoor
open Go.RowKit Go.Lag
structure sg(W:ak)(p:Option cX)(n c:Nat)(pk:Nat->Nat):Prop where
 lt:∀k,pk k<65536
 out:∀k,n<=k->pk k=0
 at_:∀k,k<n->∃g off,p=some ⟨g,off,none⟩/\g<W.heap.size/\W.cell? ⟨g,off+k,none⟩=some (ag .u16 (pk k:Int))
def sg.below{W W':ak}{p:Option cX}{n c:Nat}{pk:Nat->Nat}(h:sg W p n c pk)(hb:Bw W W'):sg W' p n c pk:=
 ⟨h.lt,h.out,fun k hk=>by obtain⟨g,off,h1,h2,h3⟩:=h.at_ k hk;exact⟨g,off,h1,bw h2 hb.size,(hb.cell (p:=⟨g,off+k,none⟩) h2).trans h3⟩⟩
def XS(p:Option cX)(n c k:Nat)(pk:Nat->Nat)(w:ak)(hp:sg w p n c pk):bm aq 111 #[ae p n c,ag af (k:Int)] w (Rt w (ag af (pk k:Int))):=by
 refine mP Tryz.func111 rfl rfl [(1,ag af (k:Int)),(0,ae p n c)] ⟨jg rfl,jg rfl,trivial⟩ fun a W hF hw=>?_;refine fP [(4,ag af 0)] hF ?_;intro a W ho hF;replace hw:=hw.tr ho;refine wp_seq ?_;refine fP [(8,aI (decide ((k:Int)<(n:Int))))] hF ?_;intro a W ho hF;replace hw:=hw.tr ho;refine bW (t:=(decide ((k:Int)<(n:Int)))) (hF.g 0 rfl) (fun hc8=>?_) (fun hc8=>?_)
 .replace hF:=hF.tl;have hlt:k<n:=by simpa using hc8
  have hpb:=hp.lt k
  obtain⟨g,off,rfl,hcell⟩:∃g off,p=some ⟨g,off,none⟩/\∀w9,Bw w w9->w9.cell? ⟨g,off+k,none⟩=some (ag .u16 (pk k:Int)):=by
   obtain⟨g,off,h1,h2,h3⟩:=hp.at_ k hlt;exact⟨g,off,h1,fun w9 h9=>(h9.cell (p:=⟨g,off+k,none⟩) h2).trans h3⟩
  replace hF:=hF.tl;refine wF ⟨[],[(2,pv g (off+k)),(3,ag .u16 (pk k:Int)),(4,ag af (pk k:Int))],[],[]⟩ [(4,ag af (pk k:Int))] hF hF trivial ⟨fun w1 hS _=>gs (fp 39 (ae (some ⟨g,off,none⟩) n c) (ag af (k:Int))) (by have AY:¬(n<=k):=(by omega);go_simp),fun w1 hS _=>gl (hcell w1 (hw.tr hS)),fun w1 hS _=>ge (congrArg (aD af) (show IntKind.i64.wrap (pk k:Int)=(pk k:Int) from by rw[bg];omega)),trivial⟩ ?_;intro a W ho hF;replace hw:=hw.tr ho;refine wp_ret ?_;exact bj (bZ rfl _ _ _) hF.defers ⟨congrArg bA ((show a.eval (aL 4)=_ from(hF.g 0 rfl)).trans (rfl)),hw⟩
 replace hF:=hF.tl;have Gr:=hp.out k (by simp at hc8;omega);refine wp_skip ?_;replace hF:=hF.tl;refine fP [(4,ag af 0)] hF ?_;intro a W ho hF;replace hw:=hw.tr ho;refine wp_ret ?_;exact bj (bZ rfl _ _ _) hF.defers ⟨congrArg bA ((show a.eval (aL 4)=_ from(hF.g 0 rfl)).trans (by rw[Gr];rfl)),hw⟩
def MB(p:Option cX)(c:Nat)(xs:List Int)(hl:xs.length<=20)(v:Int)(w:ak)(hx:Reads w (ae p xs.length c) xs.length (xs.map (aD af))):bm aq 34 #[ae p xs.length c,ag af v] w (Rt w (aI (decide (v∈xs)))):=by
 refine mP Tryz.func34 rfl rfl [(1,ag af v),(0,ae p xs.length c)] ⟨jg rfl,jg rfl,trivial⟩ fun a W hF hw=>?_;refine fP [(4,aI false)] hF ?_;intro a W ho hF;replace hw:=hw.tr ho;refine wp_seq ?_;refine fP [(5,ag af 0)] hF ?_;intro a W ho hF;replace hw:=hw.tr ho;refine wp_block ?_;rename ak=>WQ;have hQ:=aB WQ.heap.size WQ;refine wp_loop (fun a W=>∃k:Nat,(k<=xs.length/\v ∉ xs.take k)/\gw 18 a [(5,ag af (k:Int)),(4,aI false),(1,ag af v),(0,ae p xs.length c)]/\Bw WQ W) (fun a _=>xs.length-(intOf (a.eval (aL 5))).toNat) ⟨0,⟨gD _,sM⟩,⟨hF.size,hF.defers,hF.base⟩,hQ⟩ ?_;clear hF hQ;rintro a W ⟨k,⟨hkL,hno⟩,hF,hQ⟩;have s5:a.eval (aL 5)=ag af (k:Int):=(hF.g 0 rfl)
 refine wp_seq ?_;refine fP [(9,aI (decide ((k:Int)<(xs.length:Int))))] hF ?_;intro a W ho hF;replace hQ:=hQ.tr ho;refine bW (t:=(decide ((k:Int)<(xs.length:Int)))) (hF.g 0 rfl) (fun Sv=>?_) (fun Sv=>?_)
 .replace hF:=hF.tl;have hlt:k<xs.length:=by simpa using Sv
  obtain⟨x,OM⟩:∃x,xs[k]=x:=⟨_,rfl⟩
  obtain⟨g,off,rfl,hcell⟩:∃g off,p=some ⟨g,off,none⟩/\∀w9,Bw w w9->w9.cell? ⟨g,off+k,none⟩=some (ag af x):=by
   rcases hx with⟨_,h0,_⟩|⟨g,off,cap,h0,_,hg,h4⟩
   .omega
   cases h0;exact⟨g,off,rfl,fun w9 h9=>(h9.cell (p:=⟨g,off+k,none⟩) hg).trans (h4 k _ (by rw[List.getElem?_map,List.getElem?_eq_getElem hlt,OM];rfl))⟩
  refine wp_skip ?_;refine wp_seq ?_;refine wp_block ?_;refine wF ⟨[],[(2,pv g (off+k)),(3,ag af x)],[],[]⟩ [(17,aI (x==v))] hF hF trivial ⟨fun w1 hS _=>gs (fp 25 (ae (some ⟨g,off,none⟩) xs.length c) (ag af (k:Int))) (by have AY:¬(xs.length<=k):=(by omega);go_simp),fun w1 hS _=>gl (hcell w1 (hw.tr (hQ.tr hS))),trivial⟩ ?_;intro a W ho hF;replace hQ:=hQ.tr ho;refine bW (t:=(x==v)) (hF.g 0 rfl) (fun Kc=>?_) (fun Kc=>?_)
  .replace hF:=hF.tl;have hd:decide (v∈xs)=true:=by simp at Kc;rw[decide_eq_true_eq,<-Kc,<-OM];exact bQ hlt
   replace hF:=hF.del 4;simp only[ju,fj,bz,reduceIte] at hF;refine fP [(4,aI true)] hF ?_;intro a W ho hF;replace hQ:=hQ.tr ho;refine wp_ret ?_;exact bj (bZ rfl _ _ _) hF.defers ⟨congrArg bA ((show a.eval (aL 4)=_ from(hF.g 0 rfl)).trans (by rw[hd])),(hw.tr hQ)⟩
  replace hF:=hF.tl;refine wp_skip ?_;have ov:=hF;replace hF:=hF.tl;refine KS ⟨[],[(1,ag af ((k:Int)+1))],[],[]⟩ [(5,ag af ((k:Int)+1))] ov hF trivial ⟨fun w1 hS _=>ge (congrArg (aD af) (show IntKind.i64.wrap ((k:Int)+1)=((k:Int)+1) by rw[bg];omega)),trivial⟩ ?_;intro a W ho hF;clear ov;replace hQ:=hQ.tr ho;refine⟨⟨k+1,⟨oM,?_⟩,⟨hF.size,hF.defers,hF.base⟩,hQ⟩,?_⟩
  .rw[bO hlt,bB,OM];simp at Kc;simp only[kg];rintro(h|h);exact hno h;exact Kc h.symm
  rw[show a.eval (aL 5)=ag af ((k:Int)+1) from(hF.g 0 rfl)];simp only[s5];simp[intOf];omega
 replace hF:=hF.tl;refine wp_exit ?_
 have hd:decide (v∈xs)=false:=by
  rw[decide_eq_false_iff_not];have:k=xs.length:=by simp at Sv;omega
  rwa [this,Hz] at hno
 replace hF:=hF.del 4;simp only[ju,fj,bz,reduceIte] at hF;refine fP [(4,aI false)] hF ?_;intro a W ho hF;replace hQ:=hQ.tr ho;refine wp_ret ?_;exact bj (bZ rfl _ _ _) hF.defers ⟨congrArg bA ((show a.eval (aL 4)=_ from(hF.g 0 rfl)).trans (by rw[hd])),(hw.tr hQ)⟩
def ah8(n:Int)(h:0<=n/\n<=99)(w:ak):bm aq 167 #[ag af n] w fun e w'=>e=aY (aI false)/\w=w':=by
 go_enter Tryz.func167,Tryz.ntmps167
 go_wp2_with (go_at_call 138;refine(iQ _ _ _ oM oM _).mono ?_;rintro e w' ⟨rfl,rfl⟩)
 go_ret
 exact⟨rfl,rfl⟩
def Yl(xs:List Int)(NH:∀x∈xs,0<=x/\x<=99)(v:aj)(w:ak)(hv:Reads w v xs.length (xs.map (aD af))) :
  bm aq 170 #[v,.func (.func 167) #[] #[]] w fun e w'=>e=aY (ag af (-1))/\w=w':=by
 rcases hv with⟨rfl,hn,hx0⟩|⟨g,off,cap,rfl,hn,hg,hc⟩
 .obtain rfl:xs=[]:=by simpa using hx0
  clear hx0 hn
  go_enter Tryz.func170,Tryz.ntmps170
  go_wp2
  go_loopw [8] (fun i wr=>i=ag af 0/\wr=w) (fun _ _=>0)
  case atStart=>exact⟨rfl,rfl⟩
  case round=>
   obtain⟨rfl,rfl⟩:=hrel;go_wp2
   go_ret
   exact⟨rfl,rfl⟩
 have HC:=ai hc;clear hc;generalize hL:xs.length=L at *;have HL:=ai hL;clear hL
 go_enter Tryz.func170,Tryz.ntmps170
 go_wp2
 go_loopw [5,8] (fun _ i wr=>∃k:Nat,k<=L/\i=ag af k/\wr=w) (fun _ i _=>L-(intOf i).toNat)
 case atStart=>exact⟨0,oM,rfl,rfl⟩
 case round=>
  obtain⟨k,hk,rfl,rfl⟩:=hrel
  by_cases hlt:k<L
  .have jY:k<xs.length:=by rw[HL.out];exact hlt
   have hcell:wr.cell? ⟨g,off+k,none⟩=some (ag af xs[k]):=HC.out k _ (by simp[jY]);have hx:=NH xs[k] (bQ jY);generalize xs[k]=x at *;clear NH
   go_wp2_with (go_at_call 167;refine(ah8 x hx _).mono ?_;rintro e w2 ⟨rfl,rfl⟩)
   go_roundw
   case rel=>exact⟨k+1,oM,sM⟩
   case measure=>(simp[intOf];try omega)
  obtain rfl:k=L:=oM;clear NH;go_wp2
  go_ret
  exact⟨rfl,rfl⟩
def FO(xs:List Int)(NH:∀x∈xs,0<=x/\x<=99)(v:aj)(w:ak)(hv:Reads w v xs.length (xs.map (aD af))) :
  bm aq 166 #[v,.func (.func 167) #[] #[]] w fun e w'=>e=aY (aI false)/\w=w':=by
 have H:=ai (Yl xs NH v w hv);clear NH hv
 go_enter Tryz.func166,Tryz.ntmps166
 go_wp2_with (go_at_call 170;refine H.out.mono ?_;rintro e w2 ⟨rfl,rfl⟩)
 go_ret
 exact⟨rfl,rfl⟩
def gG(lk:Int)(br:List Int):dS:=⟨lk,br.getD 0 0,br.getD 1 0,br.getD 2 0⟩
def Nu(lk:Int):∀(br:List Int),br.length<=3->
  ((#[aD af lk,ag af 0,ag af 0,ag af 0]:Array aj).toList.take 1++br.map (aD af)++(#[aD af lk,ag af 0,ag af 0,ag af 0]:Array aj).toList.drop (1+(br.map (aD af)).length)).toArray=(gG lk br).cells
 |[],_=>rfl
 |[_],_=>rfl
 |[_,_],_=>rfl
 |[_,_,_],_=>rfl
 |_::_::_::_::_,h=>by simp at h
def CZ(b:BB)(bq aM aC:aj)(ml:List Mn)(KQ:ml.length<=3)(lk:Int)(h0:0<=lk/\lk<=99)(br:List Int)(hbr:∀x∈br,0<=x/\x<=99)(hl:br.length=ml.length)(g off cap:Nat)(w:ak)(hm:Reads w bq ml.length (fQ ml))
  (hg:g<w.heap.size) (Hb:br.length<=cap) (hcc:∀j u,(br.map (aD af))[j]?=some u->w.cell? ⟨g,off+j,none⟩=some u) :
  bm aq 112 #[aR (b.cells bq aM aC),aR #[ag af lk,ae (some ⟨g,off,none⟩) br.length cap]] w (Rt w (cH #[aR (gG lk br).cells,ag af 0])):=by
 have hv:Reads w (ae (some ⟨g,off,none⟩) br.length cap) br.length (br.map (aD af)):=.inr ⟨g,off,cap,rfl,⟨oM,Hb⟩,hg,hcc⟩;have hb3:Bw w (((w.alloc (au (b.cells bq aM aC) 119)).alloc (au #[ag af lk,ae (some ⟨g,off,none⟩) br.length cap] 42)).alloc (au #[ag af 0,ag af 0,ag af 0,ag af 0] 134)):=(((aB _ w).alloc (aO _) _).alloc sM _).alloc sO _;obtain⟨pm,cm,rfl,_⟩:=aT hm;have KI:=ai (FO br hbr _ _ (hv.below hb3));have hb8:=((((aB _ w).alloc (aO _) (au (b.cells (ae pm ml.length cm) aM aC) 119)).alloc sM (au #[ag af lk,ae (some ⟨g,off,none⟩) br.length cap] 42)).alloc sO (au #[ag af lk,ag af 0,ag af 0,ag af 0] 134)).drew
 have hr8:((((w.alloc (au (b.cells (ae pm ml.length cm) aM aC) 119)).alloc (au #[ag af lk,ae (some ⟨g,off,none⟩) br.length cap] 42)).alloc (au #[ag af lk,ag af 0,ag af 0,ag af 0] 134)).drew).heap[w.heap.size+1+1]?=some (au #[ag af lk,ag af 0,ag af 0,ag af 0] 134 (0,0)):=
  (np w (b.cells (ae pm ml.length cm) aM aC) #[ag af lk,ae (some ⟨g,off,none⟩) br.length cap] #[ag af lk,ag af 0,ag af 0,ag af 0] 119 42 134).2.2
 have wA:=run_copy_row (P:=aq) _ 25 25 3 3 (w.heap.size+1+1) 1 3 3 ⟨g,off,none⟩ br.length cap _ 134 (br.map (aD af)) ek kQ hr8 (by rw[fC];exact(Nat.min_eq_left oM).symm)
  (fun j u hj=>by
   have h1:=(hb8.cell (p:=⟨g,off+j,none⟩) hg).trans (hcc j u hj);have e:(⟨g,off,none⟩:cX).add j=⟨g,off+j,none⟩:=by cases j<;>simp[jP]
   rw[e];exact h1) (by simp;try omega) (by intro u hu;simp at hu;obtain⟨x,_,rfl⟩:=hu;rfl)
 rw[Nu lk br oM] at wA;have HR:mU ((((((w.alloc (au (b.cells (ae pm ml.length cm) aM aC) 119)).alloc (au #[ag af lk,ae (some ⟨g,off,none⟩) br.length cap] 42)).alloc (au #[ag af lk,ag af 0,ag af 0,ag af 0] 134)).drew).setRow (w.heap.size+1+1) (gG lk br).cells).heap[w.heap.size+1+1]?=some (au (gG lk br).cells 134 (0,0))):=ai (dg hr8);have HB:=ai hb8;have hbl:(br.map (aD af)).length=br.length:=fC _;rw[hbl] at wA;clear hb3 hcc hv hm hr8 hb8 hbl hbr;rw[<-hl] at *;generalize br.length=L at *;generalize gG lk br=A at *;have z1:IntKind.i64.wrap (L:Int)=L:=fO _ oM oM
 go_enter Tryz.func112,Tryz.ntmps112
 go_wp2_with (first
  |(go_at_call 138;refine(iQ _ _ _ oM oM _).mono ?_;rintro e w' ⟨rfl,rfl⟩)
  |(go_at_call 166;refine KI.out.mono ?_;rintro e w' ⟨rfl,rfl⟩))
 go_region
 all_goals
  go_wp2_with (first
   |(refine mH rfl 134 _ rfl _ rfl 134 _ (0,0) _ HR.out Tryz.underlying134 rfl kQ ?_)
   |(refine fY rfl 134 _ _ rfl _ _ rfl rfl 134 _ HR.out kQ rfl (by simp[cD]) ?_))
  refine bj (results_cell_tmp (g:=w.heap.size+1+1) rfl rfl (jw _ _ 134 134 _ (0,0) _ (dg HR.out) Tryz.underlying134 rfl kQ)) rfl ⟨rfl,?_⟩;exact dA (dA HB.out oM) oM
def VZ(w:ak)(g o akg akh:Nat):(Builtin.copy_ #[25,25] 3 #[ae (some ⟨g,o,none⟩) akg akh,ae none 0 0]).run aq w=.ok (ag af 0) w:=by
 cases hq:Tryz.prog.info? 3 with
 |none=>exact absurd hq (fun h=>by have:(Tryz.prog.info? 3).isSome=true:=(by kernel_rfl);rw[h] at this;cases this)
 |some i=>simp[Builtin.copy_,run_underlying ek,DL,eM,sizeOf,typeInfo,hq,goInt,loadCells,storeCells]
def MC(b:BB)(bq aM aC:aj)(ml:List Mn)(KQ:ml.length<=3)(lk:Int)(h0:0<=lk/\lk<=99)(hl:ml.length=0)(w:ak)(hm:Reads w bq ml.length (fQ ml)) :
  bm aq 112 #[aR (b.cells bq aM aC),aR #[ag af lk,ae none 0 0]] w (Rt w (cH #[aR (gG lk []).cells,ag af 0])):=by
 have hv:Reads w (ae none 0 0) ([]:List Int).length (([]:List Int).map (aD af)):=cJ ⟨rfl,rfl,rfl⟩;have hb3:Bw w (((w.alloc (au (b.cells bq aM aC) 119)).alloc (au #[ag af lk,ae none 0 0] 42)).alloc (au #[ag af 0,ag af 0,ag af 0,ag af 0] 134)):=(((aB _ w).alloc (aO _) _).alloc sM _).alloc sO _;obtain⟨pm,cm,rfl,_⟩:=aT hm;have KI:=ai (FO [] sM _ _ (hv.below hb3));have hb8:=((((aB _ w).alloc (aO _) (au (b.cells (ae pm ml.length cm) aM aC) 119)).alloc sM (au #[ag af lk,ae none 0 0] 42)).alloc sO (au #[ag af lk,ag af 0,ag af 0,ag af 0] 134)).drew
 have hr8:((((w.alloc (au (b.cells (ae pm ml.length cm) aM aC) 119)).alloc (au #[ag af lk,ae none 0 0] 42)).alloc (au #[ag af lk,ag af 0,ag af 0,ag af 0] 134)).drew).heap[w.heap.size+1+1]?=some (au #[ag af lk,ag af 0,ag af 0,ag af 0] 134 (0,0)):=
  (np w (b.cells (ae pm ml.length cm) aM aC) #[ag af lk,ae none 0 0] #[ag af lk,ag af 0,ag af 0,ag af 0] 119 42 134).2.2
 have wA:=VZ (((w.alloc (au (b.cells (ae pm ml.length cm) aM aC) 119)).alloc (au #[ag af lk,ae none 0 0] 42)).alloc (au #[ag af lk,ag af 0,ag af 0,ag af 0] 134)).drew (w.heap.size+1+1) 1 3 3;have HR:=ai hr8;have HB:=ai hb8;clear hb3 hv hm;generalize ml.length=L at *;subst hl
 go_enter Tryz.func112,Tryz.ntmps112
 go_wp2_with (first
  |(go_at_call 138;refine(iQ _ _ _ oM oM _).mono ?_;rintro e w' ⟨rfl,rfl⟩)
  |(go_at_call 166;refine KI.out.mono ?_;rintro e w' ⟨rfl,rfl⟩))
 go_region
 all_goals
  go_wp2_with (first
   |(refine mH rfl 134 _ rfl _ rfl 134 _ (0,0) _ HR.out Tryz.underlying134 rfl kQ ?_)
   |(refine fY rfl 134 _ _ rfl _ _ rfl rfl 134 _ HR.out kQ rfl (by simp[cD]) ?_))
  refine bj (results_cell_tmp (g:=w.heap.size+1+1) rfl rfl (jw _ _ 134 134 _ (0,0) _ (dg HR.out) Tryz.underlying134 rfl kQ)) rfl ⟨rfl,?_⟩;exact dA HB.out oM
def Ge{lk:Int}(h0:0<=lk/\lk<=99):∀ {br:List Int},br.length<=3->(∀x∈br,0<=x/\x<=99)->(gG lk br).Ok
 |[],_,_=>⟨⟨h0.1,by show lk<=400;omega⟩,by simp[gG],by simp[gG],by simp[gG]⟩
 |[a],_,h=>⟨⟨h0.1,by show lk<=400;omega⟩,h a sM,by simp[gG],by simp[gG]⟩
 |[a,c],_,h=>⟨⟨h0.1,by show lk<=400;omega⟩,h a sM,h c sM,by simp[gG]⟩
 |[a,c,d],_,h=>⟨⟨h0.1,by show lk<=400;omega⟩,h a sM,h c sM,h d sM⟩
 |_::_::_::_::_,h,_=>by simp at h
def Zj(b:BB)(bq aM aC:aj)(ml:List Mn)(ss:List Int)(ms:List Mk)(w:ak)(hL:Laid w)(hB:cQ b bq aM aC ml ss ms w)(lk:Int)(h0:0<=lk/\lk<=99)(br:List Int)(hbr:∀x∈br,0<=x/\x<=99)(hl:br.length=ml.length)
  (g off cap:Nat) (hg:g<w.heap.size) (Hb:br.length<=cap) (hcc:∀j u,(br.map (aD af))[j]?=some u->w.cell? ⟨g,off+j,none⟩=some u) (pl:List Int) (hp:fM b pl) (lv:aj) (hlv:Reads w lv pl.length (pl.map (aD af))) :
  bm aq 32 #[aR (b.cells bq aM aC),aR #[ag af lk,ae (some ⟨g,off,none⟩) br.length cap],lv] w fun e w'=>∃v,e=aY (cH #[v,ag af 0])/\Reads w' v b.minutes.toNat ((b.js (b.bS+(gG lk br).used) (bJ pl) b.minutes.toNat).map (aD af))/\Bw w w':=by
 have hok:=hB.ok;have xu:=hok.minutes;have nQ:∀s∈pl,1<=s/\s<=8:=fun s h=>by have:=hp.mem s h;omega
 have DW:bJ pl<512:=mM pl nQ;have KQ:=hB.gS.len;have hao:=Ge h0 oM hbr;obtain⟨pm,cm,rfl,_⟩:=aT hB.rm;obtain⟨pn,cn,rfl,_⟩:=aT hB.rs;obtain⟨pk,ck,rfl,_⟩:=aT hB.rk;obtain⟨qJ,qX,rfl,_⟩:=aT hlv;have b0:Bw w ((w.alloc (au (b.sl pm ml.length cm pn ss.length cn pk ms.length ck) 28)).alloc (au #[ag af lk,ae (some ⟨g,off,none⟩) br.length cap] 42)):=dx.alloc sM _;have HT:mU (Two w (b.sl pm ml.length cm pn ss.length cn pk ms.length ck) 28 #[ag af lk,ae (some ⟨g,off,none⟩) br.length cap] 42 ((w.alloc (au (b.sl pm ml.length cm pn ss.length cn pk ms.length ck) 28)).alloc (au #[ag af lk,ae (some ⟨g,off,none⟩) br.length cap] 42))):=ai ⟨(Two.mk' w _ _ _ _).one,(Two.mk' w _ _ _ _).two,b0,sM⟩;have ug:=ai (eO b _ _ _ ml ss ms _ (hL.below b0) (hB.below b0))
 have HHd:mU (∀W,Bw w W->bm aq 112 #[aR (b.sl pm ml.length cm pn ss.length cn pk ms.length ck),aR #[ag af lk,ae (some ⟨g,off,none⟩) br.length cap]] W fun e w'=>e=aY (cH #[aR (gG lk br).cells,ag af 0])/\Bw W w'):=ai fun W hb=>
  CZ b _ _ _ ml KQ lk h0 br hbr hl g off cap W (hB.below hb).rm (bw hg hb.size) Hb fun j u hj=>(hb.cell (p:=⟨g,off+j,none⟩) hg).trans (hcc j u hj)
 have Xt:mU (∀W,Bw w W->bm aq 113 #[aR (b.sl pm ml.length cm pn ss.length cn pk ms.length ck),ae qJ pl.length qX] W fun e w'=>e=aY (ag af 0)/\Bw W w'):=ai fun W hb=>qL b hok _ _ _ _ pl hp W (hlv.below hb);have HLv:=ai hlv;have Zo:=ai nQ;clear hL hB hlv nQ hcc b0 hbr hp;generalize hA:gG lk br=A at *;clear hA;generalize ml.length=lm at *;generalize ss.length=ln at *;generalize ms.length=lk2 at *;generalize br.length=lb at *;subst hl
 go_enter Tryz.func32,Tryz.ntmps32
 go_wp2_with (first
  |(go_at_call 71;refine ug.out.mono ?_;clear ug;rintro e w1 ⟨rfl,hb1⟩
    have sZ:=HT.out.next hb1;have pE:=ai sZ
    obtain⟨x0,x1,x2,x3,x4,x5,x6,x7,x8,x9,qD,qC,rH,rz,rB⟩:=cg sZ.one;have zt:=(aZ w1 (au (b.sl pm lb cm pn ln cn pk lk2 ck) 119) (w.heap.size+1) (by have:=sZ.size;omega)).trans sZ.two;have z0:=aK zt 0 _ rfl;have z1:=aK zt 1 _ rfl;clear zt
    clear sZ hb1)
  |(go_at_call 112;refine(HHd.out _ (pE.out.below.alloc (by have:=pE.out.size;omega) _)).mono ?_;clear HHd;rintro e w2 ⟨rfl,hb2⟩
    have hk2:=(hb2.block w1.heap.size sM).trans (az w1 _);have Hu:=ai hk2;have nS:mU (Bw w w2):=ai ((pE.out.below.alloc (by have:=pE.out.size;omega) _).trans (hb2.mono (by have:=pE.out.size;simp;omega)));obtain⟨y0,y1,y2,y3,y4,y5,y6,y7,y8,y9,NS,PW,PV,PU,KX⟩:=cg ((aZ w2 (au A.cells 134) _ (ah.1 hk2).1).trans hk2);have hs2:=hb2.size;simp only[dY] at hs2
    clear hk2 hb2)
  |(go_at_call 113;refine(Xt.out _ (nS.out.alloc nS.out.size _)).mono ?_;clear Xt;rintro e w3 ⟨rfl,hb3⟩
    have HK3:mU (w3.heap[w1.heap.size]?=some (au (b.sl pm lb cm pn ln cn pk lk2 ck) 119 (0,0))):=ai ((hb3.block _ sO).trans ((aZ _ _ _ oM).trans Hu.out));have HA3:mU (w3.heap[w2.heap.size]?=some (au A.cells 134 (0,0))):=ai ((hb3.block _ sM).trans (az w2 _));have pF:mU (Bw w w3):=ai ((nS.out.alloc nS.out.size _).trans (hb3.mono (by have:=nS.out.size;simp;omega)))
    clear hb3))
 have hl3:=(ah.1 HK3.out).1;have ha3:=(ah.1 HA3.out).1
 refine cy kQ [
 pV (aR (b.sl pm lb cm pn ln cn pk lk2 ck)),
  pV (aR A.cells),
  pV (ae qJ pl.length qX),
  pV (ag af (bJ pl)),
  fun v ds w9=>Reads w9 v b.minutes.toNat ((b.js (b.bS+A.used) (bJ pl) b.minutes.toNat).map (aD af)),
  fun v ds w9=>Reads w9 v b.minutes.toNat ((b.js (b.bS+A.used) (bJ pl) b.minutes.toNat).map (aD af)),
  pV (ag af 0)]
  (fun w9=>Bw w3 w9) [(2,ae qJ pl.length qX),(9,pv w1.heap.size 0),(10,pv w2.heap.size 0)] kQ ?rst (fun w1 w2 h hb=>h.trans (hb.mono h.size)) ((aB _ _).drew) ⟨rfl,rfl,rfl,trivial⟩ ?reach ?rfin
 case rst=>
  refine⟨sV,sV,sV,sV,?_,?_,sV,trivial⟩
  .rintro v ds w1 w2 hS h hb;exact h.below hb
  rintro v ds w1 w2 hS h hb;exact h.below hb
 case reach=>
  refine⟨?_,?_,?_,?_,?_,?_,?_,trivial⟩<;>rintro ev w1 hS hc hg hf ⟨b2,b9,xK,-⟩ hd
  .obtain⟨u0,u1,u2,u3,u4,u5,u6,u7,u8,u9,u10,u11,u12,u13,u14⟩:=cg ((hS.block _ hl3).trans HK3.out);exact tV
  .obtain⟨u0,u1,u2,u3⟩:=qA ((hS.block _ ha3).trans HA3.out);exact tV
  .exact tV
  .have d2:ev (aL 37)=_:=hd.1 rfl;refine yq (args:=#[ae qJ pl.length qX]) (kH pl Zo.out _ _ (HLv.out.below (pF.out.trans (hS.mono pF.out.size)))) ?_ fun _=>rfl;go_simp
  .have d0:ev (aL 35)=_:=hd.1 rfl;have d1:ev (aL 36)=_:=hd.2.1 rfl;have d3:ev (aL 38)=_:=hd.2.2.1 rfl;refine jO (f:=114) (args:=#[aR (b.sl pm lb cm pn ln cn pk lk2 ck),aR A.cells,ag af (bJ pl)]) ?_ (zH b hok _ _ _ A hao (bJ pl) DW _) ?_
   .go_simp
   rintro e w2 ⟨v,rfl,h1,h2⟩;exact⟨_,rfl,Reads.iA h1 oM (by simp[BB.js]),cJ h2⟩
  .exact yv rfl (hd.1 rfl)
  exact tV
 case rfin=>
  intro a2 w4 hR;have hS:=hR.s;have e5:Reads w4 (a2.tmps.getD 6 aw) b.minutes.toNat ((b.js (b.bS+A.used) (bJ pl) b.minutes.toNat).map (aD af)):=hR.val 5;have e6:a2.tmps.getD 7 aw=_:=hR.val 6;have ha:=hR.lits 40 rfl;simp only[aS,cA,nh] at ha;clear hR;have afD:=ha;rw[e6] at ha;generalize a2.tmps.getD 6 aw=pv6 at *;generalize a2.tmps.getD=zz at ha;have HE:=ai e5;have HF:=ai hS;clear e5 e6 hS afD;subst ha;go_wp2;go_ret2;exact⟨_,rfl,HE.out,pF.out.trans (HF.out.mono pF.out.size)⟩
def Au(x y:Int):Int:=if x<y then -1 else if y<x then 1 else 0
def JN(x:Int)(w:ak):bm aq 179 #[ag af x] w fun e w'=>e=aY (aI false)/\w=w':=by
 go_enter Tryz.func179,Tryz.ntmps179
 go_wp2
 go_ret
 exact⟨rfl,rfl⟩
def xh(x y:Int)(w:ak):bm aq 161 #[ag af x,ag af y] w fun e w'=>e=aY (ag af (Au x y))/\w=w':=by
 rcases Int.lt_trichotomy x y with h|h|h
 .have e:Au x y = -1:=by unfold Au;rw[if_pos h]
  rw[e];clear e
  go_enter Tryz.func161,Tryz.ntmps161
  go_wp2_with (go_at_call 179;refine(JN _ _).mono ?_;rintro e w' ⟨rfl,rfl⟩)
  go_ret
  exact⟨rfl,rfl⟩
 .subst h;have e:Au x x=0:=by unfold Au;simp
  rw[e];clear e
  go_enter Tryz.func161,Tryz.ntmps161
  go_wp2_with (go_at_call 179;refine(JN _ _).mono ?_;rintro e w' ⟨rfl,rfl⟩)
  go_ret
  exact⟨rfl,rfl⟩
 have e:Au x y=1:=by unfold Au;rw[if_neg oM,if_pos h]
 have h2:¬x<y:=oM;rw[e];clear e
 go_enter Tryz.func161,Tryz.ntmps161
 go_wp2_with (go_at_call 179;refine(JN _ _).mono ?_;rintro e w' ⟨rfl,rfl⟩)
 go_ret
 exact⟨rfl,rfl⟩
def j9:List Int->List Int->Int
 |[],[]=>0
 |[],_::_=>-1
 |_::_,[]=>1
 |x::xs,y::ys=>if Au x y≠0 then Au x y else j9 xs ys
def D9:∀(xs ys:List Int),-1<=j9 xs ys/\j9 xs ys<=1
 |[],[]=>by simp[j9]
 |[],_::_=>by simp[j9]
 |_::_,[]=>by simp[j9]
 |x::xs,y::ys=>by
  have:=D9 xs ys;unfold j9
  by_cases h:Au x y≠0
  .rw[if_pos h];unfold Au
   by_cases h1:x<y
   .rw[if_pos h1];omega
   rw[if_neg h1]
   by_cases h2:y<x
   .rw[if_pos h2];omega
   rw[if_neg h2];omega
  rw[if_neg h];exact this
def S5(xs ys:List Int)(k:Nat)(hx:k<xs.length)(hy:k<ys.length):j9 (xs.drop k) (ys.drop k)=if Au xs[k] ys[k]≠0 then Au xs[k] ys[k] else j9 (xs.drop (k+1)) (ys.drop (k+1)):=by
 rw[dW hx,dW hy];rfl
def S4(xs ys:List Int)(k:Nat)(hx:k<xs.length)(hy:ys.length<=k):j9 (xs.drop k) (ys.drop k)=1:=by
 rw[dW hx,List.drop_eq_nil_of_le hy];rfl
def FP(xs ys:List Int)(k:Nat)(hx:xs.length<=k)(hk:k<=ys.length):j9 (xs.drop k) (ys.drop k)=if k<ys.length then -1 else 0:=by
 rw[List.drop_eq_nil_of_le hx]
 by_cases h:k<ys.length
 .rw[dW h,if_pos h];rfl
 rw[List.drop_eq_nil_of_le oM,if_neg h];rfl
def Pm(w:ak):bm aq 98 #[(ae none 0 0),(ae none 0 0)] w fun e w'=>e=aY (ag af (j9 [] []))/\w=w':=by
 go_enter Tryz.func98,Tryz.ntmps98
 go_wp2
 go_loop [11] (fun i=>i=ag af 0) (fun _=>0)
 case atStart=>exact rfl
 case round=>
  obtain rfl:=hrel;go_wp2
  go_ret
  exact⟨rfl,rfl⟩
def Pk(w:ak)(ys:List Int)(g2 o2 L2 c2:Nat)(hL2:ys.length=L2)(xr:L2<=4294967296)(hc2:∀j u,(ys.map (aD af))[j]?=some u->w.cell? ⟨g2,o2+j,none⟩=some u):bm aq 98 #[(ae none 0 0),(ae (some ⟨g2,o2,none⟩) L2 c2)] w fun e w'=>e=aY (ag af (j9 [] ys))/\w=w':=by
 have KU:=ai hL2;have HC2:=ai hc2;clear hL2 hc2
 go_enter Tryz.func98,Tryz.ntmps98
 go_wp2
 go_loop [11] (fun i=>i=ag af 0) (fun _=>0)
 case atStart=>exact rfl
 case round=>
  obtain rfl:=hrel
  by_cases h0:0<L2
  .have HE:mU (j9 [] ys = -1):=by have:=FP [] ys 0 sM oM;rw[KU.out,if_pos h0] at this;exact ai (by simpa using this)
   go_wp2
   go_ret
   exact⟨gR HE.out.symm,rfl⟩
  have HE:mU (j9 [] ys=0):=by have:=FP [] ys 0 sM oM;rw[KU.out,if_neg h0] at this;exact ai (by simpa using this)
  go_wp2
  go_ret
  exact⟨gR HE.out.symm,rfl⟩
def Pj(w:ak)(xs:List Int)(g1 o1 L1 c1:Nat)(hL1:xs.length=L1)(tQ:L1<=4294967296)(hc1:∀j u,(xs.map (aD af))[j]?=some u->w.cell? ⟨g1,o1+j,none⟩=some u):bm aq 98 #[(ae (some ⟨g1,o1,none⟩) L1 c1),(ae none 0 0)] w fun e w'=>e=aY (ag af (j9 xs []))/\w=w':=by
 have HL1:=ai hL1;have QW:=ai hc1;clear hL1 hc1
 go_enter Tryz.func98,Tryz.ntmps98
 go_wp2
 go_loop [5,6,7,8,11] (fun _ _ _ _ i=>∃k:Nat,k<=L1/\i=ag af k/\j9 xs []=j9 (xs.drop k) []) (fun _ _ _ _ i=>L1-(intOf i).toNat)
 case atStart=>exact⟨0,oM,rfl,sM⟩
 case round=>
  obtain⟨k,qT,rfl,OY⟩:=hrel;have QV:=ai OY;clear OY
  by_cases hlt:k<L1
  .have jY:k<xs.length:=by rw[HL1.out];exact hlt
   have abG:w.cell? ⟨g1,o1+k,none⟩=some (ag af xs[k]):=QW.out k _ (by simp[jY]);have HE:mU (j9 xs []=1):=by have h1:=QV.out;rw[dW jY] at h1;rw[h1];rfl
   generalize xs[k]=x at *
   go_wp2_with (go_at_call 161;refine(xh _ _ _).mono ?_;rintro e w' ⟨rfl,rfl⟩)
   go_ret
   exact⟨gR HE.out.symm,rfl⟩
  obtain rfl:k=L1:=oM;have HE:mU (j9 xs []=0):=by rw[QV.out,List.drop_eq_nil_of_le (by rw[HL1.out];exact aO _)];rfl
  go_wp2_with (go_at_call 161;refine(xh _ _ _).mono ?_;rintro e w' ⟨rfl,rfl⟩)
  go_ret
  exact⟨gR HE.out.symm,rfl⟩
def Pg(w:ak)(xs:List Int)(g1 o1 L1 c1:Nat)(hL1:xs.length=L1)(tQ:L1<=4294967296)(hc1:∀j u,(xs.map (aD af))[j]?=some u->w.cell? ⟨g1,o1+j,none⟩=some u)(ys:List Int)(g2 o2 L2 c2:Nat)(hL2:ys.length=L2)(xr:L2<=4294967296)(hc2:∀j u,(ys.map (aD af))[j]?=some u->w.cell? ⟨g2,o2+j,none⟩=some u):bm aq 98 #[(ae (some ⟨g1,o1,none⟩) L1 c1),(ae (some ⟨g2,o2,none⟩) L2 c2)] w fun e w'=>e=aY (ag af (j9 xs ys))/\w=w':=by
 have HL1:=ai hL1;have QW:=ai hc1;clear hL1 hc1;have KU:=ai hL2;have HC2:=ai hc2;clear hL2 hc2
 go_enter Tryz.func98,Tryz.ntmps98
 go_wp2
 go_loop [5,6,7,8,11] (fun _ _ _ _ i=>∃k:Nat,k<=L1/\k<=L2/\i=ag af k/\j9 xs ys=j9 (xs.drop k) (ys.drop k)) (fun _ _ _ _ i=>L1-(intOf i).toNat)
 case atStart=>exact⟨0,oM,oM,rfl,sM⟩
 case round=>
  obtain⟨k,qT,hk2,rfl,OY⟩:=hrel;have QV:=ai OY;clear OY
  by_cases hlt:k<L1
  .have jY:k<xs.length:=by rw[HL1.out];exact hlt
   have abG:w.cell? ⟨g1,o1+k,none⟩=some (ag af xs[k]):=QW.out k _ (by simp[jY])
   by_cases hlt2:k<L2
   .have hky:k<ys.length:=by rw[KU.out];exact hlt2
    have ajm:w.cell? ⟨g2,o2+k,none⟩=some (ag af ys[k]):=HC2.out k _ (by simp[hky]);have hst:=S5 xs ys k jY hky;generalize xs[k]=x at *;generalize ys[k]=y at *;have hC:=xh x y;obtain⟨c,hc⟩:∃c,Au x y=c:=⟨_,rfl⟩
    rw[hc] at hst hC;have HCC:=ai hc;clear hc
    by_cases hz:c=0
    .subst hz;rw[if_neg sM] at hst;have HST:=ai hst;clear hst
     go_wp2_with (go_at_call 161;refine(hC _).mono ?_;rintro e w' ⟨rfl,rfl⟩)
     go_round
     case rel=>exact⟨k+1,oM,oM,by go_num,QV.out.trans HST.out⟩
     case measure=>simp[intOf];omega
    have hb:(c==0)=false:=by simpa using hz
    have hb2:(c !=0)=true:=by simpa using hz
    rw[if_pos hz] at hst;have HST:=ai hst;have HZ:=ai hz;clear hst hz
    go_wp2_with (go_at_call 161;refine(hC _).mono ?_;rintro e w' ⟨rfl,rfl⟩)
    go_ret
    exact⟨gR (QV.out.trans HST.out).symm,rfl⟩
   have HE:mU (j9 xs ys=1):=QV.out.trans (S4 xs ys k jY (by rw[KU.out];omega));generalize xs[k]=x at *
   go_wp2_with (go_at_call 161;refine(xh _ _ _).mono ?_;rintro e w' ⟨rfl,rfl⟩)
   go_ret
   exact⟨gR HE.out.symm,rfl⟩
  obtain rfl:k=L1:=oM;have hend:=FP xs ys k (by rw[HL1.out];exact aO _) (by rw[KU.out];exact hk2);rw[KU.out] at hend
  by_cases h0:k<L2
  .rw[if_pos h0] at hend;have HE:mU (j9 xs ys = -1):=QV.out.trans hend;clear hend
   go_wp2_with (go_at_call 161;refine(xh _ _ _).mono ?_;rintro e w' ⟨rfl,rfl⟩)
   go_ret
   exact⟨gR HE.out.symm,rfl⟩
  rw[if_neg h0] at hend;have HE:mU (j9 xs ys=0):=QV.out.trans hend;clear hend
  go_wp2_with (go_at_call 161;refine(xh _ _ _).mono ?_;rintro e w' ⟨rfl,rfl⟩)
  go_ret
  exact⟨gR HE.out.symm,rfl⟩
def rX(xs ys:List Int)(v1 v2:aj)(w:ak)(h1:Reads w v1 xs.length (xs.map (aD af)))(h2:Reads w v2 ys.length (ys.map (aD af))) :
  bm aq 98 #[v1,v2] w fun e w'=>e=aY (ag af (j9 xs ys))/\w=w':=by
 rcases h1 with⟨rfl,hn,_⟩|⟨g1,o1,c1,rfl,tQ,_,hc1⟩
 .obtain rfl:=a8 hn;rcases h2 with⟨rfl,hn,_⟩|⟨g2,o2,c2,rfl,xr,_,hc2⟩
  .obtain rfl:=a8 hn;exact Pm w
  exact Pk w ys g2 o2 _ c2 rfl xr.1 hc2
 rcases h2 with⟨rfl,hn,_⟩|⟨g2,o2,c2,rfl,xr,_,hc2⟩
 .obtain rfl:=a8 hn;exact Pj w xs g1 o1 _ c1 rfl tQ.1 hc1
 exact Pg w xs g1 o1 _ c1 rfl tQ.1 hc1 ys g2 o2 _ c2 rfl xr.1 hc2
def ik(p:Nat):List Int:=(upTo p 8).map fun(m:Nat)=>(m:Int)
def RY(p:Nat):(ik p).length=(upTo p 8).length:=by simp[ik]
def tL(p:Nat)(hp:p<512)(w:ak):bm aq 99 #[ag af p] w fun e w'=>∃v,e=aY v/\Reads w' v (ik p).length ((ik p).map (aD af))/\Bw w w':=by
 refine(Md p hp w).mono ?_;rintro e w' ⟨v,rfl,hown,hb⟩;have hle:=wS p 8;refine⟨v,rfl,?_,hb⟩;have:=Reads.iA hown oM sM;rw[RY];simpa [ik,Function.comp_def] using this
def tN(a b:Nat):Bool:=decide ((upTo a 8).length<(upTo b 8).length)||(decide ((upTo a 8).length=(upTo b 8).length)&&decide (j9 (ik a) (ik b)<0))
def tM(a b:Nat):Bool:=decide ((upTo a 8).length<(upTo b 8).length)||(decide ((upTo a 8).length=(upTo b 8).length)&&decide (0<j9 (ik a) (ik b)))
def R3(a b:Nat)(ha:a<512)(hb:b<512)(w:ak):bm aq 96 #[ag af a,ag af b] w (Rt w (aI (tN a b))):=by
 have hA:=tX a ha;have hB:=tX b hb;have lA:=tL a ha;have lB:=tL b hb;have aiU:=wS a 8;have aiT:=wS b 8;have hL:tN a b=(decide ((upTo a 8).length<(upTo b 8).length)||(decide ((upTo a 8).length=(upTo b 8).length)&&decide (j9 (ik a) (ik b)<0))):=rfl;have Ae:=D9 (ik a) (ik b);generalize (upTo a 8).length=na at *;generalize (upTo b 8).length=nb at *;obtain⟨c,hc⟩:∃c,j9 (ik a) (ik b)=c:=⟨_,rfl⟩
 rw[hc] at hL Ae;have hC:=rX (ik a) (ik b);rw[hc] at hC;generalize tN a b=r at *;have HL:=ai hL;clear hL hc
 have K:∀w,bm aq 96 #[ag af a,ag af b] w (Rt w (aI (decide (na<nb)||(decide (na=nb)&&decide (c<0))))):=by
  clear HL;intro w
  by_cases h1:na<nb
  .have e1:decide (na<nb)=true:=sO;have er:(decide (na<nb)||(decide (na=nb)&&decide (c<0)))=true:=by rw[decide_eq_true h1];rfl
   rw[er];have H1:=ai h1;clear h1 er
   go_enter Tryz.func96,Tryz.ntmps96
   go_wp2_with fail
   refine(hA _).mono ?_;rintro e w1 ⟨rfl,hb1⟩
   go_wp2_with fail
   refine(hB _).mono ?_;rintro e w2 ⟨rfl,hb2⟩;go_wp2
   go_ret
   exact⟨rfl,hb1.trans (hb2.mono hb1.size)⟩
  have e1:decide (na<nb)=false:=sO
  by_cases h2:na=nb
  .subst h2;have er:(decide (na<na)||(decide (na=na)&&decide (c<0)))=decide (c<0):=sM;rw[er];clear h1 er e1;have e1:decide (na<na)=false:=sM;have e9:(na==na)=true:=sM
   go_enter Tryz.func96,Tryz.ntmps96
   go_wp2_with fail
   refine(hA _).mono ?_;rintro e w1 ⟨rfl,hb1⟩
   go_wp2_with fail
   refine(hB _).mono ?_;rintro e w2 ⟨rfl,hb2⟩
   go_wp2_with fail
   refine(hA _).mono ?_;rintro e w3 ⟨rfl,hb3⟩
   go_wp2_with fail
   refine(hB _).mono ?_;rintro e w4 ⟨rfl,hb4⟩
   go_wp2_with fail
   refine(lA _).mono ?_;rintro e w5 ⟨v5,rfl,hr5,hb5⟩
   go_wp2_with fail
   refine(lB _).mono ?_;rintro e w6 ⟨v6,rfl,hr6,hb6⟩;have U3:=hr5.below hb6
   go_wp2_with fail
   refine(hC v5 v6 _ U3 hr6).mono ?_;rintro e w7 ⟨rfl,rfl⟩;clear hr5 U3 hr6;go_wp2
   go_ret
   exact⟨rfl,hb1.trans ((hb2.trans ((hb3.trans ((hb4.trans ((hb5.trans (hb6.mono hb5.size)).mono hb4.size)).mono hb3.size)).mono hb2.size)).mono hb1.size)⟩
  have e2:decide ((na:Int)=(nb:Int))=false:=sO;have e3:((na:Int)==(nb:Int))=false:=sO;have e4:(na==nb)=false:=sO;have er:(decide (na<nb)||(decide (na=nb)&&decide (c<0)))=false:=by rw[decide_eq_false h1,decide_eq_false h2];rfl
  rw[er];have H1:=ai h1;have H2:=ai h2;clear h1 h2 er
  go_enter Tryz.func96,Tryz.ntmps96
  go_wp2_with fail
  refine(hA _).mono ?_;rintro e w1 ⟨rfl,hb1⟩
  go_wp2_with fail
  refine(hB _).mono ?_;rintro e w2 ⟨rfl,hb2⟩
  go_wp2_with fail
  refine(hA _).mono ?_;rintro e w3 ⟨rfl,hb3⟩
  go_wp2_with fail
  refine(hB _).mono ?_;rintro e w4 ⟨rfl,hb4⟩;go_wp2
  go_ret
  exact⟨rfl,hb1.trans ((hb2.trans ((hb3.trans (hb4.mono hb3.size)).mono hb2.size)).mono hb1.size)⟩
 rw[HL.out];exact K w
def R1(a b:Nat)(ha:a<512)(hb:b<512)(w:ak):bm aq 102 #[ag af a,ag af b] w (Rt w (aI (tM a b))):=by
 have hA:=tX a ha;have hB:=tX b hb;have lA:=tL a ha;have lB:=tL b hb;have aiU:=wS a 8;have aiT:=wS b 8;have hL:tM a b=(decide ((upTo a 8).length<(upTo b 8).length)||(decide ((upTo a 8).length=(upTo b 8).length)&&decide (0<j9 (ik a) (ik b)))):=rfl;have Ae:=D9 (ik a) (ik b);generalize (upTo a 8).length=na at *;generalize (upTo b 8).length=nb at *;obtain⟨c,hc⟩:∃c,j9 (ik a) (ik b)=c:=⟨_,rfl⟩
 rw[hc] at hL Ae;have hC:=rX (ik a) (ik b);rw[hc] at hC;generalize tM a b=r at *;have HL:=ai hL;clear hL hc
 have K:∀w,bm aq 102 #[ag af a,ag af b] w (Rt w (aI (decide (na<nb)||(decide (na=nb)&&decide (0<c))))):=by
  clear HL;intro w
  by_cases h1:na<nb
  .have e1:decide (na<nb)=true:=sO;have er:(decide (na<nb)||(decide (na=nb)&&decide (0<c)))=true:=by rw[decide_eq_true h1];rfl
   rw[er];have H1:=ai h1;clear h1 er
   go_enter Tryz.func102,Tryz.ntmps102
   go_wp2_with fail
   refine(hA _).mono ?_;rintro e w1 ⟨rfl,hb1⟩
   go_wp2_with fail
   refine(hB _).mono ?_;rintro e w2 ⟨rfl,hb2⟩;go_wp2
   go_ret
   exact⟨rfl,hb1.trans (hb2.mono hb1.size)⟩
  have e1:decide (na<nb)=false:=sO
  by_cases h2:na=nb
  .subst h2;have er:(decide (na<na)||(decide (na=na)&&decide (0<c)))=decide (0<c):=sM;rw[er];clear h1 er e1;have e1:decide (na<na)=false:=sM;have e9:(na==na)=true:=sM
   go_enter Tryz.func102,Tryz.ntmps102
   go_wp2_with fail
   refine(hA _).mono ?_;rintro e w1 ⟨rfl,hb1⟩
   go_wp2_with fail
   refine(hB _).mono ?_;rintro e w2 ⟨rfl,hb2⟩
   go_wp2_with fail
   refine(hA _).mono ?_;rintro e w3 ⟨rfl,hb3⟩
   go_wp2_with fail
   refine(hB _).mono ?_;rintro e w4 ⟨rfl,hb4⟩
   go_wp2_with fail
   refine(lA _).mono ?_;rintro e w5 ⟨v5,rfl,hr5,hb5⟩
   go_wp2_with fail
   refine(lB _).mono ?_;rintro e w6 ⟨v6,rfl,hr6,hb6⟩;have U3:=hr5.below hb6
   go_wp2_with fail
   refine(hC v5 v6 _ U3 hr6).mono ?_;rintro e w7 ⟨rfl,rfl⟩;clear hr5 U3 hr6;go_wp2
   go_ret
   exact⟨rfl,hb1.trans ((hb2.trans ((hb3.trans ((hb4.trans ((hb5.trans (hb6.mono hb5.size)).mono hb4.size)).mono hb3.size)).mono hb2.size)).mono hb1.size)⟩
  have e2:decide ((na:Int)=(nb:Int))=false:=sO;have e3:((na:Int)==(nb:Int))=false:=sO;have e4:(na==nb)=false:=sO;have er:(decide (na<nb)||(decide (na=nb)&&decide (0<c)))=false:=by rw[decide_eq_false h1,decide_eq_false h2];rfl
  rw[er];have H1:=ai h1;have H2:=ai h2;clear h1 h2 er
  go_enter Tryz.func102,Tryz.ntmps102
  go_wp2_with fail
  refine(hA _).mono ?_;rintro e w1 ⟨rfl,hb1⟩
  go_wp2_with fail
  refine(hB _).mono ?_;rintro e w2 ⟨rfl,hb2⟩
  go_wp2_with fail
  refine(hA _).mono ?_;rintro e w3 ⟨rfl,hb3⟩
  go_wp2_with fail
  refine(hB _).mono ?_;rintro e w4 ⟨rfl,hb4⟩;go_wp2
  go_ret
  exact⟨rfl,hb1.trans ((hb2.trans ((hb3.trans (hb4.mono hb3.size)).mono hb2.size)).mono hb1.size)⟩
 rw[HL.out];exact K w
def jQ(lt:Nat->Nat->Bool)(first:Nat)(more:List Nat):Nat:=more.foldl (fun b x=>if lt x b then x else b) first
def F5(lt:Nat->Nat->Bool)(first:Nat)(more:List Nat)(k:Nat)(hk:k<more.length):jQ lt first (more.take (k+1))=if lt more[k] (jQ lt first (more.take k)) then more[k] else jQ lt first (more.take k):=by
 unfold jQ;rw[bO hk,Cc];rfl
def AL(lt:Nat->Nat->Bool):∀(more:List Nat) (first:Nat),first<512->(∀x∈more,x<512)->jQ lt first more<512
 |[],first,h,_=>h
 |x::more,first,h,hx=>by
  refine AL lt more _ ?_ (fun y hy=>hx y (by simp[hy]));show(if lt x first=true then x else first)<512
  by_cases hl:lt x first=true
  .rw[if_pos hl];exact hx x sM
  rw[if_neg hl];exact h
def Tc(first:Nat)(hf:first<512)(more:List Nat)(hm:∀x∈more,x<512)(v:aj)(w:ak)(hv:Reads w v more.length (more.map fun(p:Nat)=>aD af (p:Int))) :
  bm aq 160 #[.func (.func 96) #[] #[],ag af first,v] w (Rt w (ag af (jQ tN first more:Nat))):=by
 rcases hv with⟨rfl,hn,_⟩|⟨g,off,cap,rfl,hn,hg,hc⟩
 .obtain rfl:=a8 hn;clear hn
  go_enter Tryz.func160,Tryz.ntmps160
  go_wp2
  go_loopw [1,11] (fun b i wr=>i=ag af 0/\b=ag af first/\Bw w wr) (fun _ _ _=>0)
  case atStart=>exact⟨rfl,rfl,aB _ _⟩
  case round=>
   obtain⟨rfl,rfl,eh⟩:=hrel;go_wp2
   go_ret
   exact⟨rfl,eh⟩
 have HC:=ai hc;have HM:=ai hm;clear hc hm;generalize hL:more.length=L at *;have HL:=ai hL;clear hL
 go_enter Tryz.func160,Tryz.ntmps160
 go_wp2
 go_loopw [1,8,11] (fun b _ i wr=>∃k:Nat,k<=L/\i=ag af k/\b=ag af (jQ tN first (more.take k):Nat)/\Bw w wr) (fun _ _ i _=>L-(intOf i).toNat)
 case atStart=>exact⟨0,oM,rfl,rfl,aB _ _⟩
 case round=>
  obtain⟨k,hk,rfl,rfl,eh⟩:=hrel;have hbl:=AL tN (more.take k) first hf (fun x hx=>HM.out x (eU hx))
  by_cases hlt:k<L
  .have jY:k<more.length:=by rw[HL.out];exact hlt
   have hcell:wr.cell? ⟨g,off+k,none⟩=some (ag af (more[k]:Nat)):=(eh.cell (p:=⟨g,off+k,none⟩) hg).trans (HC.out k _ (by simp[jY]));have hx:=HM.out more[k] (bQ jY);have hst:=F5 tN first more k jY
   generalize more[k]=x at *;generalize jQ tN first (more.take k)=bst at *
   have hB:=R3 x bst hx hbl;have hsz:=eh.size;cases hr:tN x bst
   all_goals
    rw[hr] at hst hB;have HR:=ai hr;have HST:=ai hst;clear hr hst
    go_wp2_with (go_at_call 96;refine(hB _).mono ?_;rintro e w2 ⟨rfl,hb2⟩)
    go_roundw
    case rel=>exact⟨k+1,oM,by go_num,by rw[HST.out];rfl,eh.trans (hb2.mono hsz)⟩
    case measure=>simp[intOf];omega
  obtain rfl:k=L:=oM;have sY:more.take k=more:=di (by rw[HL.out];exact aO _);rw[sY];clear sY;go_wp2
  go_ret
  exact⟨rfl,eh⟩
def Tb(first:Nat)(hf:first<512)(more:List Nat)(hm:∀x∈more,x<512)(v:aj)(w:ak)(hv:Reads w v more.length (more.map fun(p:Nat)=>aD af (p:Int))) :
  bm aq 160 #[.func (.func 102) #[] #[],ag af first,v] w (Rt w (ag af (jQ tM first more:Nat))):=by
 rcases hv with⟨rfl,hn,_⟩|⟨g,off,cap,rfl,hn,hg,hc⟩
 .obtain rfl:=a8 hn;clear hn
  go_enter Tryz.func160,Tryz.ntmps160
  go_wp2
  go_loopw [1,11] (fun b i wr=>i=ag af 0/\b=ag af first/\Bw w wr) (fun _ _ _=>0)
  case atStart=>exact⟨rfl,rfl,aB _ _⟩
  case round=>
   obtain⟨rfl,rfl,eh⟩:=hrel;go_wp2
   go_ret
   exact⟨rfl,eh⟩
 have HC:=ai hc;have HM:=ai hm;clear hc hm;generalize hL:more.length=L at *;have HL:=ai hL;clear hL
 go_enter Tryz.func160,Tryz.ntmps160
 go_wp2
 go_loopw [1,8,11] (fun b _ i wr=>∃k:Nat,k<=L/\i=ag af k/\b=ag af (jQ tM first (more.take k):Nat)/\Bw w wr) (fun _ _ i _=>L-(intOf i).toNat)
 case atStart=>exact⟨0,oM,rfl,rfl,aB _ _⟩
 case round=>
  obtain⟨k,hk,rfl,rfl,eh⟩:=hrel;have hbl:=AL tM (more.take k) first hf (fun x hx=>HM.out x (eU hx))
  by_cases hlt:k<L
  .have jY:k<more.length:=by rw[HL.out];exact hlt
   have hcell:wr.cell? ⟨g,off+k,none⟩=some (ag af (more[k]:Nat)):=(eh.cell (p:=⟨g,off+k,none⟩) hg).trans (HC.out k _ (by simp[jY]));have hx:=HM.out more[k] (bQ jY);have hst:=F5 tM first more k jY
   generalize more[k]=x at *;generalize jQ tM first (more.take k)=bst at *
   have hB:=R1 x bst hx hbl;have hsz:=eh.size;cases hr:tM x bst
   all_goals
    rw[hr] at hst hB;have HR:=ai hr;have HST:=ai hst;clear hr hst
    go_wp2_with (go_at_call 102;refine(hB _).mono ?_;rintro e w2 ⟨rfl,hb2⟩)
    go_roundw
    case rel=>exact⟨k+1,oM,by go_num,by rw[HST.out];rfl,eh.trans (hb2.mono hsz)⟩
    case measure=>simp[intOf];omega
  obtain rfl:k=L:=oM;have sY:more.take k=more:=di (by rw[HL.out];exact aO _);rw[sY];clear sY;go_wp2
  go_ret
  exact⟨rfl,eh⟩
def XX(b:BB)(bq aM aC:aj)(ml:List Mn)(ss:List Int)(ms:List Mk)(w:ak)(hL:Laid w)(hB:cQ b bq aM aC ml ss ms w)(hne:bf b ml ss ms≠[])(cp:Nat)
  (hown:∀W,Bw w W->bm aq 126 #[aR (b.cells bq aM aC),pv cp 0] W fun e W'=>e=aY (ag af 0)/\Bw W W') :
  bm aq 103 #[aR (b.cells bq aM aC),.func (.func 126) #[] #[pv cp 0]] w fun e w'=>∃v,e=aY (cH #[aR (b.open bq aM aC v),ag af 0])/\iv w' w.heap.size v (bf b ml ss ms)/\Bw w w':=by
 have ug:mU (∀W,Bw w W->bm aq 71 #[aR (b.cells bq aM aC)] W fun e w'=>e=aY (ag af 0)/\Bw W w'):=ai fun W hb=>eO b bq aM aC ml ss ms W (hL.below hb) (hB.below hb);have WN:mU (∀W,Bw w W->bm aq 116 #[.func (.func 117) #[aR (b.cells bq aM aC)] #[]] W fun e w'=>∃v,e=aY v/\iv w' W.heap.size v (bf b ml ss ms)/\Bw W w'):=ai fun W hb=>o_ b bq aM aC ml ss ms W (hB.below hb);have NB:=ai hown;obtain⟨pm,cm,rfl,_⟩:=aT hB.rm;obtain⟨pn,cn,rfl,_⟩:=aT hB.rs;obtain⟨pk,ck,rfl,_⟩:=aT hB.rk;have jX:0<(bf b ml ss ms).length:=cN.2 hne;clear hL hB hne hown;generalize bf b ml ss ms=all at *;generalize ml.length=lm at *;generalize ss.length=ln at *;generalize ms.length=lk at *;have b0:Bw w ((w.alloc (au (b.sl pm lm cm pn ln cn pk lk ck) 28)).alloc (au iE 122)):=dx.alloc sM _;have HT:mU (Two w (b.sl pm lm cm pn ln cn pk lk ck) 28 iE 122 ((w.alloc (au (b.sl pm lm cm pn ln cn pk lk ck) 28)).alloc (au iE 122))):=ai ⟨(Two.mk' w _ _ _ _).one,(Two.mk' w _ _ _ _).two,b0,sM⟩;have Jb:=ai b0;clear b0
 go_enter Tryz.func103,Tryz.ntmps103
 go_wp2_with (first
  |(refine mH rfl 122 _ rfl _ rfl 122 _ (0,0) _ HL7.out jl rfl kQ ?_)
  |(refine fY rfl 122 _ _ rfl _ _ rfl rfl 122 _ PQ.out kQ rfl (by simp[cD]) ?_)
  |(go_at_call 71;refine(ug.out _ Jb.out).mono ?_;clear ug;rintro e w1 ⟨rfl,hb1⟩
    have sZ:=HT.out.next hb1;have pE:=ai sZ
    obtain⟨x0,x1,x2,x3,x4,x5,x6,x7,x8,x9,qD,qC,rH,rz,rB⟩:=cg sZ.one
    clear sZ hb1)
  |(go_at_call 126;refine(NB.out _ (pE.out.below.alloc (by have:=pE.out.size;omega) _)).mono ?_;clear NB;rintro e w2 ⟨rfl,hb2⟩
    have Dp:=(pE.out.next ((aB _ _).alloc (aO _) (au (b.open (ae pm lm cm) (ae pn ln cn) (ae pk lk ck) (ae none 0 0)) 122))).next hb2;have Hs:=ai Dp
    have hk2:=(hb2.block w1.heap.size sM).trans (az w1 _);have Hu:=ai hk2;have hs1:=pE.out.size;have hs2:=hb2.size;obtain⟨y0,y1,y2,y3,y4,y5,y6,y7,y8,y9,NS,PW,PV,PU,KX,Jd⟩:=jJ hk2
    clear Dp hk2 hb2)
  |(go_at_call 116;refine(WN.out _ Hs.out.below).mono ?_;clear WN;rintro e w3 ⟨v,rfl,jc,hb3⟩
    have Gq:=Hs.out.next hb3;have QU:=ai Gq;have NC:=ai jc
    simp only[dY] at hs2;have hk3:=(hb3.block w1.heap.size oM).trans Hu.out;have HK3:=ai hk3;have hs3:=hb3.size;clear y0 y1 y2 y3 y4 y5 y6 y7 y8 y9 NS PW PV PU KX Jd;have Jd:=aK hk3 15 _ rfl;have f7:=cZ hk3 15;have pF:=ai hb3
    obtain⟨gv,pg,rfl,Fj⟩:∃gv pg,v=ae (some ⟨gv,0,none⟩) all.length pg/\w2.heap.size<=gv:=by
     rcases jc.1.2 with⟨_,h0⟩|⟨g,cap,cur,rfl,hg,_⟩
     .omega
     exact⟨g,cap,rfl,hg⟩
    have HL7:mU ((w3.setCell ⟨w1.heap.size,15,none⟩ (ae (some ⟨gv,0,none⟩) all.length pg)).heap[w1.heap.size]?=some (au (b.open (ae pm lm cm) (ae pn ln cn) (ae pk lk ck) (ae (some ⟨gv,0,none⟩) all.length pg)) 122 (0,0))):=ai (dc _ hk3);have PQ:mU ((w3.setCell ⟨w1.heap.size,15,none⟩ (ae (some ⟨gv,0,none⟩) all.length pg)).heap[w.heap.size+1]?=some (au iE 122 (0,0))):=ai ((bu _ _ _ _ (by show w.heap.size+1≠w1.heap.size;omega)).trans Gq.two)
    clear Gq hk3 hb3 jc))
 refine bj (results_cell_tmp (g:=w.heap.size+1) rfl rfl (jw _ _ 122 122 _ (0,0) _ (dg PQ.out) jl rfl kQ)) rfl ⟨_,rfl,?_,?_⟩
 .have hs1:=pE.out.size;refine(NC.out.at_ fun g hg=>?_).base oM;have Fo:g=gv:=by simpa [jy] using hg.symm
  subst Fo;exact(setRow_other oM).trans (bu _ _ _ _ (by show g≠w1.heap.size;omega))
 have hs1:=pE.out.size;exact dA (QU.out.below.setCell (p:=⟨w1.heap.size,15,none⟩) (by show _<=w1.heap.size;omega) _) oM
def Fa:(Tryz.prog.info? 81).map (fun i=>(i.zero,i.size,i.bytes))=some (some (aR #[ag af 0,ag af 0,ag af 0]),3,24):=kQ
def aa1:(Tryz.prog.info? 79).map (fun i=>(i.zero,i.size,i.bytes))=some (some (aR #[.string ⟨#[]⟩,ag af 0,ag af 0]),3,32):=kQ
def Po(v:aj)(n:Nat)(xs:List aj)(hl:xs.length=n*3)(h1:∀u∈xs,u.oneCell'=true)(hn:n<=1000)(w:ak)(hv:Reads w v n xs) :
  bm aq 149 #[v] w fun e w'=>∃v',e=aY v'/\w'.ownsRow w.heap.size 81 3 v' n xs/\Bw w w':=by
 obtain⟨i0,hi,hz0,hz1,hz2⟩:=jk Fa;rcases hv with⟨rfl,rfl,rfl⟩|⟨g,off,cap,rfl,Hb,hg,hc⟩
 .have hq:∀w,(binOp BinOp.eql 26 (eE none 0 0) (eE none 0 0)).run aq w=.ok (aI true) w:=fun w=>by kernel_rfl
  go_enter Tryz.func149,Tryz.ntmps149
  go_wp2
  go_ret
  exact⟨_,rfl,dG _ _ _ _,aB _ _⟩
 have QW:mU (∀j u,xs[j]?=some u->(w.alloc (au #[] 81)).cell? ((⟨g,off,none⟩:cX).add j)=some u):=ai fun j u hj=>by
  have e:(⟨g,off,none⟩:cX).add j=⟨g,off+j,none⟩:=by cases j<;>simp[jP]
  rw[e];exact(eD _ _ _ hg).trans (hc j u hj)
 have HO:=ai h1;have HL:=ai hl;clear hc h1 hl;have hq:∀w,(binOp BinOp.eql 26 (eE (some ⟨g,off,none⟩) n cap) (eE none 0 0)).run aq w=.ok (aI false) w:=fun w=>by kernel_rfl
 go_enter Tryz.func149,Tryz.ntmps149
 go_wp2_with (at_builtin;refine g_ _ rfl _ _ 26 rfl w.heap.size 81 i0 (aR #[ag af 0,ag af 0,ag af 0]) 3 24 tj hi hz0 hz1 hz2 rfl dC _ _ _ rfl (World.ownsRow_made w #[] 0 (aO _) (by unfold jx;omega) rfl) ⟨g,off,none⟩ n cap xs rfl HL.out QW.out HO.out (by unfold jx;omega) oM sM ?_;intro v' w1 hown hgrow hnil)
 go_ret
 refine⟨_,rfl,by simpa using hown,?_⟩;exact((aB _ _).alloc (aO _) (au #[] 81)).grown hgrow sM fun j hj=>by have h2:w.heap.size=j:=bp hj;omega
def V3(v:aj)(n:Nat)(xs:List aj)(hl:xs.length=n*3)(h1:∀u∈xs,u.oneCell'=true)(hn:n<=1000)(w:ak)(hv:Reads w v n xs) :
  bm aq 154 #[v] w fun e w'=>∃v',e=aY v'/\w'.ownsRow w.heap.size 79 3 v' n xs/\Bw w w':=by
 obtain⟨i0,hi,hz0,hz1,hz2⟩:=jk aa1;rcases hv with⟨rfl,rfl,rfl⟩|⟨g,off,cap,rfl,Hb,hg,hc⟩
 .have hq:∀w,(binOp BinOp.eql 24 (eE none 0 0) (eE none 0 0)).run aq w=.ok (aI true) w:=fun w=>by kernel_rfl
  go_enter Tryz.func154,Tryz.ntmps154
  go_wp2
  go_ret
  exact⟨_,rfl,dG _ _ _ _,aB _ _⟩
 have QW:mU (∀j u,xs[j]?=some u->(w.alloc (au #[] 79)).cell? ((⟨g,off,none⟩:cX).add j)=some u):=ai fun j u hj=>by
  have e:(⟨g,off,none⟩:cX).add j=⟨g,off+j,none⟩:=by cases j<;>simp[jP]
  rw[e];exact(eD _ _ _ hg).trans (hc j u hj)
 have HO:=ai h1;have HL:=ai hl;clear hc h1 hl;have hq:∀w,(binOp BinOp.eql 24 (eE (some ⟨g,off,none⟩) n cap) (eE none 0 0)).run aq w=.ok (aI false) w:=fun w=>by kernel_rfl
 go_enter Tryz.func154,Tryz.ntmps154
 go_wp2_with (at_builtin;refine g_ _ rfl _ _ 24 rfl w.heap.size 79 i0 (aR #[.string ⟨#[]⟩,ag af 0,ag af 0]) 3 32 Tryz.underlying24 hi hz0 hz1 hz2 rfl dC _ _ _ rfl (World.ownsRow_made w #[] 0 (aO _) (by unfold jx;omega) rfl) ⟨g,off,none⟩ n cap xs rfl HL.out QW.out HO.out (by unfold jx;omega) oM sM ?_;intro v' w1 hown hgrow hnil)
 go_ret
 refine⟨_,rfl,by simpa using hown,?_⟩;exact((aB _ _).alloc (aO _) (au #[] 79)).grown hgrow sM fun j hj=>by have h2:w.heap.size=j:=bp hj;omega
def S6(v:aj)(n:Nat)(xs:List aj)(hl:xs.length=n*1)(h1:∀u∈xs,u.oneCell'=true)(hn:n<=1000)(w:ak)(hv:Reads w v n xs) :
  bm aq 156 #[v] w fun e w'=>∃v',e=aY v'/\w'.ownsRow w.heap.size 3 1 v' n xs/\Bw w w':=by
 obtain⟨i0,hi,hz0,hz1,hz2⟩:=jk info3;rcases hv with⟨rfl,rfl,rfl⟩|⟨g,off,cap,rfl,Hb,hg,hc⟩
 .have hq:∀w,(binOp BinOp.eql 25 (eE none 0 0) (eE none 0 0)).run aq w=.ok (aI true) w:=fun w=>by kernel_rfl
  go_enter Tryz.func156,Tryz.ntmps156
  go_wp2
  go_ret
  exact⟨_,rfl,dG _ _ _ _,aB _ _⟩
 have QW:mU (∀j u,xs[j]?=some u->(w.alloc (au #[] 3)).cell? ((⟨g,off,none⟩:cX).add j)=some u):=ai fun j u hj=>by
  have e:(⟨g,off,none⟩:cX).add j=⟨g,off+j,none⟩:=by cases j<;>simp[jP]
  rw[e];exact(eD _ _ _ hg).trans (hc j u hj)
 have HO:=ai h1;have HL:=ai hl;clear hc h1 hl;have hq:∀w,(binOp BinOp.eql 25 (eE (some ⟨g,off,none⟩) n cap) (eE none 0 0)).run aq w=.ok (aI false) w:=fun w=>by kernel_rfl
 go_enter Tryz.func156,Tryz.ntmps156
 go_wp2_with (at_builtin;refine g_ _ rfl _ _ 25 rfl w.heap.size 3 i0 (ag af 0) 1 8 ek hi hz0 hz1 hz2 rfl dC _ _ _ rfl (World.ownsRow_made w #[] 0 (aO _) (by unfold jx;omega) rfl) ⟨g,off,none⟩ n cap xs rfl HL.out QW.out HO.out (by unfold jx;omega) oM sM ?_;intro v' w1 hown hgrow hnil)
 go_ret
 refine⟨_,rfl,by simpa using hown,?_⟩;exact((aB _ _).alloc (aO _) (au #[] 3)).grown hgrow sM fun j hj=>by have h2:w.heap.size=j:=bp hj;omega
def RQ(l:List Mn):∀u∈fQ l,u.oneCell'=true:=by
 intro u hu;simp only[fQ,lg] at hu;obtain⟨m,_,hu⟩:=hu;simp at hu;rcases hu with rfl|rfl|rfl<;>rfl
def Iw(l:List Mk):∀u∈dV l,u.oneCell'=true:=by
 intro u hu;simp only[dV,lg] at hu;obtain⟨m,_,hu⟩:=hu;simp at hu;rcases hu with rfl|rfl|rfl<;>rfl
def Us(l:List Int):∀u∈l.map (aD af),u.oneCell'=true:=by
 intro u hu;simp at hu;obtain⟨x,_,rfl⟩:=hu;rfl
def dw{W:ak}{base:Nat}{e:a7}{size:Nat}{v:aj}{n:Nat}{xs:List aj}(h:W.ownsRow base e size v n xs):∃p c,v=ae p n c:=by
 rcases h.2 with⟨rfl,rfl⟩|⟨g,cap,cur,rfl,_⟩
 .exact⟨_,_,rfl⟩
 exact⟨_,_,rfl⟩
structure sW(n:Nat)(a b c:aj):Prop where
 one:∀g,a.ownBlock=some g->n<=g
 two:∀g,b.ownBlock=some g->n<=g
 three:∀g,c.ownBlock=some g->n<=g
def sW.base{n m:Nat}{a b c:aj}(h:sW n a b c)(hm:m<=n):sW m a b c:=⟨fun g hg=>aF hm (h.one g hg),fun g hg=>aF hm (h.two g hg),fun g hg=>aF hm (h.three g hg)⟩
def Reads.at_{w w':ak}{v:aj}{n:Nat}{xs:List aj}(h:Reads w v n xs)(hs:w.heap.size<=w'.heap.size)(hk:∀g,v.ownBlock=some g->w'.heap[g]?=w.heap[g]?):Reads w' v n xs:=by
 rcases h with h|⟨g,off,cap,h1,h2,h3,h4⟩
 .exact cJ h
 exact .inr ⟨g,off,cap,h1,h2,bw h3 hs,fun j u hj=>(World.cell?_of_block (a:=⟨g,off+j,none⟩) (hk g (by rw[h1];rfl))).trans (h4 j u hj)⟩
def cQ.setRow{b:BB}{m s k:aj}{ml:List Mn}{ss:List Int}{ms:List Mk}{w:ak}{n B:Nat}{cs:Array aj}(h:cQ b m s k ml ss ms w)(hf:sW n m s k)(hB:B<n):cQ b m s k ml ss ms (w.setRow B cs):=
 ⟨h.ok,h.gS,h.mE,h.kI,h.rm.at_ (by rw[setRow_size];exact aO _) fun g hg=>setRow_other (by have:=hf.one g hg;omega),h.rs.at_ (by rw[setRow_size];exact aO _) fun g hg=>setRow_other (by have:=hf.two g hg;omega),h.rk.at_ (by rw[setRow_size];exact aO _) fun g hg=>setRow_other (by have:=hf.three g hg;omega)⟩
def Typed(w:ak)(v:aj)(t:a7):Prop:=∀g,v.ownBlock=some g->∃cs,w.heap[g]?=some (au cs t (0,0))
structure fX(b:BB)(m s k:aj)(ml:List Mn)(ss:List Int)(ms:List Mk)(w:ak):Prop extends cQ b m s k ml ss ms w where
 t1:Typed w m 79
 t2:Typed w s 3
 t3:Typed w k 81
def Typed.setRow{w:ak}{v:aj}{t:a7}(h:Typed w v t){B:Nat}{cs:Array aj}(hB:∀g,v.ownBlock=some g->g≠B):Typed (w.setRow B cs) v t:=fun g hg=>by
 obtain⟨c,hc⟩:=h g hg;exact⟨c,(setRow_other (hB g hg)).trans hc⟩
def fX.setRow{b:BB}{m s k:aj}{ml:List Mn}{ss:List Int}{ms:List Mk}{w:ak}{n B:Nat}{cs:Array aj}(h:fX b m s k ml ss ms w)(hf:sW n m s k)(hB:B<n):fX b m s k ml ss ms (w.setRow B cs):=
 ⟨h.tocQ.setRow hf hB,h.t1.setRow fun g hg=>by have:=hf.one g hg;omega,h.t2.setRow fun g hg=>by have:=hf.two g hg;omega,h.t3.setRow fun g hg=>by have:=hf.three g hg;omega⟩
def sj{w:ak}{base:Nat}{e:a7}{size:Nat}{v:aj}{n:Nat}{xs:List aj}(h:w.ownsRow base e size v n xs):Typed w v e:=fun g hg=>by
 rcases h.2 with⟨rfl,_⟩|⟨g',c,cur,rfl,_,h1,_⟩
 .cases hg
 obtain rfl:g'=g:=bp hg;exact⟨cur,h1⟩
def bP{w1 w2:ak}{base:Nat}{e:a7}{size:Nat}{v:aj}{n:Nat}{xs:List aj}(h:w1.ownsRow base e size v n xs)(hb:Bw w1 w2):w2.ownsRow base e size v n xs:=eN h fun g hg=>hb.block g (h.lt g hg).2
def dm{w1:ak}{base:Nat}{e t:a7}{size B i:Nat}{v u:aj}{n:Nat}{xs:List aj}{cs:Array aj}(h:w1.ownsRow base e size v n xs)(hB:w1.heap[B]?=some (au cs t (0,0)))(ht:t≠e):(w1.setCell ⟨B,i,none⟩ u).ownsRow base e size v n xs:=by
 refine eN h fun g hg=>bu _ _ _ _ ?_;show g≠B;rintro rfl;rcases h.2 with⟨rfl,_⟩|⟨g',cap,cur,rfl,_,h1,_⟩
 .cases hg
 have h3:g'=g:=bp hg;subst h3;rw[hB] at h1;cases h1;exact ht rfl
def Hr(w:ak)(b:BB)(bq aM aC:aj)(Z:Array aj)(A B C:Bool)(w9:ak):Prop:=
 ∃m s k,w9.heap[w.heap.size]?=some (au (b.cells m s k) 28 (0,0))/\(A=false->m=bq)/\(B=false->s=aM)/\(C=false->k=aC)/\w9.heap[w.heap.size+1]?=some (au Z 28 (0,0))/\Bw w w9/\w.heap.size+2<=w9.heap.size
def Hr.below{w:ak}{b:BB}{bq aM aC:aj}{Z:Array aj}{A B C:Bool}{w9:ak}(h:Hr w b bq aM aC Z A B C w9):Bw w w9:=by obtain⟨_,_,_,_,_,_,_,_,h,_⟩:=h;exact h
def Hr.zero{w:ak}{b:BB}{bq aM aC:aj}{Z:Array aj}{A B C:Bool}{w9:ak}(h:Hr w b bq aM aC Z A B C w9):w9.heap[w.heap.size+1]?=some (au Z 28 (0,0)):=by obtain⟨_,_,_,_,_,_,_,h,_,_⟩:=h;exact h
def Hr.size{w:ak}{b:BB}{bq aM aC:aj}{Z:Array aj}{A B C:Bool}{w9:ak}(h:Hr w b bq aM aC Z A B C w9):w.heap.size+2<=w9.heap.size:=by obtain⟨_,_,_,_,_,_,_,_,_,h⟩:=h;exact h
def Hr.next{w:ak}{b:BB}{bq aM aC:aj}{Z:Array aj}{A B C A' B' C':Bool}{w1 w2:ak}(hA:A'=false->A=false)(hB:B'=false->B=false)(hC:C'=false->C=false)(h:Hr w b bq aM aC Z A B C w1)(hb:Bw w1 w2):Hr w b bq aM aC Z A' B' C' w2:=by
 obtain⟨m,s,k,h1,h2,h3,h4,h5,h6,h7⟩:=h;exact⟨m,s,k,(hb.block _ oM).trans h1,fun h=>h2 (hA h),fun h=>h3 (hB h),fun h=>h4 (hC h),(hb.block _ oM).trans h5,h6.trans (hb.mono oM),aF h7 hb.size⟩
def XV(b:BB)(bq aM aC:aj)(ml:List Mn)(ss:List Int)(ms:List Mk)(w:ak)(hB:cQ b bq aM aC ml ss ms w) :
  bm aq 157 #[aR (b.cells bq aM aC)] w fun e w'=>∃m' s' k',e=aY (aR (b.cells m' s' k'))/\fX b m' s' k' ml ss ms w'/\sW w.heap.size m' s' k'/\Bw w w':=by
 have KQ:=hB.gS.len;have hk3:=hB.kI.len;have hs3:ss.length<=3:=by have:=hB.mE.len;have:=hB.ok.eI;omega
 obtain⟨pm,cm,rfl,_⟩:=aT hB.rm;obtain⟨pn,cn,rfl,_⟩:=aT hB.rs;obtain⟨pk,ck,rfl,_⟩:=aT hB.rk;have ht:=Two.mk' w (b.sl pm ml.length cm pn ss.length cn pk ms.length ck) 28 AZ 28
 go_enter Tryz.func157,Tryz.ntmps157
 go_wp2
 refine Ph.cy kQ [
 pV (pv w.heap.size 12),
  pV (ae pm ml.length cm),
  fun v ds w9=>w9.ownsRow (w.heap.size+2) 79 3 v ml.length (fQ ml),
  pV (pv w.heap.size 13),
  pV (ae pn ss.length cn),
  fun v ds w9=>w9.ownsRow (w.heap.size+2) 3 1 v ss.length (ss.map (aD af)),
  pV (pv w.heap.size 14),
  pV (ae pk ms.length ck),
  fun v ds w9=>w9.ownsRow (w.heap.size+2) 81 3 v ms.length (dV ms),
  pV (pv w.heap.size 12),
  fun v ds w9=>∃x s m,ds[1]?=some x/\w9.heap[w.heap.size]?=some (au (b.cells x s m) 28 (0,0)),
  pV (pv w.heap.size 13),
  fun v ds w9=>∃x y m,ds[5]?=some x/\ds[1]?=some y/\w9.heap[w.heap.size]?=some (au (b.cells x y m) 28 (0,0)),
  pV (pv w.heap.size 14),
  fun v ds w9=>∃x y z,ds[5]?=some x/\ds[8]?=some y/\ds[1]?=some z/\w9.heap[w.heap.size]?=some (au (b.cells x y z) 28 (0,0))]
  (fun L w9=>Hr w b (ae pm ml.length cm) (ae pn ss.length cn) (ae pk ms.length ck) AZ (L 10) (L 12) (L 14) w9) [(1,pv w.heap.size 0)] kQ ?rst (fun L L2 w1 w2 Ty h hb=>h.next (Ty 10) (Ty 12) (Ty 14) hb) (⟨_,_,_,ht.one,fun _=>rfl,fun _=>rfl,fun _=>rfl,ht.two,ht.below,ht.size⟩) ⟨rfl,trivial⟩ ?reach ?rfin
 case rst=>
  refine⟨Ph.sV,Ph.sV,?_,Ph.sV,Ph.sV,?_,Ph.sV,Ph.sV,?_,Ph.sV,?_,Ph.sV,?_,Ph.sV,?_,trivial⟩
  .rintro v ds L w1 w2 hS h hb;exact bP h hb
  .rintro v ds L w1 w2 hS h hb;exact bP h hb
  .rintro v ds L w1 w2 hS h hb;exact bP h hb
  .rintro v ds L w1 w2 hS ⟨x,s,m,h1,h2⟩ hb;exact⟨x,s,m,h1,(hb.block _ (ah.1 h2).1).trans h2⟩
  .rintro v ds L w1 w2 hS ⟨x,s,m,h1,h2,h3⟩ hb;exact⟨x,s,m,h1,h2,(hb.block _ (ah.1 h3).1).trans h3⟩
  rintro v ds L w1 w2 hS ⟨x,s,m,h1,h2,h3,h4⟩ hb;exact⟨x,s,m,h1,h2,h3,(hb.block _ (ah.1 h4).1).trans h4⟩
 case reach=>
  refine⟨?_,?_,?_,?_,?_,?_,?_,?_,?_,?_,?_,?_,?_,?_,?_,trivial⟩<;>rintro Lf ev w1 hn nw hS hc hg hf ⟨b1,-⟩ hd
  .exact Ph.tV
  .have d0:ev (aL 3)=_:=hd.1 rfl;obtain⟨m0,s0,k0,hb0,q1,q2,q3,_⟩:=hS;obtain rfl:=q1 (hn 10 kQ);have x:=aK hb0 12 _ rfl;exact Ph.tV
  .have d1:ev (aL 4)=_:=hd.1 rfl;refine jO (f:=154) (args:=#[ae pm ml.length cm]) ?_ (V3 _ ml.length (fQ ml) (by rw[wX];omega) (RQ ml) oM w1 (hB.rm.below hS.below)) ?_
   .go_simp
   rintro e w2 ⟨v',rfl,ho,hb⟩;exact⟨_,rfl,ownsRow_base ho hS.size,cJ hb⟩
  .exact Ph.tV
  .have d3:ev (aL 6)=_:=hd.1 rfl;obtain⟨m0,s0,k0,hb0,q1,q2,q3,_⟩:=hS;obtain rfl:=q2 (hn 12 kQ);have x:=aK hb0 13 _ rfl;exact Ph.tV
  .have d4:ev (aL 7)=_:=hd.1 rfl;refine jO (f:=156) (args:=#[ae pn ss.length cn]) ?_ (S6 _ ss.length (ss.map (aD af)) sM (Us ss) oM w1 (hB.rs.below hS.below)) ?_
   .go_simp
   rintro e w2 ⟨v',rfl,ho,hb⟩;exact⟨_,rfl,ownsRow_base ho hS.size,cJ hb⟩
  .exact Ph.tV
  .have d6:ev (aL 9)=_:=hd.1 rfl;obtain⟨m0,s0,k0,hb0,q1,q2,q3,_⟩:=hS;obtain rfl:=q3 (hn 14 kQ);have x:=aK hb0 14 _ rfl;exact Ph.tV
  .have d7:ev (aL 10)=_:=hd.1 rfl;refine jO (f:=149) (args:=#[ae pk ms.length ck]) ?_ (Po _ ms.length (dV ms) (by rw[qo];omega) (Iw ms) oM w1 (hB.rk.below hS.below)) ?_
   .go_simp
   rintro e w2 ⟨v',rfl,ho,hb⟩;exact⟨_,rfl,ownsRow_base ho hS.size,cJ hb⟩
  .exact Ph.tV
  .have d9:ev (aL 12)=_:=hd.1 rfl;have d2:w1.ownsRow (w.heap.size+2) 79 3 (ev (aL 5)) ml.length (fQ ml):=hd.2.1 rfl;obtain⟨p5,c5,e5⟩:=dw d2;have hb:=hS.below;have hz:=hS.zero;have hsz:=hS.size;obtain⟨m0,s0,k0,hb0,q1,q2,q3,_⟩:=hS;have c1:=aK hb0 12 _ rfl;have f1:=cZ hb0 12;refine yva (w':=w1.setCell ⟨w.heap.size,12,none⟩ (ev (aL 5))) ?_ ⟨⟨_,s0,k0,rfl,dc _ hb0⟩,.inr ⟨⟨_,s0,k0,dc _ hb0,(by intro h;simp[Ph.upd] at h),q2,q3,(bu _ _ _ _ (by show _≠w.heap.size;omega)).trans hz,hb.setCell (p:=⟨w.heap.size,12,none⟩) (aO _) _,by simpa using hsz⟩,?_⟩⟩
   .rw[e5];go_simp
   .intro j u ds hj hL hp
    match j,hp with
    |0,hp|1,hp=>exact hp
    |2,hp=>exact dm hp hb0 dC
    |3,hp|4,hp=>exact hp
    |5,hp=>exact dm hp hb0 dC
    |6,hp|7,hp=>exact hp
    |8,hp=>exact dm hp hb0 dC
    |9,hp=>exact hp
    |10,_=>exact(hj rfl).elim
    |11,hp=>exact hp
    |12,_=>rw[hn 12 kQ] at hL;cases hL
    |13,hp=>exact hp
    |14,_=>rw[hn 14 kQ] at hL;cases hL
    |j+15,_=>trivial
  .exact Ph.tV
  .have d11:ev (aL 13)=_:=hd.1 rfl;have d5:w1.ownsRow (w.heap.size+2) 3 1 (ev (aL 8)) ss.length (ss.map (aD af)):=hd.2.1 rfl;have d10:∃x s m,(_:List aj)[1]?=some x/\w1.heap[w.heap.size]?=some (au (b.cells x s m) 28 (0,0)):=hd.2.2.1 rfl;have d1:ev (aL 4)=_:=hd.2.2.2.2.1 rfl;obtain⟨p5,c5,e8⟩:=dw d5;have hb:=hS.below;have hz:=hS.zero;have hsz:=hS.size;obtain⟨x,s,m,h1,h2⟩:=d10;obtain⟨m0,s0,k0,hb0,q1,q2,q3,_⟩:=hS;rw[hb0] at h2;cases h2;have c1:=aK hb0 13 _ rfl;have f1:=cZ hb0 13;refine yva (w':=w1.setCell ⟨w.heap.size,13,none⟩ (ev (aL 8))) ?_ ⟨⟨_,_,_,h1,rfl,dc _ hb0⟩,.inr ⟨⟨_,_,_,dc _ hb0,(fun h=>q1 (by simpa [Ph.upd] using h)),(by intro h;simp[Ph.upd] at h),q3,(bu _ _ _ _ (by show _≠w.heap.size;omega)).trans hz,hb.setCell (p:=⟨w.heap.size,13,none⟩) (aO _) _,by simpa using hsz⟩,?_⟩⟩
   .rw[e8];go_simp
   .intro j u ds hj hL hp
    match j,hp with
    |0,hp|1,hp=>exact hp
    |2,hp=>exact dm hp hb0 dC
    |3,hp|4,hp=>exact hp
    |5,hp=>exact dm hp hb0 dC
    |6,hp|7,hp=>exact hp
    |8,hp=>exact dm hp hb0 dC
    |9,hp=>exact hp
    |10,⟨x,s,m,h1,h2⟩=>rw[hb0] at h2;cases h2;exact⟨_,_,_,h1,dc _ hb0⟩
    |11,hp=>exact hp
    |12,_=>exact(hj rfl).elim
    |13,hp=>exact hp
    |14,_=>rw[hn 14 kQ] at hL;cases hL
    |j+15,_=>trivial
  .exact Ph.tV
  have d13:ev (aL 14)=_:=hd.1 rfl;have d8:w1.ownsRow (w.heap.size+2) 81 3 (ev (aL 11)) ms.length (dV ms):=hd.2.1 rfl;have d12:∃x y m,(_:List aj)[5]?=some x/\(_:List aj)[1]?=some y/\w1.heap[w.heap.size]?=some (au (b.cells x y m) 28 (0,0)):=hd.2.2.1 rfl;have d1:ev (aL 4)=_:=hd.2.2.2.2.1 rfl;obtain⟨p5,c5,e11⟩:=dw d8;have hb:=hS.below;have hz:=hS.zero;have hsz:=hS.size;obtain⟨x,y,m,h1,h2,h3⟩:=d12;obtain⟨m0,s0,k0,hb0,q1,q2,q3,_⟩:=hS;rw[hb0] at h3;cases h3;have c1:=aK hb0 14 _ rfl;have f1:=cZ hb0 14;refine yva (w':=w1.setCell ⟨w.heap.size,14,none⟩ (ev (aL 11))) ?_ ⟨⟨_,_,_,h1,h2,rfl,dc _ hb0⟩,.inr ⟨⟨_,_,_,dc _ hb0,(fun h=>q1 (by simpa [Ph.upd] using h)),(fun h=>q2 (by simpa [Ph.upd] using h)),(by intro h;simp[Ph.upd] at h),(bu _ _ _ _ (by show _≠w.heap.size;omega)).trans hz,hb.setCell (p:=⟨w.heap.size,14,none⟩) (aO _) _,by simpa using hsz⟩,?_⟩⟩
  .rw[e11];go_simp
  .intro j u ds hj hL hp
   match j,hp with
   |0,hp|1,hp=>exact hp
   |2,hp=>exact dm hp hb0 dC
   |3,hp|4,hp=>exact hp
   |5,hp=>exact dm hp hb0 dC
   |6,hp|7,hp=>exact hp
   |8,hp=>exact dm hp hb0 dC
   |9,hp=>exact hp
   |10,⟨x,s,m,h1,h2⟩=>rw[hb0] at h2;cases h2;exact⟨_,_,_,h1,dc _ hb0⟩
   |11,hp=>exact hp
   |12,⟨x,y,m,h1,h2,h3⟩=>rw[hb0] at h3;cases h3;exact⟨_,_,_,h1,h2,dc _ hb0⟩
   |13,hp=>exact hp
   |14,_=>exact(hj rfl).elim
   |j+15,_=>trivial
 case rfin=>
  intro a2 w2 hR;have hS:=hR.s;have e2:w2.ownsRow (w.heap.size+2) 79 3 (a2.tmps.getD 5 aw) ml.length (fQ ml):=hR.val 2;have e5:w2.ownsRow (w.heap.size+2) 3 1 (a2.tmps.getD 8 aw) ss.length (ss.map (aD af)):=hR.val 5;have e8:w2.ownsRow (w.heap.size+2) 81 3 (a2.tmps.getD 11 aw) ms.length (dV ms):=hR.val 8;obtain⟨x,y,z,h5,h8,h11,lJ⟩:=hR.val 14;have k1:a2.tmps.getD 1 aw=pv w.heap.size 0:=hR.kept kQ;have k2:a2.tmps.getD 2 aw=pv (w.heap.size+1) 0:=hR.kept kQ;have k0:a2.tmps.getD 0 aw=aR (b.sl pm ml.length cm pn ss.length cn pk ms.length ck):=hR.kept kQ;have ha:=hR.lits 16 rfl;simp only[aS,cA,nh] at ha;clear hR;have e5':a2.tmps.getD 5 aw=x:=bp h5;have e8':a2.tmps.getD 8 aw=y:=bp h8;have agi:a2.tmps.getD 11 aw=z:=bp h11;rw[e5'] at e2;rw[e8'] at e5;rw[agi] at e8;rw[k0,k1,k2] at ha;generalize a2.tmps.getD=zz at ha;clear k0 k1 k2 h5 h8 h11 e5' e8' agi;obtain⟨p5,c5,rfl⟩:=dw e2;obtain⟨p8,c8,rfl⟩:=dw e5;obtain⟨Xb,c11,rfl⟩:=dw e8;have HX:=ai lJ;have HZ:=ai hS.zero;have Gj:=ai hS.below;have H2:=ai e2;have H5:=ai e5;have H8:=ai e8;have HB:=ai hB;clear lJ hS e2 e5 e8 hB ht;subst ha
  go_wp2_with (first
   |(refine mH rfl 28 _ rfl _ rfl 28 _ (0,0) _ HX.out cM rfl kQ ?_)
   |(refine fY rfl 28 _ _ rfl _ _ rfl rfl 28 _ HZ.out kQ rfl (by simp[cD]) ?_))
  refine bj (results_cell_row rfl _ _ (w.heap.size+1) 28 _ (0,0) _ rfl (dg HZ.out) cM rfl kQ) rfl ⟨_,_,_,rfl,?_,⟨fun g hg=>by have:=(H2.out.lt g hg).1;omega,fun g hg=>by have:=(H5.out.lt g hg).1;omega,fun g hg=>by have:=(H8.out.lt g hg).1;omega⟩,dA Gj.out oM⟩;have hz:=HZ.out;have ns:∀ {e size v n xs},w2.ownsRow (w.heap.size+2) e size v n xs->(w2.setRow (w.heap.size+1) (b.sl p5 ml.length c5 p8 ss.length c8 Xb ms.length c11)).ownsRow (w.heap.size+2) e size v n xs:=fun h=>eN h fun g hg=>setRow_other (by have:=(h.lt g hg).1;omega);exact⟨⟨HB.out.ok,HB.out.gS,HB.out.mE,HB.out.kI,Reads.iA (ns H2.out) oM (by rw[wX];omega),Reads.iA (ns H5.out) oM sM,Reads.iA (ns H8.out) oM (by rw[qo];omega)⟩,sj (ns H2.out),sj (ns H5.out),sj (ns H8.out)⟩
def dZ(n mask:Nat):List Nat:=(aS n).filter fun i=>mask.testBit i
def uY(n mask:Nat):List Int:=(dZ n mask).map fun(i:Nat)=>(i:Int)
def zK{W:ak}{b1 b2:Nat}{e1 e2:a7}{s1 s2:Nat}{v1 v2:aj}{n1 n2:Nat}{x1 x2:List aj}(h1:W.ownsRow b1 e1 s1 v1 n1 x1)(h2:W.ownsRow b2 e2 s2 v2 n2 x2)(he:e1≠e2){g:Nat}(hg:v1.ownBlock=some g):some g≠v2.ownBlock:=by
 intro h;rcases h1.2 with⟨rfl,_⟩|⟨g1,c1,q1,rfl,_,a1,_⟩
 .cases hg
 rcases h2.2 with⟨rfl,_⟩|⟨g2,c2,q2,rfl,_,a2,_⟩
 .cases h
 obtain rfl:g1=g:=bp hg;obtain rfl:g1=g2:=bp h;rw[a1] at a2;cases a2;exact he rfl
def ko{W:ak}{b1:Nat}{e1 t:a7}{s1:Nat}{v1:aj}{n1:Nat}{x1:List aj}{B:Nat}{cs:Array aj}(h1:W.ownsRow b1 e1 s1 v1 n1 x1)(hB:W.heap[B]?=some (au cs t (0,0)))(he:t≠e1):some B≠v1.ownBlock:=by
 intro h;rcases h1.2 with⟨rfl,_⟩|⟨g1,c1,q1,rfl,_,a1,_⟩
 .cases h
 obtain rfl:B=g1:=bp h;rw[hB] at a1;cases a1;exact he rfl
def rV(n mask:Nat):dZ (n+1) mask=dZ n mask++if mask.testBit n then[n] else[]:=by
 unfold dZ;rw[List.range_succ,List.filter_append];cases h:mask.testBit n<;>simp[h]
def qY(n mask:Nat):(dZ n mask).length<=n:=by
 have:=List.length_filter_le (fun i=>mask.testBit i) (aS n);simpa [dZ] using this
end Go.Proofs.YtffladgmkiimjaaGreatDoor
namespace Go.Lag
open Go Go.RowKit
def Yields.ri{P:Program}{o:Oper}{ev:bI->aj}{w:ak}{R:aj->ak->Prop}(s x:bI)(t:a7)(ho:o.op=.call { callee:=.builtin .append,args:=#[s,x],argTypes:=#[t,t] })
  (base:Nat) (e:a7) (i:TypeInfo) (z:aj) (size td:Nat) (ht:P.underlying t=some (.slice e)) (hi:P.info? e=some i) (hz:i.zero=some z) (hsize:i.size=size) (hby:i.bytes=td) (hzs:z.cells.size=size) (hsz:0<size)
  (v:aj) (n:Nat) (xs:List aj) (hs:ev s=v) (hown:w.ownsRow base e size v n xs) (ad:cX) (m c:Nat) (news:List aj) (hx:ev x=.slice (some ad) m c) (hl:news.length=m*size) (hnews:∀j u,news[j]?=some u->w.cell? (ad.add j)=some u) (h1:∀u∈news,u.oneCell'=true)
  (h63:n+m<=jx) (hbytes:(n+m)*td<=140737488355328) (hbase:base<=w.heap.size)
  (h:∀v' w',w'.ownsRow base e size v' (n+m) (xs++news)->w.grownBy w' v.ownBlock->(v'=.slice none 0 0↔v=.slice none 0 0/\m=0)->R v' w'):Lag.Yields P o ev w R:=by
 obtain⟨v',w',hr,h2,h3,h4⟩:=run_append_own (P:=P) w base t o.type e i z size td ht hi hz hsize hby hzs hsz v n xs hown ad m c news hl hnews h1 h63 hbytes hbase;refine Gw (v:=v') (w':=w') ?_ (h v' w' h2 h3 h4);unfold execOp;simp only[ho,resolve,invoke,builtin,mI,Ca,h_,HV,cV,fg,hs,hx,hr]
def Src(w:ak)(sv:aj)(m:Nat)(news:List aj):Prop:=
 (sv=.slice none 0 0/\m=0/\news=[])\/∃ad c,sv=.slice (some ad) m c/\∀j u,news[j]?=some u->w.cell? (ad.add j)=some u
section
variable{P:Program}{o:Oper}{ev:bI->aj}{w:ak}{R:aj->ak->Prop}
theorem Ez(base:Nat)(t ty e:a7)(i:TypeInfo)(z:aj)(size td:Nat)(ht:P.underlying t=some (.slice e))(hi:P.info? e=some i)(hz:i.zero=some z)
  (hsize:i.size=size) (hby:i.bytes=td) (hzs:z.cells.size=size) (hsz:0<size)
  (v:aj) (n:Nat) (xs:List aj) (hown:w.ownsRow base e size v n xs) (sv:aj) (m:Nat) (news:List aj) (hl:news.length=m*size) (Fc:Src w sv m news) (h1:∀u∈news,u.oneCell'=true)
  (h63:n+m<=jx) (hbytes:(n+m)*td<=140737488355328) (hbase:base<=w.heap.size) :
  ∃v' w',(kE #[t,t] ty #[v,sv]).run P w=.ok v' w'/\w'.ownsRow base e size v' (n+m) (xs++news)/\w.grownBy w' v.ownBlock:=by
 rcases Fc with⟨rfl,rfl,rfl⟩|⟨ad,c,rfl,hnews⟩
 .refine⟨v,w,run_append_owned_none w base t ty e i size ht hi v n xs hown,by simpa using hown,rfl,rfl,rfl,aO _,fun _ _ _=>rfl⟩
 obtain⟨v',w',h2,h3,h4,_⟩:=run_append_own (P:=P) w base t ty e i z size td ht hi hz hsize hby hzs hsz v n xs hown ad m c news hl hnews h1 h63 hbytes hbase;exact⟨v',w',h2,h3,h4⟩
theorem KC{w':ak}{v':aj}(base:Nat)(t ty e:a7)(i:TypeInfo)(z:aj)(size td:Nat)(ht:P.underlying t=some (.slice e))(hi:P.info? e=some i)(hz:i.zero=some z)(hsize:i.size=size)(hby:i.bytes=td)
  (v:aj) (n:Nat) (xs:List aj) (hown:w.ownsRow base e size v n xs) (sv:aj) (m:Nat) (news:List aj) (hl:news.length=m*size) (Fc:Src w sv m news) (h1:∀u∈news,u.oneCell'=true)
  (h63:n+m<=jx) (hbytes:(n+m)*td<=140737488355328) (hr:(kE #[t,t] ty #[v,sv]).run P w=.ok v' w') :
  ∀ {b2:Nat} {u:aj} {n2:Nat} {ys:List aj},n2<=n->w.ownsRow b2 e size u n2 ys->w'.ownsRow b2 e size u n2 ys:=by
 intro b2 u n2 ys xr hu;subst hsize;subst hby;have aa_:n+m<=9223372036854775807:=by simp only[jx] at h63;omega
 rcases Fc with⟨rfl,rfl,rfl⟩|⟨ad,c,rfl,hnews⟩
 .have h2:=run_append_owned_none w base t ty e i i.size ht hi v n xs hown;rw[h2] at hr;cases hr;exact hu
 have grow:∀(o:Obj),(w.drew.alloc o).ownsRow b2 e i.size u n2 ys:=fun o=>by
  refine⟨hu.1,?_⟩;rcases hu.2 with h|⟨g,cap,cur,h2,h3,h4,h5⟩
  .exact .inl h
  exact .inr ⟨g,cap,cur,h2,h3,(aZ w.drew o g (ah.1 h4).1).trans h4,h5⟩
 rcases hown.2 with⟨rfl,rfl⟩|⟨g,cap,cur,rfl,hbg,hg,vF,hcm,hcs,U0⟩
 .by_cases hm:m=0
  .subst hm;have hn:news=[]:=a8 (by simpa using hl);subst hn
   have h2:(kE #[t,t] ty #[.slice none 0 0,.slice (some ad) 0 c]).run P w=.ok (.slice none 0 0) w:=by
    simp[kE,run_underlying ht,sizeOf,typeInfo,hi,DL,eM,loadCells,loadCellsFrom]
   rw[h2] at hr;cases hr;exact hu
  have h2:=run_append_nil (P:=P) w t ty e i z ht hi hz ad m c news hl hnews (by omega) (by omega) (by have hb:=hbytes;simp only[dh] at hb;omega);rw[h2] at hr;cases hr;exact grow _
 by_cases hroom:n+m<=cap
 .have Ss:n*i.size+news.length<=cur.size:=by rw[hl,hcs,<-Nat.add_mul];exact Nat.mul_le_mul_right _ hroom
  have h2:=run_append_room (P:=P) w t ty e i ht hi g n cap cur hg ad m c news hl hnews h1 hroom Ss;rw[h2] at hr;cases hr;refine⟨hu.1,?_⟩;rcases hu.2 with h|⟨g2,acI,aki,k2,h3,h4,h5,h6,h7,h8⟩
  .exact .inl h
  refine .inr ?_
  by_cases Fo:g2=g
  .subst Fo;rw[hg] at h4;cases h4;refine⟨g2,acI,_,k2,h3,setRow_heap w g2 cur _ e _ hg,h5,h6,?_,?_⟩
   .rw[<-h7];simp only[jM,qj,List.length_take,List.length_drop,Array.length_toList];omega
   rw[<-h8];have hle:n2*i.size<=n*i.size:=Nat.mul_le_mul_right _ xr;simp only[List.append_assoc];rw[List.take_append_of_le_length (by rw[List.length_take,Array.length_toList];omega),List.take_take,Nat.min_eq_left hle]
  exact⟨g2,acI,aki,k2,h3,(setRow_other w g g2 _ Fo).trans h4,h5,h6,h7,h8⟩
 have holds:∀j u,xs[j]?=some u->w.cell? ((⟨g,0,none⟩:cX).add j)=some u:=hown.cells (g:=g) rfl;have h2:=run_append_grow (P:=P) w t ty e i z ht hi hz ⟨g,0,none⟩ n cap xs hown.1 holds ad m c news hl hnews (by omega) (by omega) (growslice_fits (by omega) hbytes);rw[h2] at hr;cases hr;exact grow _
theorem Yields.PB(s x:bI)(t:a7)(ho:o.op=.call { callee:=.builtin .append,args:=#[s,x],argTypes:=#[t,t] })
  (base:Nat) (e:a7) (i:TypeInfo) (z:aj) (size td:Nat) (ht:P.underlying t=some (.slice e)) (hi:P.info? e=some i) (hz:i.zero=some z) (hsize:i.size=size) (hby:i.bytes=td) (hzs:z.cells.size=size) (hsz:0<size)
  (v:aj) (n:Nat) (xs:List aj) (hs:ev s=v) (hown:w.ownsRow base e size v n xs) (sv:aj) (m:Nat) (news:List aj) (hx:ev x=sv) (hl:news.length=m*size) (Fc:Src w sv m news) (h1:∀u∈news,u.oneCell'=true)
  (h63:n+m<=jx) (hbytes:(n+m)*td<=140737488355328) (hbase:base<=w.heap.size)
  (h:∀v' w',w'.ownsRow base e size v' (n+m) (xs++news)->w.grownBy w' v.ownBlock->(∀ {b2:Nat} {u:aj} {n2:Nat} {ys:List aj},n2<=n->w.ownsRow b2 e size u n2 ys->w'.ownsRow b2 e size u n2 ys)->R v' w'):Lag.Yields P o ev w R:=by
 obtain⟨v',w',hr,h2,h3⟩:=Ez (P:=P) (w:=w) base t o.type e i z size td ht hi hz hsize hby hzs hsz v n xs hown sv m news hl Fc h1 h63 hbytes hbase;refine Gw (v:=v') (w':=w') ?_ (h v' w' h2 h3 (KC base t o.type e i z size td ht hi hz hsize hby v n xs hown sv m news hl Fc h1 h63 hbytes hr));unfold execOp;simp only[ho,resolve,invoke,builtin,mI,Ca,h_,HV,cV,fg,hs,hx,hr]
theorem Ba(base:Nat)(t ty e:a7)(i:TypeInfo)(z:aj)(size td:Nat)(ht:P.underlying t=some (.slice e))(hi:P.info? e=some i)(hz:i.zero=some z)
  (hsize:i.size=size) (hby:i.bytes=td) (hzs:z.cells.size=size) (hsz:0<size) (q:Nat) (hq:w.heap[q]?=some (.cells #[] e (0,0))) (hbq:base<=q)
  (sv:aj) (m:Nat) (news:List aj) (hl:news.length=m*size) (Fc:Src w sv m news) (h1:∀u∈news,u.oneCell'=true) (h63:m<=jx) (hbytes:m*td<=140737488355328) :
  ∃v' w',(kE #[t,t] ty #[.slice (some ⟨q,0,none⟩) 0 0,sv]).run P w=.ok v' w'/\w'.ownsRow base e size v' m news/\Bw w w'/\(m=0->v'=.slice (some ⟨q,0,none⟩) 0 0):=by
 have hql:=(ah.1 hq).1;have hown:w.ownsRow base e size (.slice (some ⟨q,0,none⟩) 0 0) 0 []:=⟨by simp,.inr ⟨q,0,#[],rfl,hbq,hq,aO _,gD _,by simp,by simp⟩⟩
 by_cases hm:m=0
 .subst hm;have hn:news=[]:=a8 (by simpa using hl);subst hn;rcases Fc with⟨rfl,_,_⟩|⟨ad,c,rfl,hnews⟩
  .exact⟨_,w,run_append_owned_none w base t ty e i size ht hi _ 0 [] hown,hown,aB _ _,fun _=>rfl⟩
  have hr:=run_append_room (P:=P) w t ty e i ht hi q 0 0 #[] hq ad 0 c [] (by simp) hnews h1 (by omega) (by simp)
  have hk:∀k,(w.setRow q (((#[]:Array aj).toList.take (0*i.size)++[]++(#[]:Array aj).toList.drop (0*i.size+([]:List aj).length)).toArray)).heap[k]?=w.heap[k]?:=fun k=>by
   by_cases hkq:k=q
   .subst hkq;rw[setRow_heap w k #[] _ e (0,0) hq,hq];simp
   exact setRow_other w q k _ hkq
  refine⟨_,_,hr,⟨by simp,.inr ⟨q,0,#[],rfl,hbq,(hk q).trans hq,aO _,gD _,by simp,by simp⟩⟩,⟨rfl,rfl,rfl,by simp,fun k _=>hk k⟩,fun _=>rfl⟩
 rcases Fc with⟨_,h0,_⟩|⟨ad,c,rfl,hnews⟩
 .exact absurd h0 hm
 subst hsize;subst hby;have hr:=run_append_grow (P:=P) w t ty e i z ht hi hz ⟨q,0,none⟩ 0 0 [] (by simp) (fun j u hj=>by simp at hj) ad m c news hl hnews (by omega) (by simp only[jx] at h63;omega) (growslice_fits (by omega) (by simpa using hbytes));have hge:=grownCap_ge w (0+m) 0 e;have hcm:grownCap w (0+m) 0 e<=maxLen:=grownCap_le_maxLen w (0+m) 0 e (by omega);simp only[dh] at hr hge hcm;refine⟨_,_,hr,⟨by simpa using hl,.inr ⟨w.heap.size,grownCap w m 0 e,_,rfl,by omega,heap_alloc_new w.drew _,by omega,hcm,?_,?_⟩⟩,?_,fun h=>absurd h hm⟩
 .simp only[Array.size_append,jM,size_zeroCells,hzs,hl,List.length_nil,dh];rw[<-Nat.add_mul]
  congr 1
  omega
 .simp only[Array.toList_append,List.nil_append];rw[show m*i.size=news.length from hl.symm];exact List.take_left
 exact(aB _ _).drew.alloc (aO _) _
theorem Yields.append_empty(s x:bI)(t:a7)(ho:o.op=.call { callee:=.builtin .append,args:=#[s,x],argTypes:=#[t,t] })
  (base:Nat) (e:a7) (i:TypeInfo) (z:aj) (size td:Nat) (ht:P.underlying t=some (.slice e)) (hi:P.info? e=some i) (hz:i.zero=some z) (hsize:i.size=size) (hby:i.bytes=td) (hzs:z.cells.size=size) (hsz:0<size)
  (q:Nat) (hs:ev s=.slice (some ⟨q,0,none⟩) 0 0) (hq:w.heap[q]?=some (.cells #[] e (0,0))) (hbq:base<=q) (sv:aj) (m:Nat) (news:List aj) (hx:ev x=sv) (hl:news.length=m*size) (Fc:Src w sv m news) (h1:∀u∈news,u.oneCell'=true)
  (h63:m<=jx) (hbytes:m*td<=140737488355328) (h:∀v' w',w'.ownsRow base e size v' m news->Bw w w'->(m=0->v'=.slice (some ⟨q,0,none⟩) 0 0)->R v' w'):Lag.Yields P o ev w R:=by
 obtain⟨v',w',hr,h2,h3,h4⟩:=Ba (P:=P) (w:=w) base t o.type e i z size td ht hi hz hsize hby hzs hsz q hq hbq sv m news hl Fc h1 h63 hbytes;refine Gw (v:=v') (w':=w') ?_ (h v' w' h2 h3 h4);unfold execOp;simp only[ho,resolve,invoke,builtin,mI,Ca,h_,HV,cV,fg,hs,hx,hr]
end
end Go.Lag
namespace Go.Proofs.YtffladgmkiimjaaGreatDoor
open Go.RowKit Go.Lag
def Iq(l:List Mk)(m:Mk):dV (l++[m])=dV l++m.cells.toList:=by simp[dV]
def Reads.src{w:ak}{v:aj}{n:Nat}{xs:List aj}(h:Reads w v n xs):Src w v n xs:=by
 rcases h with⟨h1,h2,h3⟩|⟨g,off,cap,h1,_,_,h4⟩
 .exact cJ ⟨h1,h2,h3⟩
 exact .inr ⟨⟨g,off,none⟩,cap,h1,fun j u hj=>by
  have:=h4 j u hj
  cases j<;>simpa [jP] using this⟩
structure QT(k:Nat)(bk mk:Array aj)(w0:ak)(C:Bool)(w:ak):Prop where
 one:w.heap[k]?=some (au bk 28 (0,0))
 two:w.heap[k+1]?=some (au mk 81 (0,0))
 three:w.heap[k+2]?=some (au AZ 28 (0,0))
 four:C=false->w.heap[k+3]?=some (au bk 28 (0,0))
 below:Below k w0 w
 size:k+4<=w.heap.size
section
variable{k:Nat}{bk mk:Array aj}{w0 w1 w2:ak}{C C':Bool}
theorem QT.next(hC:C'=false->C=false)(h:QT k bk mk w0 C w1)(hb:Bw w1 w2):QT k bk mk w0 C' w2:=by
 have hs:=h.size;exact⟨(hb.block _ oM).trans h.one,(hb.block _ oM).trans h.two,(hb.block _ oM).trans h.three,fun e=>(hb.block _ oM).trans (h.four (hC e)),h.below.trans (hb.mono oM),aF hs hb.size⟩
theorem QT.grown{row:Option Nat}(hC:C'=C)(h:QT k bk mk w0 C w1)(g:w1.grownBy w2 row)(hr:∀q,row=some q->k+4<=q):QT k bk mk w0 C' w2:=by
 subst hC;have hs:=h.size;have hn:∀q,q<k+4->some q≠row:=fun q hq e=>by have:=hr q e.symm;omega
 exact⟨(g.block _ oM (hn _ oM)).trans h.one,(g.block _ oM (hn _ oM)).trans h.two,(g.block _ oM (hn _ oM)).trans h.three,fun e=>(g.block _ oM (hn _ oM)).trans (h.four e),h.below.grown g oM (fun q hq=>by have:=hr q hq;omega),aF hs g.size⟩
theorem QT.put(h:QT k bk mk w0 C w1)(u:aj)(i:Nat):QT k bk mk w0 true (w1.setCell ⟨k+3,i,none⟩ u):=by
 have hn:∀q,q≠k+3->(w1.setCell ⟨k+3,i,none⟩ u).heap[q]?=w1.heap[q]?:=fun q hq=>bu _ _ _ _ hq;exact⟨(hn _ oM).trans h.one,(hn _ oM).trans h.two,(hn _ oM).trans h.three,fun e=>(by cases e),h.below.setCell (p:=⟨k+3,i,none⟩) (by show k<=k+3;omega) _,by simpa using h.size⟩
theorem QT.drew(h:QT k bk mk w0 C w1):QT k bk mk w0 C w1.drew:=⟨h.one,h.two,h.three,h.four,h.below.drew,h.size⟩
end
def PK(b:BB)(bq aM aC:aj)(hv:(∃p n c,bq=ae p n c)/\(∃p n c,aM=ae p n c))(ms:List Mk)(hlen:ms.length<=20)(m:Mk)(w:ak)(hk:Reads w aC ms.length (dV ms)) :
  bm aq 88 #[aR (b.cells bq aM aC),aR m.cells] w fun e w'=>∃k',e=aY (aR (b.cells bq aM k'))/\Reads w' k' (ms++[m]).length (dV (ms++[m]))/\(∃g,k'.ownBlock=some g/\w.heap.size<=g/\∃cs,w'.heap[g]?=some (au cs 81 (0,0)))/\Bw w w':=by
 obtain⟨i1,AY,Ml,hy1,hy2⟩:=jk Fa;obtain⟨⟨pm,nm,cm,rfl⟩,⟨pn,nn,cn,rfl⟩⟩:=hv;obtain⟨pk,ck,rfl,_⟩:=aT hk;have HL:=ai (qo ms);have nQ:(((w.alloc (au (b.sl pm nm cm pn nn cn pk ms.length ck) 28)).alloc (au m.cells 81)).alloc (au AZ 28)).heap.size=w.heap.size+3:=sM;have hb3:Bw w (((w.alloc (au (b.sl pm nm cm pn nn cn pk ms.length ck) 28)).alloc (au m.cells 81)).alloc (au AZ 28)):=(dx.alloc sM _).alloc sO _;have h0:(((w.alloc (au (b.sl pm nm cm pn nn cn pk ms.length ck) 28)).alloc (au m.cells 81)).alloc (au AZ 28)).heap[w.heap.size]?=some (au (b.sl pm nm cm pn nn cn pk ms.length ck) 28 (0,0)):=(aZ _ _ _ sO).trans ((aZ _ _ _ sM).trans (az w _));have h1:(((w.alloc (au (b.sl pm nm cm pn nn cn pk ms.length ck) 28)).alloc (au m.cells 81)).alloc (au AZ 28)).heap[w.heap.size+1]?=some (au m.cells 81 (0,0)):=(aZ _ _ _ sM).trans (by have:=az (w.alloc (au (b.sl pm nm cm pn nn cn pk ms.length ck) 28)) (au m.cells 81);simpa using this);have h2:(((w.alloc (au (b.sl pm nm cm pn nn cn pk ms.length ck) 28)).alloc (au m.cells 81)).alloc (au AZ 28)).heap[w.heap.size+2]?=some (au AZ 28 (0,0)):=by have:=az ((w.alloc (au (b.sl pm nm cm pn nn cn pk ms.length ck) 28)).alloc (au m.cells 81)) (au AZ 28);simpa using this
 have h3:((((w.alloc (au (b.sl pm nm cm pn nn cn pk ms.length ck) 28)).alloc (au m.cells 81)).alloc (au AZ 28)).alloc (au (b.sl pm nm cm pn nn cn pk ms.length ck) 28)).heap[w.heap.size+3]?=some (au (b.sl pm nm cm pn nn cn pk ms.length ck) 28 (0,0)):=by have:=az (((w.alloc (au (b.sl pm nm cm pn nn cn pk ms.length ck) 28)).alloc (au m.cells 81)).alloc (au AZ 28)) (au (b.sl pm nm cm pn nn cn pk ms.length ck) 28);rw[nQ] at this;exact this
 have HS0:mU (QT w.heap.size (b.sl pm nm cm pn nn cn pk ms.length ck) m.cells w false ((((w.alloc (au (b.sl pm nm cm pn nn cn pk ms.length ck) 28)).alloc (au m.cells 81)).alloc (au AZ 28)).alloc (au (b.sl pm nm cm pn nn cn pk ms.length ck) 28))):=
  ai ⟨(aZ _ _ _ (by rw[nQ];omega)).trans h0,(aZ _ _ _ (by rw[nQ];omega)).trans h1,(aZ _ _ _ (by rw[nQ];omega)).trans h2,fun _=>h3,hb3.alloc (by rw[nQ];omega) _,sM⟩
 have HRk:mU (∀w9,Bw w w9->Src w9 (ae pk ms.length ck) ms.length (dV ms)):=ai fun w9 h9=>(hk.below h9).src;clear h0 h1 h2 h3 hb3 hk nQ
 go_enter Tryz.func88,Tryz.ntmps88
 go_wp2
 refine Ph.cy kQ [
 fun v ds w9=>∃q,v=ae (some ⟨q,0,none⟩) 0 0/\w9.ownsRow (w.heap.size+4) 81 3 v 0 [],
  pV (eX (some ⟨w.heap.size,14,none⟩)),
  pV (ae pk ms.length ck),
  fun v ds w9=>∃p c,v=ae p ms.length c/\w9.ownsRow (w.heap.size+4) 81 3 v ms.length (dV ms)/\(ms.length=0->c=0),
  pV (aR m.cells),
  fun v ds w9=>∃q,v=ae (some ⟨q,0,none⟩) 1 1/\w9.ownsRow (w.heap.size+4) 81 3 v 1 m.cells.toList,
  fun v ds w9=>∃p c,v=ae p (ms.length+1) c/\w9.ownsRow (w.heap.size+4) 81 3 v (ms.length+1) (dV ms++m.cells.toList),
  pV (eX (some ⟨w.heap.size+1+1+1,14,none⟩)),
  fun v ds w9=>∃x,ds[1]?=some x/\w9.heap[w.heap.size+3]?=some (au (b.cells (ae pm nm cm) (ae pn nn cn) x) 28 (0,0))]
  (fun L w9=>QT w.heap.size (b.sl pm nm cm pn nn cn pk ms.length ck) m.cells w (L 8) w9) [(2,eX (some ⟨w.heap.size,0,none⟩)),(3,eX (some ⟨w.heap.size+1,0,none⟩)),(5,eX (some ⟨w.heap.size+1+1+1,0,none⟩))] kQ ?rst (fun L L2 w1 w2 Ty h hb=>h.next (Ty 8) hb) (HS0.out.drew) ⟨rfl,rfl,rfl,trivial⟩ ?reach ?rfin
 case rst=>
  refine⟨?_,Ph.sV,Ph.sV,?_,Ph.sV,?_,?_,Ph.sV,?_,trivial⟩
  .rintro v ds L w1 w2 hS ⟨q,h1,h2⟩ hb;exact⟨q,h1,bP h2 hb⟩
  .rintro v ds L w1 w2 hS ⟨p,c,h1,h2,h3⟩ hb;exact⟨p,c,h1,bP h2 hb,h3⟩
  .rintro v ds L w1 w2 hS ⟨q,h1,h2⟩ hb;exact⟨q,h1,bP h2 hb⟩
  .rintro v ds L w1 w2 hS ⟨p,c,h1,h2⟩ hb;exact⟨p,c,h1,bP h2 hb⟩
  rintro v ds L w1 w2 hS ⟨x,h1,h2⟩ hb;exact⟨x,h1,(hb.block _ (ah.1 h2).1).trans h2⟩
 case reach=>
  refine⟨?_,?_,?_,?_,?_,?_,?_,?_,?_,trivial⟩<;>rintro Lf ev w1 hn nw hS hc hg hf ⟨b2,b3,b5,-⟩ hd
  .have hs4:=hS.size;refine Gw (v:=ae (some ⟨w1.heap.size,0,none⟩) 0 0) (w':=w1.alloc (au #[] 81)) ?_ ⟨⟨_,rfl,⟨sM,.inr ⟨w1.heap.size,0,#[],rfl,hs4,az _ _,aO _,gD _,sM,sM⟩⟩⟩,cJ dx⟩;go_simp
  .exact Ph.tV
  .have d1:ev (aL 8)=_:=hd.1 rfl;have c14:=aK hS.one 14 (ae pk ms.length ck) rfl;exact Ph.tV
  .have d0:∃q,(ev (aL 7))=ae (some ⟨q,0,none⟩) 0 0/\w1.ownsRow (w.heap.size+4) 81 3 (ev (aL 7)) 0 []:=hd.1 rfl;have d2:ev (aL 9)=_:=hd.2.1 rfl;obtain⟨q,e7,hq⟩:=d0;rw[e7] at hq;obtain⟨g,c,cur,h1,h2,h3,_,_,h4,_⟩:=hq.2.resolve_left sM;cases h1;obtain rfl:cur = #[]:=Array.eq_empty_of_size_eq_zero (by simpa using h4);refine Lag.Yields.append_empty (aL 7) (aL 9) 26 rfl (w.heap.size+4) 81 i1 (aR #[ag af 0,ag af 0,ag af 0]) 3 24 tj AY Ml hy1 hy2 rfl dC q e7 h3 h2 (ae pk ms.length ck) ms.length (dV ms) d2 (by have:=HL.out;omega) (HRk.out w1 hS.below) (Iw ms) (by unfold jx;omega) oM ?_;intro v' w' hown' hb' hz;obtain⟨p',c',rfl⟩:=dw hown';exact⟨⟨p',c',rfl,hown',fun h0=>by have:=hz h0;simp at this;exact this.2.2⟩,cJ hb'⟩
  .have q:w1.heap[w.heap.size+1]?=some (au m.cells 81 (0,0)):=hS.two;refine Lag.Yields.qP 81 _ rfl _ b3 81 _ (0,0) _ q Tryz.underlying81 rfl kQ ⟨rfl,cJ (aB _ _)⟩
  .have d4:ev (aL 11)=_:=hd.1 rfl;have hs4:=hS.size;refine Gw (v:=ae (some ⟨w1.heap.size,0,none⟩) 1 1) (w':=w1.alloc (au m.cells 81)) ?_ ⟨⟨_,rfl,World.ownsRow_lit w1 m.cells 1 hs4 (by unfold jx;omega) rfl⟩,cJ dx⟩;go_simp
  .have d3:∃p c,(ev (aL 10))=ae p ms.length c/\w1.ownsRow (w.heap.size+4) 81 3 (ev (aL 10)) ms.length (dV ms)/\(ms.length=0->c=0):=hd.1 rfl;have d5:∃q,(ev (aL 12))=ae (some ⟨q,0,none⟩) 1 1/\w1.ownsRow (w.heap.size+4) 81 3 (ev (aL 12)) 1 m.cells.toList:=hd.2.1 rfl;obtain⟨p,c,Pe,hown,hz⟩:=d3;obtain⟨q,TD,hq⟩:=d5;have Si:=HL.out;rw[Pe] at hown;have hown1:=hq;rw[TD] at hq;obtain⟨g,c2,cur,h1,h2,h3,_,_,h4,h5⟩:=hq.2.resolve_left sM;cases h1
   have ajj:cur=m.cells:=by
    apply Array.ext';have h6:cur.toList.length=3:=by simpa using h4
    rw[di oM] at h5;exact h5
   subst ajj;refine Lag.Yields.PB (aL 10) (aL 12) 26 rfl (w.heap.size+4) 81 i1 (aR #[ag af 0,ag af 0,ag af 0]) 3 24 tj AY Ml hy1 hy2 rfl dC (ae p ms.length c) ms.length (dV ms) Pe hown (ae (some ⟨q,0,none⟩) 1 1) 1 m.cells.toList TD rfl (.inr ⟨_,_,rfl,?_⟩) (by simp[cD]) (by unfold jx;omega) oM hS.size ?_
   .intro n u hn;have h5:=aK h3 n u (by simpa using hn);have e:(⟨q,0,none⟩:cX).add n=⟨q,n,none⟩:=by cases n<;>simp[jP]
    rw[e];exact h5
   intro v' w' hown' hgrow mr;obtain⟨p',c',rfl⟩:=dw hown';refine⟨⟨p',c',rfl,hown'⟩,.inr ⟨hS.grown (by simp[Ph.upd]) hgrow (fun q hq=>(hown.lt q hq).1),?_⟩⟩;intro t u ds hj hL hp
   match t,hp with
   |0,⟨q2,h1,h2⟩=>exact⟨q2,h1,mr (gD _) h2⟩
   |1,hp|2,hp=>exact hp
   |3,⟨p2,c2,h1,h2,h3⟩=>exact⟨p2,c2,h1,mr (aO _) h2,h3⟩
   |4,hp=>exact hp
   |5,⟨q2,h1,h2⟩=>
    refine⟨q2,h1,?_⟩
    by_cases h0:ms.length=0
    .have hc:=hz h0;refine eN h2 fun g2 hg2=>hgrow.block g2 (h2.lt g2 hg2).2 fun Fo=>?_;rw[h1] at h2;obtain⟨g3,c3,ap6,k1,_,k3,_,_,k4,_⟩:=h2.2.resolve_left sM;cases k1;have e2:q2=g2:=by rw[h1] at hg2;exact bp hg2
     subst e2;rcases hown.2 with⟨k5,_⟩|⟨g4,c4,ap5,k5,_,k6,_,_,k7,_⟩
     .rw[k5] at Fo;cases Fo
     cases k5;have e4:q2=g4:=bp Fo;subst e4;rw[k3] at k6;cases k6;omega
    exact mr oM h2
   |6,_=>exact(hj rfl).elim
   |7,hp=>exact hp
   |8,_=>rw[hn 8 kQ] at hL;cases hL
   |t+9,_=>trivial
  .exact Ph.tV
  have d7:ev (aL 14)=_:=hd.1 rfl;have d6:∃p c,(ev (aL 13))=ae p (ms.length+1) c/\w1.ownsRow (w.heap.size+4) 81 3 (ev (aL 13)) (ms.length+1) (dV ms++m.cells.toList):=hd.2.1 rfl;obtain⟨p,c,h1,h2⟩:=d6;have qf:w1.heap[w.heap.size+1+1+1]?=some (au (b.sl pm nm cm pn nn cn pk ms.length ck) 28 (0,0)):=hS.four nw;have c1:=aK qf 14 (ae pk ms.length ck) rfl;have f1:=cZ qf 14;refine yva (w':=w1.setCell ⟨w.heap.size+1+1+1,14,none⟩ (ev (aL 13))) ?_ ⟨⟨_,rfl,dc _ qf⟩,.inr ⟨(hS.put (ev (aL 13)) 14),?_⟩⟩
  .rw[h1];go_simp
  .intro t u ds hj hL hp
   match t,hp with
   |0,⟨q2,g1,g2⟩=>exact⟨q2,g1,dm g2 qf dC⟩
   |1,hp|2,hp=>exact hp
   |3,⟨p2,c2,g1,g2,g3⟩=>exact⟨p2,c2,g1,dm g2 qf dC,g3⟩
   |4,hp=>exact hp
   |5,⟨q2,g1,g2⟩=>exact⟨q2,g1,dm g2 qf dC⟩
   |6,⟨p2,c2,g1,g2⟩=>exact⟨p2,c2,g1,dm g2 qf dC⟩
   |7,hp=>exact hp
   |8,_=>exact(hj rfl).elim
   |t+9,_=>trivial
 case rfin=>
  intro a3 w3 hR;have hS:=hR.s;have e6:∃p c,(a3.tmps.getD 13 aw)=ae p (ms.length+1) c/\w3.ownsRow (w.heap.size+4) 81 3 (a3.tmps.getD 13 aw) (ms.length+1) (dV ms++m.cells.toList):=hR.val 6;have e8:∃x,([a3.tmps.getD 14 aw,a3.tmps.getD 13 aw,a3.tmps.getD 13 aw,a3.tmps.getD 7 aw,a3.tmps.getD 8 aw,a3.tmps.getD 9 aw,a3.tmps.getD 10 aw,a3.tmps.getD 11 aw,a3.tmps.getD 12 aw,a3.tmps.getD 13 aw]:List aj)[1]?=some x/\w3.heap[w.heap.size+3]?=some (au (b.cells (ae pm nm cm) (ae pn nn cn) x) 28 (0,0)):=hR.val 8;have k4:a3.tmps.getD 4 aw=eX (some ⟨w.heap.size+1+1,0,none⟩):=hR.kept kQ;have k5:a3.tmps.getD 5 aw=eX (some ⟨w.heap.size+1+1+1,0,none⟩):=hR.kept kQ;have ha:=hR.lits 16 rfl;simp only[aS,cA,nh] at ha;clear hR;obtain⟨x,ex,qf⟩:=e8;have ex2:a3.tmps.getD 13 aw=x:=bp ex;obtain⟨p13,c13,Y2,abj⟩:=e6;rw[Y2] at ex2 abj;subst ex2;rw[k4,k5] at ha;generalize a3.tmps.getD=zz at ha;have HOb:mU (w3.heap[w.heap.size+1+1+1]?=some (au (b.sl pm nm cm pn nn cn p13 (ms.length+1) c13) 28 (0,0))):=ai qf;have HZ:mU (w3.heap[w.heap.size+1+1]?=some (au AZ 28 (0,0))):=ai hS.three;have HB:=ai hS.below;have NB:=ai abj;clear Y2 ex qf abj hS k4 k5;subst ha
  go_wp2_with (first
   |(refine mH rfl 28 _ rfl _ rfl 28 _ (0,0) _ HOb.out cM rfl kQ ?_)
   |(refine fY rfl 28 _ _ rfl _ _ rfl rfl 28 _ HZ.out kQ rfl (by simp[cD]) ?_))
  have ho:(w3.setRow (w.heap.size+1+1) (b.sl pm nm cm pn nn cn p13 (ms.length+1) c13)).ownsRow (w.heap.size+4) 81 3 (ae p13 (ms.length+1) c13) (ms.length+1) (dV ms++m.cells.toList):=eN NB.out fun g hg=>setRow_other (by have:=(NB.out.lt g hg).1;omega);refine bj (results_cell_row rfl _ _ (w.heap.size+1+1) 28 _ (0,0) _ rfl (dg HZ.out) cM rfl kQ) rfl ⟨_,rfl,?_,?_,dA HB.out oM⟩
  .rw[Iq];exact Reads.iA ho sO (by have:=HL.out;simp;omega)
  obtain⟨g,cap,cur,h1,h2,h3,_⟩:=ho.2.resolve_left sM;exact⟨g,by rw[h1];rfl,oM,cur,h3⟩
def rP(a b:List Int):Bool:=decide (a.length<b.length)||(decide (a.length=b.length)&&decide (j9 a b<0))
def RZ(xs ys:List Int)(v1 v2:aj)(w:ak)(h1:Reads w v1 xs.length (xs.map (aD af)))(h2:Reads w v2 ys.length (ys.map (aD af))) :
  bm aq 121 #[v1,v2] w fun e w'=>e=aY (aI (rP xs ys))/\w=w':=by
 obtain⟨p1,c1,rfl,_⟩:=aT h1;obtain⟨p2,c2,rfl,_⟩:=aT h2;have hC:=rX xs ys _ _ w h1 h2;have hL:rP xs ys=(decide (xs.length<ys.length)||(decide (xs.length=ys.length)&&decide (j9 xs ys<0))):=rfl;have Ae:=D9 xs ys;generalize j9 xs ys=c at *;generalize rP xs ys=r at *;generalize xs.length=na at *;generalize ys.length=nb at *;have HL:=ai hL;clear hL h1 h2
 by_cases h1:na<nb
 .have e1:decide (na<nb)=true:=sO;have er:r=true:=by rw[HL.out,decide_eq_true h1];rfl
  subst er;have H1:=ai h1;clear h1 hC
  go_enter Tryz.func121,Tryz.ntmps121
  go_wp2
  go_ret
  exact⟨rfl,rfl⟩
 by_cases h2:na=nb
 .subst h2;have er:r=decide (c<0):=by rw[HL.out];simp
  subst er;clear h1 HL;have e1:decide (na<na)=false:=sM;have e9:(na==na)=true:=sM
  go_enter Tryz.func121,Tryz.ntmps121
  go_wp2_with fail
  refine hC.mono ?_;rintro e w7 ⟨rfl,rfl⟩;go_wp2
  go_ret
  exact⟨rfl,rfl⟩
 have e1:decide (na<nb)=false:=sO;have e2:decide ((na:Int)=(nb:Int))=false:=sO;have e3:((na:Int)==(nb:Int))=false:=sO;have e4:(na==nb)=false:=sO;have er:r=false:=by rw[HL.out,decide_eq_false h1,decide_eq_false h2];rfl
 subst er;clear h1 h2 HL hC
 go_enter Tryz.func121,Tryz.ntmps121
 go_wp2
 go_ret
 exact⟨rfl,rfl⟩
abbrev VL:=aj × List Int
def sU(w:ak)(r:VL):Prop:=Reads w r.1 r.2.length (r.2.map (aD af))
def sU.below{w w':ak}{r:VL}(h:sU w r)(hb:Bw w w'):sU w' r:=Reads.below h hb
def nZ(first:VL)(more:List VL):VL:=more.foldl (fun b x=>if rP x.2 b.2 then x else b) first
def Pz(first:VL)(more:List VL)(k:Nat)(hk:k<more.length):nZ first (more.take (k+1))=if rP more[k].2 (nZ first (more.take k)).2 then more[k] else nZ first (more.take k):=by
 unfold nZ;rw[bO hk,Cc];rfl
def ue:∀(more:List VL) (first:VL),nZ first more=first\/nZ first more∈more
 |[],first=>cJ rfl
 |x::more,first=>by
  show nZ (if rP x.2 first.2=true then x else first) more=first\/nZ (if rP x.2 first.2=true then x else first) more∈x::more
  by_cases hl:rP x.2 first.2=true
  .rw[if_pos hl];rcases ue more x with h|h
   .rw[h];exact .inr sM
   exact .inr (bT _ h)
  rw[if_neg hl];rcases ue more first with h|h
  .exact cJ h
  exact .inr (bT _ h)
def Ta(first:VL)(more:List VL)(v:aj)(w:ak)(hf:sU w first)(hm:∀r∈more,sU w r)(hv:Reads w v more.length (more.map (·.1))) :
  bm aq 120 #[.func (.func 121) #[] #[],first.1,v] w fun e w'=>e=aY (nZ first more).1/\Bw w w':=by
 have HSl:mU (∀r∈first::more,∃p n c,r.1=ae p n c):=ai fun r hr=>by
  have h1:sU w r:=by
   rcases List.mem_cons.1 hr with rfl|h
   .exact hf
   exact hm r h
  obtain⟨p,c,h2,_⟩:=aT h1;exact⟨p,_,c,h2⟩
 obtain⟨pf,nf,cf,ZZ⟩:=HSl.out first sM
 rcases hv with⟨rfl,hn,_⟩|⟨g,off,cap,rfl,hn,hg,hc⟩
 .obtain rfl:=a8 hn;clear hn;show bm aq 120 #[.func (.func 121) #[] #[],first.1,ae none 0 0] w fun e w'=>e=aY first.1/\Bw w w'
  rw[ZZ];clear ZZ
  go_enter Tryz.func120,Tryz.ntmps120
  go_wp2
  go_loopw [1,11] (fun b i wr=>i=ag af 0/\b=ae pf nf cf/\Bw w wr) (fun _ _ _=>0)
  case atStart=>exact⟨rfl,rfl,aB _ _⟩
  case round=>
   obtain⟨rfl,rfl,eh⟩:=hrel;go_wp2
   go_ret
   exact⟨rfl,eh⟩
 have HC:=ai hc;have HM:=ai hm;have HF:=ai hf;clear hc hm hf;generalize hL:more.length=L at *;have HL:=ai hL;clear hL;have HFv:=ai ZZ;rw[ZZ];clear ZZ
 go_enter Tryz.func120,Tryz.ntmps120
 go_wp2
 go_loopw [1,8,11] (fun b _ i wr=>∃k:Nat,k<=L/\i=ag af k/\b=(nZ first (more.take k)).1/\Bw w wr) (fun _ _ i _=>L-(intOf i).toNat)
 case atStart=>exact⟨0,oM,rfl,HFv.out.symm,aB _ _⟩
 case round=>
  obtain⟨k,hk,rfl,Xk,eh⟩:=hrel
  by_cases hlt:k<L
  .have jY:k<more.length:=by rw[HL.out];exact hlt
   have hcell:wr.cell? ⟨g,off+k,none⟩=some more[k].1:=(eh.cell (p:=⟨g,off+k,none⟩) hg).trans (HC.out k _ (by simp[jY]));have hx:=HM.out more[k] (bQ jY);have hst:=Pz first more k jY
   have Sy:sU w (nZ first (more.take k)):=by
    rcases ue (more.take k) first with h|h
    .rw[h];exact HF.out
    exact HM.out _ (eU h)
   generalize more[k]=x at *;generalize nZ first (more.take k)=bst at *
   obtain⟨p1,c1,e1,_⟩:=aT hx;obtain⟨p2,c2,e2,_⟩:=aT Sy;rw[e2] at Xk;subst Xk;have hB:=RZ x.2 bst.2 x.1 bst.1 wr (hx.below eh) (Sy.below eh);rw[e1] at hcell;rw[e1,e2] at hB;have hsz:=eh.size;have E1:=ai e1;have E2:=ai e2;clear hx Sy e1 e2;cases hr:rP x.2 bst.2
   all_goals
    rw[hr] at hst hB;have HR:=ai hr;have HST:=ai hst;clear hr hst
    go_wp2_with (go_at_call 121;refine hB.mono ?_;rintro e w2 ⟨rfl,rfl⟩)
    go_roundw
    case rel=>exact⟨k+1,oM,by go_num,by rw[HST.out];first|exact E1.out.symm|exact E2.out.symm,eh⟩
    case measure=>simp[intOf];omega
  obtain rfl:k=L:=oM;have sY:more.take k=more:=di (by rw[HL.out];exact aO _);rw[sY] at Xk;have HBv:=ai Xk
  obtain⟨p1,n1,c1,e1⟩:=HSl.out (nZ first more) (by
   rcases ue more first with h|h
   .rw[h];simp
   exact bT _ h)
  rw[e1] at Xk;subst Xk;have E1:=ai e1;clear e1 sY;go_wp2
  go_ret
  exact⟨congrArg bA E1.out.symm,eh⟩
def nE(ms:List Mk)(l:List Nat):List Mk:=l.filterMap fun i=>ms[i]?
def RN(ms:List Mk)(l:List Nat):(nE ms l).length<=l.length:=List.length_filterMap_le _ _
def RM{ms:List Mk}{l:List Nat}{m:Mk}(h:m∈nE ms l):m∈ms:=by
 obtain⟨i,_,hi⟩:=List.mem_filterMap.1 h;exact List.mem_of_getElem? hi
def Ot(ms:List Mk)(l:List Nat)(j:Nat)(hj:j<ms.length):nE ms (l++[j])=nE ms l++[ms[j]]:=by
 unfold nE;rw[List.filterMap_append];simp[hj]
def LR(ms:List Mk)(l:List Nat)(h:∀i∈l,i<ms.length):(nE ms l).length=l.length:=by
 induction l with
 |nil=>rfl
 |cons a l ih=>
  have ha:=h a sM;have:=ih fun i hi=>h i (by simp[hi])
  have e:nE ms (a::l)=ms[a]::nE ms l:=by
   unfold nE;rw[List.filterMap_cons];simp[ha]
  rw[e];simp[this]
def Uk{b:BB}{ms:List Mk}(h:lI b ms){n mask:Nat}(hn:n<=ms.length):lI b (nE ms (dZ n mask)):=
 ⟨fun m hm=>h.mem m (RM hm),by have:=RN ms (dZ n mask);have:=qY n mask;have:=h.len;omega⟩
def mW(b:BB)(ml:List Mn)(ss:List Int)(ms:List Mk)(mask:Nat):Bool:=decide (bf b ml ss (nE ms (dZ ms.length mask))=[])
def ES(b:BB)(ml:List Mn)(ss:List Int)(ms:List Mk)(M:Nat):List (List Int):=((aS M).filter (mW b ml ss ms)).map (uY ms.length)
def RS(b:BB)(ml:List Mn)(ss:List Int)(ms:List Mk)(M:Nat):ES b ml ss ms (M+1)=ES b ml ss ms M++if mW b ml ss ms M then[uY ms.length M] else[]:=by
 unfold ES;rw[List.range_succ,List.filter_append,eF];cases h:mW b ml ss ms M<;>simp[h]
def Wc(first:List Int)(more:List (List Int)):List Int:=more.foldl (fun b x=>if rP x b then x else b) first
def I2:∀(more:List VL) (first:VL),(nZ first more).2=Wc first.2 (more.map (·.2))
 |[],_=>rfl
 |x::more,first=>by
  show(nZ (if rP x.2 first.2=true then x else first) more).2=Wc (if rP x.2 first.2=true then x.2 else first.2) (more.map (·.2));rw[I2 more]
  by_cases h:rP x.2 first.2=true
  .rw[if_pos h,if_pos h]
  rw[if_neg h,if_neg h]
def ox(b:BB)(ml:List Mn)(ss:List Int)(ms:List Mk):List Int:=
 if bf b ml ss ms≠[] then[] else match ES b ml ss ms (2 ^ ms.length) with|[]=>[]|f::r=>Wc f r
def S3(n:Nat):dZ n (2 ^ n-1)=aS n:=by
 unfold dZ;rw[List.filter_eq_self];intro i hi;rw[bV] at hi;rw[Nat.testBit_two_pow_sub_one];simp[hi]
def RJ(ms:List Mk):nE ms (aS ms.length)=ms:=by
 unfold nE;apply List.ext_getElem?;intro i
 have key:∀k,k<=ms.length->(aS k).filterMap (fun i=>ms[i]?)=ms.take k:=by
  intro k
  induction k with
  |zero=>simp
  |succ k ih=>
   intro hk;rw[List.range_succ,List.filterMap_append,ih oM,bO oM];simp[show k<ms.length by omega]
 rw[key _ (aO _),Hz]
def aaQ{b:BB}{ml:List Mn}{ss:List Int}{ms:List Mk}(h:bf b ml ss ms=[]):ES b ml ss ms (2 ^ ms.length)≠[]:=by
 unfold ES;intro h2;have h3:=List.map_eq_nil_iff.1 h2
 have h4:2 ^ ms.length-1∈(aS (2 ^ ms.length)).filter (mW b ml ss ms):=by
  rw[List.mem_filter];have:0<2 ^ ms.length:=Nat.two_pow_pos _;refine⟨bV.2 oM,?_⟩;unfold mW;rw[S3,RJ];simp[h]
 rw[h3] at h4;cases h4
def aa2:(Tryz.prog.info? 25).map (fun i=>(i.zero,i.size,i.bytes))=some (some (ae none 0 0),1,24):=kQ
def Oc(l:List Mk)(m:Mk):dV (l++[m])=dV l++m.cells.toList:=by simp[dV]
structure NG(ob mb:Nat)(bc:aj->Array aj)(V8 PH:aj)(k:Nat)(xs ys:List aj)(mc:Array aj)(wo:ak)(A B C:Bool)(w:ak):Prop where
 JG:A=false->w.ownsRow (ob+1) 3 1 V8 k xs
 zL:B=false->w.ownsRow (ob+1) 81 3 PH k ys
 obk:C=false->w.heap[ob]?=some (au (bc PH) 119 (0,0))
 Xc:w.heap[mb]?=some (au mc 81 (0,0))
 below:Below ob wo w
 size:ob+1<=w.heap.size
section
variable{ob mb:Nat}{bc:aj->Array aj}{V8 PH:aj}{k:Nat}{xs ys:List aj}{mc:Array aj}{wo w1 w2:ak}{A B C A' B' C':Bool}
theorem NG.next(hA:A'=false->A=false)(hB:B'=false->B=false)(hC:C'=false->C=false)(h:NG ob mb bc V8 PH k xs ys mc wo A B C w1)(hb:Bw w1 w2):NG ob mb bc V8 PH k xs ys mc wo A' B' C' w2:=
 ⟨fun e=>bP (h.JG (hA e)) hb,fun e=>bP (h.zL (hB e)) hb,fun e=>(hb.block _ (by have:=h.size;omega)).trans (h.obk (hC e)),(hb.block _ (ah.1 h.Xc).1).trans h.Xc,h.below.trans (hb.mono (by have:=h.size;omega)),aF h.size hb.size⟩
theorem NG.akC(h:NG ob mb bc V8 PH k xs ys mc wo A B C w1)(hA:A=false)(g:w1.grownBy w2 V8.ownBlock)(hB:B'=B)(hC:C'=C):NG ob mb bc V8 PH k xs ys mc wo true B' C' w2:=by
 subst hB;subst hC;have h8:=h.JG hA;have hm:=(ah.1 h.Xc).1;refine⟨fun e=>(by cases e),fun e=>eN (h.zL e) fun q hq=>g.block q ((h.zL e).lt q hq).2 (zK (h.zL e) h8 dC hq),fun e=>(g.block ob (by have:=h.size;omega) fun hq=>?_).trans (h.obk e),(g.block mb hm (ko h8 h.Xc dC)).trans h.Xc,h.below.grown g (by have:=h.size;omega) fun q hq=>by have:=(h8.lt q hq).1;omega,aF h.size g.size⟩;have:=(h8.lt ob hq.symm).1;omega
theorem NG.agw(h:NG ob mb bc V8 PH k xs ys mc wo A B C w1)(hB:B=false)(g:w1.grownBy w2 PH.ownBlock)(hm:some mb≠PH.ownBlock)(hA:A'=A)(hC:C'=C):NG ob mb bc V8 PH k xs ys mc wo A' true C' w2:=by
 subst hA;subst hC;have h14:=h.zL hB;have Va:=(ah.1 h.Xc).1;refine⟨fun e=>eN (h.JG e) fun q hq=>g.block q ((h.JG e).lt q hq).2 (zK (h.JG e) h14 dC hq),fun e=>(by cases e),fun e=>(g.block ob (by have:=h.size;omega) fun hq=>?_).trans (h.obk e),(g.block mb Va hm).trans h.Xc,h.below.grown g (by have:=h.size;omega) fun q hq=>by have:=(h14.lt q hq).1;omega,aF h.size g.size⟩;have:=(h14.lt ob hq.symm).1;omega
theorem NG.drew(h:NG ob mb bc V8 PH k xs ys mc wo A B C w1):NG ob mb bc V8 PH k xs ys mc wo A B C w1.drew:=⟨h.JG,h.zL,h.obk,h.Xc,h.below.drew,h.size⟩
theorem Wb{w:ak}{a b:Nat}{x y:Array aj}{t u:a7}(h1:w.heap[a]?=some (au x t (0,0)))(h2:w.heap[b]?=some (au y u (0,0)))(h:t≠u):a≠b:=by
 rintro rfl;rw[h1] at h2;cases h2;exact h rfl
theorem NG.put(h:NG ob mb bc V8 PH k xs ys mc wo A B C w1)(hC:C=false)(hm:mb≠ob)(u:aj)(hA:A'=A)(hB:B'=B):NG ob mb bc V8 PH k xs ys mc wo A' B' true (w1.setCell ⟨ob,14,none⟩ u):=by
 subst hA;subst hB;have ho:=h.obk hC;exact⟨fun e=>dm (h.JG e) ho dC,fun e=>dm (h.zL e) ho dC,fun e=>(by cases e),(bu _ _ _ _ hm).trans h.Xc,h.below.setCell (p:=⟨ob,14,none⟩) (aO _) _,by simpa using h.size⟩
end
def NF(b:BB)(bq aM aC:aj)(ml:List Mn)(ss:List Int)(ms:List Mk)(w:ak)(hL:Laid w)(hB:cQ b bq aM aC ml ss ms w) :
  bm aq 50 #[aR (b.cells bq aM aC)] w fun e w'=>∃v,e=aY (cH #[v,ag af 0])/\Reads w' v (ox b ml ss ms).length ((ox b ml ss ms).map (aD af))/\Bw w w':=by
 have hok:=hB.ok;have hk3:=hB.kI.len;obtain⟨i0,hi,hz0,hz1,hz2⟩:=jk info3;obtain⟨i1,AY,Ml,hy1,hy2⟩:=jk Fa;obtain⟨i2,hi2,hx0,hx1,hx2⟩:=jk aa2;obtain⟨pm,cm,rfl,_⟩:=aT hB.rm;obtain⟨pn,cn,rfl,_⟩:=aT hB.rs;obtain⟨pk,ck,rfl,_⟩:=aT hB.rk;have b1:Bw w (w.alloc (au (b.sl pm ml.length cm pn ss.length cn pk ms.length ck) 28)):=dx;have hk:=az w (au (b.sl pm ml.length cm pn ss.length cn pk ms.length ck) 28);have ug:=ai (eO b _ _ _ ml ss ms _ (hL.below b1) (hB.below b1))
 have HSo:mU (∀(k:aj) (l:List Mk) (r:Bool),decide (bf b ml ss l≠[])=r->lI b l->∀W,Bw w W->Reads W k l.length (dV l)->bm aq 119 #[aR (b.cells (ae pm ml.length cm) (ae pn ss.length cn) k)] W fun e w'=>e=aY (aI r)/\Bw W w'):=
  ai fun k l r hr hl W hW hk=>by
   have:=Lm b _ _ k ml ss l W ⟨hB.ok,hB.gS,hB.mE,hl,hB.rm.below hW,hB.rs.below hW,hk⟩;rw[hr] at this;exact this
 obtain⟨r,hr⟩:∃r,decide (bf b ml ss ms≠[])=r:=⟨_,rfl⟩
 have HR0:=ai hr;clear hr;have HB:=ai hB;have wO:=ai b1;have HK:=ai hk;have HMo:=ai hB.kI;clear hL hB b1 hk;have HML:=ai (rfl:ml.length=ml.length);generalize ml.length=lm at *;generalize ss.length=ln at *;generalize hlk:ms.length=lk at *;have WJ:=ai hlk;clear hlk
 go_enter Tryz.func50,Tryz.ntmps50
 go_wp2_with (first
  |(go_at_call 71;refine ug.out.mono ?_;clear ug;rintro e w1 ⟨rfl,hb1⟩
    have qT:=(hb1.block w.heap.size sM).trans HK.out;obtain⟨x0,x1,x2,x3,x4,x5,x6,x7,x8,x9,qD,qC,rH,rz,rB⟩:=cg qT;have HK1:=ai qT;have hw1:w.heap.size<w1.heap.size:=(ah.1 qT).1;have nS:mU (Bw w w1):=ai (wO.out.trans (hb1.mono sM))
    clear qT hb1)
  |(go_at_call 119;refine(HSo.out _ ms r HR0.out HMo.out _ (nS.out.alloc oM _) (HB.out.rk.below (nS.out.alloc oM _))).mono ?_;rintro e w2 ⟨rfl,hb2⟩
    have hs2:=hb2.size;simp only[dY] at hs2;have hk2:=(hb2.block w.heap.size sO).trans ((aZ w1 (au (b.sl pm lm cm pn ln cn pk lk ck) 119) _ hw1).trans HK1.out);have hx2:=(hb2.block w1.heap.size sM).trans (az w1 (au (b.sl pm lm cm pn ln cn pk lk ck) 119));have Hu:=ai hk2;have HX2:=ai hx2;have pF:mU (Bw w w2):=ai ((nS.out.alloc oM _).trans (hb2.mono sO));have z14:=aK hk2 14 (ae pk lk ck) rfl;have f14:=cZ hk2 14
    clear hk2 hx2 hb2 x0 x1 x2 x3 x4 x5 x6 x7 x8 x9 qD qC rH rz rB))
 .have hr1:r=true:=by assumption
  have HQ:mU (ox b ml ss ms=[]):=ai (by have:=HR0.out;rw[hr1] at this;unfold ox;rw[if_pos (by simpa using this)]);go_ret2;exact⟨_,rfl,by rw[HQ.out];exact cJ ⟨rfl,rfl,rfl⟩,pF.out⟩
 obtain rfl:r=false:=by assumption
 have HE:mU (bf b ml ss ms=[]):=ai (by have:=HR0.out;simpa using this);obtain⟨N,hN0⟩:∃N,N=2 ^ lk:=⟨_,rfl⟩
 have hN8:N<=8:=by
  have:lk=0\/lk=1\/lk=2\/lk=3:=oM;rcases this with h|h|h|h<;>subst h<;>omega
 have hN:wrap64 (2 ^ lk)=(N:Int):=by
  have:lk=0\/lk=1\/lk=2\/lk=3:=oM;rcases this with h|h|h|h<;>subst h<;>subst hN0<;>simp[wrap64]
 have HN0:=ai hN0
 have HBk:mU (∀w9,Bw w w9->∀(k:Nat) (hk:k<ms.length),∃g off,pk=some ⟨g,off,none⟩/\w9.cell? ⟨g,off+k*3,none⟩=some (ag af ms[k].minute)/\w9.cell? ⟨g,off+k*3+1,none⟩=some (ag af ms[k].lo)/\w9.cell? ⟨g,off+k*3+2,none⟩=some (ag af ms[k].hi)):=ai fun w9 h9 k hk=>by
  rcases HB.out.rk.below h9 with⟨_,h0,_⟩|⟨g,off,cap,h0,_,_,h1⟩
  .omega
  cases h0;exact⟨g,off,rfl,xd h1 k hk⟩
 rw[hN];clear hN hN0
 go_loopw [6,7,8,9,10,11,25,34] (fun v6 _ _ _ _ _ i _ wr=>∃(M:Nat) (rows:List VL),M<=N/\i=ag af M/\rows.map (·.2)=ES b ml ss ms M/\wr.ownsRow w.heap.size 25 1 v6 rows.length (rows.map (·.1))/\(∀r∈rows,wr.ownsRow w.heap.size 3 1 r.1 r.2.length (r.2.map (aD af)))/\wr.heap[w.heap.size]?=some (au (b.sl pm lm cm pn ln cn pk lk ck) 28 (0,0))/\wr.heap[w1.heap.size]?=some (au (b.sl pm lm cm pn ln cn pk lk ck) 119 (0,0))/\Bw w wr) (fun _ _ _ _ _ _ i _ _=>N-(intOf i).toNat)
 case atStart=>exact⟨0,[],gD _,sM,rfl,dG _ _ _ _,sM,Hu.out,HX2.out,pF.out⟩
 case round=>
  obtain⟨M,rows,hM,rfl,Ff,Mq,Qt,hkw,hxw,eh⟩:=hrel;rename ak=>wo
  by_cases hlt:M<N
  .have HRw:=ai Ff;have HO6:=ai Mq;have HOr:=ai Qt;have HKw:=ai hkw;have HXw:=ai hxw;have yh:=ai eh;have KO:=eh.size;have Yo:=(ah.1 hkw).1;have hwx:=(ah.1 hxw).1;obtain⟨x0,x1,x2,x3,x4,x5,x6,x7,x8,x9,qD,qC,rH,rz,rB⟩:=cg hxw;have g2:(wo.alloc (au #[ag af b.room,ag af b.depth,ag af b.least,ag af b.minutes,ag af b.bS,ag af b.iU,ag af b.eI,ag af b.iO,ag af b.ll,ag af b.lm,ag af b.pl,ag af b.pm,ae pm lm cm,ae pn ln cn,ae none 0 0] 119)).heap[w.heap.size]?=some (au (b.sl pm lm cm pn ln cn pk lk ck) 28 (0,0)):=(aZ _ _ _ Yo).trans hkw;have z14:=aK g2 14 (ae pk lk ck) rfl;have aj9:=cZ g2 14;have hb2:Bw wo (wo.alloc (au #[ag af b.room,ag af b.depth,ag af b.least,ag af b.minutes,ag af b.bS,ag af b.iU,ag af b.eI,ag af b.iO,ag af b.ll,ag af b.lm,ag af b.pl,ag af b.pm,ae pm lm cm,ae pn ln cn,ae none 0 0] 119)):=dx;have ho2:=az wo (au #[ag af b.room,ag af b.depth,ag af b.least,ag af b.minutes,ag af b.bS,ag af b.iU,ag af b.eI,ag af b.iO,ag af b.ll,ag af b.lm,ag af b.pl,ag af b.pm,ae pm lm cm,ae pn ln cn,ae none 0 0] 119);have alc:=ai hb2;have ak3:=ai ho2;have aez:(wo.alloc (au #[ag af b.room,ag af b.depth,ag af b.least,ag af b.minutes,ag af b.bS,ag af b.iU,ag af b.eI,ag af b.iO,ag af b.ll,ag af b.lm,ag af b.pl,ag af b.pm,ae pm lm cm,ae pn ln cn,ae none 0 0] 119)).heap.size=wo.heap.size+1:=sM;clear Ff Mq Qt hkw hxw eh f14 g2 hb2 ho2;go_wp2
   go_loopw [8,10,11,34] (fun v8 _ _ i wr=>∃(j:Nat) (v14:aj),j<=lk/\i=ag af j/\wr.ownsRow (wo.heap.size+1) 3 1 v8 (dZ j M).length ((dZ j M).map fun(i:Nat)=>aD af (i:Int))/\wr.ownsRow (wo.heap.size+1) 81 3 v14 (dZ j M).length (dV (nE ms (dZ j M)))/\wr.heap[wo.heap.size]?=some (au (b.cells (ae pm lm cm) (ae pn ln cn) v14) 119 (0,0))/\Bw wo wr) (fun _ _ _ i _=>lk-(intOf i).toNat)
   case atStart=>exact⟨0,ae none 0 0,gD _,sM,dG _ _ _ _,dG _ _ _ _,ak3.out,alc.out⟩
   case round=>
    obtain⟨j,v14,hj,rfl,IL,Bj,Xg,zn⟩:=hrel;have hqs:=zn.size;have hcl:=qY j M;have hM5:M<512:=bw hlt (aF hN8 dC)
    by_cases NI:j<lk
    .have Sx:=xm M j hM5;have J9:j<ms.length:=by rw[WJ.out];exact NI
     obtain⟨g,off,rfl,c0,c1,c2⟩:=HBk.out wr (yh.out.trans (zn.mono KO)) j J9;obtain⟨p8,c8,rfl⟩:=dw IL;obtain⟨Ul,c14,rfl⟩:=dw Bj;have Yu:=Ot ms (dZ j M) j J9;have agF:=ai IL;have WG:=ai Bj;have HOj:=ai Xg;have Tq:=ai zn;have HPs:=ai Yu;have Qr:=(ah.1 Xg).1;clear IL Bj Xg zn Yu;generalize hmk:ms[j]=mk at *;cases hb:M.testBit j
     .have e1:dZ (j+1) M=dZ j M:=by rw[rV,hb];simp
      rw[hb] at Sx;have H1:=ai e1;clear e1;go_wp2;go_roundw
      case rel=>exact⟨j+1,ae Ul (dZ j M).length c14,oM,sM,by rw[H1.out];exact agF.out.alloc _,by rw[H1.out];exact WG.out.alloc _,(aZ _ _ _ Qr).trans HOj.out,Tq.out.alloc oM _⟩
      case measure=>simp[intOf];omega
     have e1:dZ (j+1) M=dZ j M++[j]:=by rw[rV,hb];simp
     rw[hb] at Sx;have H1:=ai e1;clear e1;have NH:∃xs,((dZ j M).map fun(i:Nat)=>aD af (i:Int))=xs:=⟨_,rfl⟩
     have hys:∃ys,dV (nE ms (dZ j M))=ys:=⟨_,rfl⟩
     obtain⟨xs,NH⟩:=NH;obtain⟨ys,hys⟩:=hys;have HXs:=ai NH;have HYs:=ai hys;generalize hk:(dZ j M).length=k at *;have HKk:=ai hk;clear hk NH hys
     have HS0:mU (NG wo.heap.size wr.heap.size (fun v=>(b.cells (ae pm lm cm) (ae pn ln cn) v)) (ae p8 k c8) (ae Ul k c14) k xs ys mk.cells wo false false false (wr.alloc (au mk.cells 81))):=
      ai ⟨fun _=>by have:=agF.out.alloc (au mk.cells 81);rw[HXs.out] at this;exact this,fun _=>by have:=WG.out.alloc (au mk.cells 81);rw[HYs.out] at this;exact this,fun _=>(aZ wr (au mk.cells 81) _ Qr).trans HOj.out,az _ _,Tq.out.alloc oM _,sO⟩
     have aeZ:some wr.heap.size≠(ae Ul k c14:aj).ownBlock:=fun h=>by
      have:=(WG.out.lt _ h.symm).2;omega
     have aiO:wr.heap.size≠wo.heap.size:=oM;go_wp2
     refine Ph.qE (late:=[(10,8,ae p8 k c8)]) (hlate:=⟨⟨rfl,rfl⟩,trivial⟩) kQ [
     pV (ae p8 k c8),
      pV (ag af j),
      fun v ds w9=>∃q,v=ae (some ⟨q,0,none⟩) 1 1/\w9.heap[q]?=some (au #[ag af j] 3 (0,0))/\some q≠(ae p8 k c8:aj).ownBlock,
      fun v ds w9=>∃p c,v=ae p (k+1) c/\w9.ownsRow (wo.heap.size+1) 3 1 v (k+1) (xs++[ag af j]),
      pV (eX (some ⟨wo.heap.size,0,none⟩)),
      pV (eX (some ⟨wo.heap.size,14,none⟩)),
      pV (ae Ul k c14),
      pV (aR mk.cells),
      fun v ds w9=>∃q,v=ae (some ⟨q,0,none⟩) 1 1/\w9.heap[q]?=some (au mk.cells 81 (0,0))/\some q≠(ae Ul k c14:aj).ownBlock,
      fun v ds w9=>∃p c,v=ae p (k+1) c/\w9.ownsRow (wo.heap.size+1) 81 3 v (k+1) (ys++mk.cells.toList),
      fun v ds w9=>∃p c,v=ae p (k+1) c/\w9.ownsRow (wo.heap.size+1) 3 1 v (k+1) (xs++[ag af j]),
      pV (eX (some ⟨wo.heap.size,0,none⟩)),
      pV (eX (some ⟨wo.heap.size,14,none⟩)),
      fun v ds w9=>∃x,ds[1]?=some x/\w9.heap[wo.heap.size]?=some (au (b.cells (ae pm lm cm) (ae pn ln cn) x) 119 (0,0))]
      (fun L w9=>NG wo.heap.size wr.heap.size (fun v=>(b.cells (ae pm lm cm) (ae pn ln cn) v)) (ae p8 k c8) (ae Ul k c14) k xs ys mk.cells wo (L 3) (L 9) (L 13) w9) [(9,pv wo.heap.size 0),(10,ag af j),(11,pv wr.heap.size 0)] kQ ?rst (fun L L2 w1 w2 Ty h hb=>h.next (Ty 3) (Ty 9) (Ty 13) hb) (HS0.out.drew) ⟨rfl,rfl,rfl,trivial⟩ ?reach ?rfin
     case rst=>
      refine⟨Ph.sV,Ph.sV,?_,?_,Ph.sV,Ph.sV,Ph.sV,Ph.sV,?_,?_,?_,Ph.sV,Ph.sV,?_,trivial⟩
      .rintro v ds L w1 w2 hS ⟨q,h1,h2,h3⟩ hb;exact⟨q,h1,(hb.block _ (ah.1 h2).1).trans h2,h3⟩
      .rintro v ds L w1 w2 hS ⟨p,c,h1,h2⟩ hb;exact⟨p,c,h1,bP h2 hb⟩
      .rintro v ds L w1 w2 hS ⟨q,h1,h2,h3⟩ hb;exact⟨q,h1,(hb.block _ (ah.1 h2).1).trans h2,h3⟩
      .rintro v ds L w1 w2 hS ⟨p,c,h1,h2⟩ hb;exact⟨p,c,h1,bP h2 hb⟩
      .rintro v ds L w1 w2 hS ⟨p,c,h1,h2⟩ hb;exact⟨p,c,h1,bP h2 hb⟩
      rintro v ds L w1 w2 hS ⟨x,h1,h2⟩ hb;exact⟨x,h1,(hb.block _ (ah.1 h2).1).trans h2⟩
     case reach=>
      refine⟨?_,?_,?_,?_,?_,?_,?_,?_,?_,?_,?_,?_,?_,?_,trivial⟩<;>rintro Lf ev w1 hn nw hS hc hg hf ⟨b9,xK,Gb,hlt⟩ hd
      .have b8:=hlt.1 (hn 10 kQ);exact Ph.tV
      .exact Ph.tV
      .have d1:ev (aL 45)=_:=hd.1 rfl;refine Gw (v:=ae (some ⟨w1.heap.size,0,none⟩) 1 1) (w':=w1.alloc (au #[ag af j] 3)) ?_ ⟨⟨_,rfl,az _ _,fun h=>absurd ((hS.JG (hn 3 kQ)).lt _ h.symm).2 (Nat.lt_irrefl _)⟩,cJ dx⟩;go_simp
      .have d0:ev (aL 44)=_:=hd.1 rfl;obtain⟨q,e46,hq1,Xf⟩:=hd.2.1 rfl;replace e46:ev (aL 46)=_:=e46;have hown:=hS.JG nw;refine Yields.ri (aL 44) (aL 46) 25 rfl (wo.heap.size+1) 3 i0 (ag af 0) 1 8 ek hi hz0 hz1 hz2 rfl dC (ae p8 k c8) k _ d0 hown ⟨q,0,none⟩ 1 1 [ag af j] e46 rfl ?_ (by simp[cD]) (by unfold jx;omega) oM hS.size ?_
       .intro n u hn;have h5:=aK hq1 n u (by simpa using hn);have e:(⟨q,0,none⟩:cX).add n=⟨q,n,none⟩:=by cases n<;>simp[jP]
        rw[e];exact h5
       intro v' w' hown' hgrow hnil;obtain⟨p',c',rfl⟩:=dw hown';refine⟨⟨p',c',rfl,hown'⟩,.inr ⟨hS.akC nw hgrow (by simp[Ph.upd]) (by simp[Ph.upd]),?_⟩⟩;intro t u ds hj hL hp
       match t,hp with
       |0,hp|1,hp=>exact hp
       |2,⟨q2,h1,h2,h3⟩=>exact⟨q2,h1,(hgrow.block q2 (ah.1 h2).1 h3).trans h2,h3⟩
       |3,_=>exact(hj rfl).elim
       |4,hp|5,hp|6,hp|7,hp=>exact hp
       |8,⟨q2,h1,h2,h3⟩=>exact⟨q2,h1,(hgrow.block q2 (ah.1 h2).1 (ko hown h2 dC)).trans h2,h3⟩
       |9,_=>rw[hn 9 kQ] at hL;cases hL
       |10,_=>rw[hn 10 kQ] at hL;cases hL
       |11,hp|12,hp=>exact hp
       |13,_=>rw[hn 13 kQ] at hL;cases hL
       |t+14,_=>trivial
      .exact Ph.tV
      .have d4:ev (aL 48)=_:=hd.1 rfl;exact Ph.tV
      .have d5:ev (aL 49)=_:=hd.1 rfl;have ap8:=aK (hS.obk (hn 13 kQ)) 14 (ae Ul k c14) rfl;exact Ph.tV
      .refine Lag.Yields.qP 81 _ rfl _ Gb 81 _ (0,0) _ hS.Xc Tryz.underlying81 rfl kQ ⟨rfl,cJ (aB _ _)⟩
      .have d7:ev (aL 51)=_:=hd.1 rfl;refine Gw (v:=ae (some ⟨w1.heap.size,0,none⟩) 1 1) (w':=w1.alloc (au mk.cells 81)) ?_ ⟨⟨_,rfl,az _ _,fun h=>absurd ((hS.zL (hn 9 kQ)).lt _ h.symm).2 (Nat.lt_irrefl _)⟩,cJ dx⟩;go_simp
      .have d6:ev (aL 50)=_:=hd.1 rfl;obtain⟨q,e52,hq1,Xf⟩:=hd.2.1 rfl;replace e52:ev (aL 52)=_:=e52;have hown:=hS.zL nw;refine Yields.ri (aL 50) (aL 52) 26 rfl (wo.heap.size+1) 81 i1 (aR #[ag af 0,ag af 0,ag af 0]) 3 24 tj AY Ml hy1 hy2 rfl dC (ae Ul k c14) k _ d6 hown ⟨q,0,none⟩ 1 1 mk.cells.toList e52 rfl ?_ (by simp[cD]) (by unfold jx;omega) oM hS.size ?_
       .intro n u hn;have h5:=aK hq1 n u (by simpa using hn);have e:(⟨q,0,none⟩:cX).add n=⟨q,n,none⟩:=by cases n<;>simp[jP]
        rw[e];exact h5
       intro v' w' hown' hgrow hnil;obtain⟨p',c',rfl⟩:=dw hown';refine⟨⟨p',c',rfl,hown'⟩,.inr ⟨hS.agw nw hgrow aeZ (by simp[Ph.upd]) (by simp[Ph.upd]),?_⟩⟩;intro t u ds hj hL hp
       match t,hp with
       |0,hp|1,hp=>exact hp
       |2,⟨q2,h1,h2,h3⟩=>exact⟨q2,h1,(hgrow.block q2 (ah.1 h2).1 (ko hown h2 dC)).trans h2,h3⟩
       |3,⟨p,c,h1,h2⟩=>exact⟨p,c,h1,eN h2 fun g hg=>hgrow.block g (h2.lt g hg).2 (zK h2 hown dC hg)⟩
       |4,hp|5,hp|6,hp|7,hp=>exact hp
       |8,⟨q2,h1,h2,h3⟩=>exact⟨q2,h1,(hgrow.block q2 (ah.1 h2).1 h3).trans h2,h3⟩
       |9,_=>exact(hj rfl).elim
       |10,_=>rw[hn 10 kQ] at hL;cases hL
       |11,hp|12,hp=>exact hp
       |13,_=>rw[hn 13 kQ] at hL;cases hL
       |t+14,_=>trivial
      .have d3:∃p c,(ev (aL 47))=ae p (k+1) c/\w1.ownsRow (wo.heap.size+1) 3 1 (ev (aL 47)) (k+1) (xs++[ag af j]):=hd.1 rfl;obtain⟨p,c,h1,h2⟩:=d3;refine Gw (v:=ev (aL 47)) (w':=w1) rfl ⟨⟨p,c,h1,h2⟩,cJ (aB _ _)⟩
      .exact Ph.tV
      .have d11:ev (aL 54)=_:=hd.1 rfl;exact Ph.tV
      have d12:ev (aL 55)=_:=hd.1 rfl;have d9:∃p c,(ev (aL 53))=ae p (k+1) c/\w1.ownsRow (wo.heap.size+1) 81 3 (ev (aL 53)) (k+1) (ys++mk.cells.toList):=hd.2.1 rfl;obtain⟨p,c,h1,h2⟩:=d9;have qf:=hS.obk nw;have c1:=aK qf 14 (ae Ul k c14) rfl;have f1:=cZ qf 14;refine yva (w':=w1.setCell ⟨wo.heap.size,14,none⟩ (ev (aL 53))) ?_ ⟨⟨_,rfl,dc _ qf⟩,.inr ⟨hS.put nw aiO (ev (aL 53)) (by simp[Ph.upd]) (by simp[Ph.upd]),?_⟩⟩
      .rw[h1];go_simp
      .intro t u ds hj hL hp
       match t,hp with
       |0,hp|1,hp=>exact hp
       |2,⟨q2,g1,g2,g3⟩=>exact⟨q2,g1,(bu _ _ _ _ (Wb g2 qf dC)).trans g2,g3⟩
       |3,⟨p2,c2,g1,g2⟩=>exact⟨p2,c2,g1,dm g2 qf dC⟩
       |4,hp|5,hp|6,hp|7,hp=>exact hp
       |8,⟨q2,g1,g2,g3⟩=>exact⟨q2,g1,(bu _ _ _ _ (Wb g2 qf dC)).trans g2,g3⟩
       |9,⟨p2,c2,g1,g2⟩=>exact⟨p2,c2,g1,dm g2 qf dC⟩
       |10,⟨p2,c2,g1,g2⟩=>exact⟨p2,c2,g1,dm g2 qf dC⟩
       |11,hp|12,hp=>exact hp
       |13,_=>exact(hj rfl).elim
       |t+14,_=>trivial
     case rfin=>
      intro a3 w3 hR;have hS:=hR.s;have e9:∃p c,(a3.tmps.getD 53 aw)=ae p (k+1) c/\w3.ownsRow (wo.heap.size+1) 81 3 (a3.tmps.getD 53 aw) (k+1) (ys++mk.cells.toList):=hR.val 9;have Pe:∃p c,(a3.tmps.getD 8 aw)=ae p (k+1) c/\w3.ownsRow (wo.heap.size+1) 3 1 (a3.tmps.getD 8 aw) (k+1) (xs++[ag af j]):=hR.val 10;have Y2:∃x,([a3.tmps.getD 55 aw,a3.tmps.getD 53 aw,a3.tmps.getD 8 aw,a3.tmps.getD 44 aw,a3.tmps.getD 45 aw,a3.tmps.getD 46 aw,a3.tmps.getD 47 aw,a3.tmps.getD 48 aw,a3.tmps.getD 49 aw,a3.tmps.getD 50 aw,a3.tmps.getD 51 aw,a3.tmps.getD 52 aw,a3.tmps.getD 53 aw,a3.tmps.getD 8 aw]:List aj)[1]?=some x/\w3.heap[wo.heap.size]?=some (au (b.cells (ae pm lm cm) (ae pn ln cn) x) 119 (0,0)):=hR.val 13;have ha:=hR.lits 71 rfl;simp only[aS,cA,nh] at ha;rw[hR.kp 0,hR.kp 1,hR.kp 2,hR.kp 3,hR.kp 4,hR.kp 5,hR.kp 6,hR.kp 7,hR.kp 9,hR.kp 12,hR.kp 13,hR.kp 14,hR.kp 15,hR.kp 16,hR.kp 17,hR.kp 18,hR.kp 19,hR.kp 20,hR.kp 21,hR.kp 22,hR.kp 23,hR.kp 24,hR.kp 25,hR.kp 26,hR.kp 27,hR.kp 28,hR.kp 29,hR.kp 30,hR.kp 31,hR.kp 32,hR.kp 33,hR.kp 34,hR.kp 57,hR.kp 58,hR.kp 59,hR.kp 60,hR.kp 61,hR.kp 62,hR.kp 63,hR.kp 64,hR.kp 65,hR.kp 66,hR.kp 67,hR.kp 68,hR.kp 69,hR.kp 70] at ha;simp only[kY,gI,gH] at ha;clear hR;obtain⟨p8n,c8n,e8,ho8⟩:=Pe;obtain⟨p53,c53,e53,abh⟩:=e9;obtain⟨x,ex,qf⟩:=Y2;have ex2:a3.tmps.getD 53 aw=x:=bp ex;rw[e53] at ex2 abh;subst ex2;rw[e8] at ho8;rw[e8] at ha;generalize a3.tmps.getD=zz at ha;have pF:=ai hS.below;have HOb:=ai qf;have HN8:=ai ho8;have ak_:=ai abh;clear e8 e53 ex ho8 abh qf hS;subst ha;go_wp2;go_roundw
      case rel=>
       refine⟨j+1,ae p53 (k+1) c53,oM,sM,?_,?_,HOb.out,pF.out⟩
       .rw[H1.out,qj,eF,HKk.out,HXs.out];exact HN8.out
       rw[H1.out,qj,HKk.out,HPs.out,Oc,HYs.out];exact ak_.out
      case measure=>simp[intOf];omega
    obtain rfl:lk=j:=oM;rename ak=>wc;obtain⟨p8,c8,rfl⟩:=dw IL;obtain⟨Ul,c14,rfl⟩:=dw Bj;obtain⟨p6,c6,rfl⟩:=dw HO6.out;have hpl:(nE ms (dZ lk M)).length=(dZ lk M).length:=LR ms _ fun i hi=>by rw[WJ.out];simp[dZ] at hi;exact hi.1
    have DX:=Uk HMo.out (n:=lk) (mask:=M) (by rw[WJ.out];exact aO _)
    have hrk:Reads wc (ae Ul (dZ lk M).length c14) (nE ms (dZ lk M)).length (dV (nE ms (dZ lk M))):=by
     rw[hpl];exact Reads.iA Bj oM (by rw[qo,hpl];omega)
    have hwc:Bw w wc:=yh.out.trans (zn.mono KO);obtain⟨r2,hr2⟩:∃r2,decide (bf b ml ss (nE ms (dZ lk M))≠[])=r2:=⟨_,rfl⟩
    have hso:=HSo.out _ _ r2 hr2 DX wc hwc hrk;have afl:mW b ml ss ms M = !r2:=by unfold mW;rw[WJ.out,<-hr2];simp
    have Yw:=RS b ml ss ms M;rw[afl] at Yw;have hcI:uY ms.length M=(dZ lk M).map fun(i:Nat)=>(i:Int):=by rw[WJ.out];rfl
    rw[hcI] at Yw;obtain⟨y0,y1,y2,y3,y4,y5,y6,y7,y8,y9,NS,PW,PV,PU,KX⟩:=cg Xg;have U4:wc.ownsRow w.heap.size 3 1 (ae p8 (dZ lk M).length c8) (dZ lk M).length ((dZ lk M).map fun(i:Nat)=>aD af (i:Int)):=ownsRow_base IL oM;have agA:=ai hso;have HOd:=ai Yw;have HO8:=ai U4;have HWc:=ai hwc;have Tq:=ai zn
    have hrl:rows.length<=M:=by
     have h1:=congrArg List.length HRw.out;have h2:=List.length_filter_le (mW b ml ss ms) (aS M);unfold ES at h1;simp at h1 h2;omega
    clear hso Yw U4 IL Bj hwc zn Xg DX hrk hpl hcI afl x0 x1 x2 x3 x4 x5 x6 x7 x8 x9 qD qC rH rz rB z14 aj9;generalize dZ lk M=C at *
    go_wp2_with (first
     |(go_at_call 119;refine agA.out.mono ?_;clear agA;rintro e w5 ⟨rfl,hb5⟩
       have HB5:=ai hb5;have hs5:=hb5.size;clear hb5 y0 y1 y2 y3 y4 y5 y6 y7 y8 y9 NS PW PV PU KX)
     |(at_builtin
       have hQ1:∀(i:Nat) (u:aj),([ae p8 C.length c8]:List aj)[i]?=some u->(w5.alloc (au #[ae p8 C.length c8] 25)).cell? ((⟨w5.heap.size,0,none⟩:cX).add i)=some u:=fun i u hj=>by
        match i,hj with
        |0,hj=>simp at hj;subst hj;simp[jP]
       have J3:Bw wo w5:=Tq.out.trans (HB5.out.mono oM);have abY:w5.ownsRow w.heap.size 25 1 (ae p6 rows.length c6) rows.length (rows.map (·.1)):=bP HO6.out J3;have Zp:=ai abY;refine g_ _ rfl _ _ 116 rfl w.heap.size 25 i2 (ae none 0 0) 1 24 Tryz.underlying116 hi2 hx0 hx1 hx2 rfl dC (ae p6 rows.length c6) rows.length (rows.map (·.1)) rfl (abY.alloc _) ⟨w5.heap.size,0,none⟩ 1 1 [ae p8 C.length c8] rfl rfl hQ1 (by simp[cD]) (by unfold jx;omega) oM sO ?_;intro v' w7 U5 hgrow hnil
       obtain⟨p7,c7,rfl⟩:=dw U5))
    .have e2:r2=false:=by simp_all
     subst e2;have CY:∀q,(ae p6 rows.length c6:aj).ownBlock=some q->w.heap.size<=q:=fun q hq=>(Zp.out.lt q hq).1;have hb7:Bw w w7:=((yh.out.trans (J3.mono KO)).alloc oM _).grown hgrow sO CY;have hn5:∀q,q<w5.heap.size->some q≠(ae p6 rows.length c6:aj).ownBlock->w7.heap[q]?=w5.heap[q]?:=fun q hq hne=>(hgrow.block q sO hne).trans (aZ _ _ _ hq);have mr:∀ {base size v n xs},w5.ownsRow base 3 size v n xs->w7.ownsRow base 3 size v n xs:=fun h=>eN h fun q hq=>hn5 q (h.lt q hq).2 (zK h Zp.out dC hq);have hk5:=(J3.block _ Yo).trans HKw.out;have hx5:=(J3.block _ hwx).trans HXw.out;have hk7:=(hn5 _ oM (ko Zp.out hk5 dC)).trans hk5;have hx7:=(hn5 _ oM (ko Zp.out hx5 dC)).trans hx5
     have HR7:mU (∀r∈rows++[((ae p8 C.length c8:aj),C.map fun(i:Nat)=>(i:Int))],w7.ownsRow w.heap.size 3 1 r.1 r.2.length (r.2.map (aD af))):=ai fun r hr=>by
      rcases bB.1 hr with h|h
      .exact mr (bP (HOr.out r h) J3)
      rw[kg] at h;subst h;simp only[fC,List.map_map];exact mr (bP HO8.out HB5.out)
     have HB7:=ai hb7;have HK7:=ai hk7;have HX7:=ai hx7;have HO7:=ai U5;clear hb7 hn5 mr hk5 hx5 hk7 hx7 U5 hgrow hnil hQ1 abY J3 CY;go_roundw
     case rel=>
      refine⟨M+1,rows++[((ae p8 C.length c8:aj),C.map fun(i:Nat)=>(i:Int))],oM,sM,?_,?_,HR7.out,HK7.out,HX7.out,HB7.out⟩
      .rw[HOd.out,eF,HRw.out];rfl
      rw[qj,eF];exact HO7.out
     case measure=>simp[intOf];omega
    have e2:r2=true:=by simp_all
    subst e2;have J3:Bw wo w5:=Tq.out.trans (HB5.out.mono oM);have HW5:=ai J3;clear J3;go_roundw
    case rel=>
     refine⟨M+1,rows,oM,sM,?_,bP HO6.out HW5.out,fun r hr=>bP (HOr.out r hr) HW5.out,(HW5.out.block _ Yo).trans HKw.out,(HW5.out.block _ hwx).trans HXw.out,yh.out.trans (HW5.out.mono KO)⟩;rw[HOd.out,HRw.out];simp
    case measure=>simp[intOf];omega
  obtain rfl:N=M:=oM;rename ak=>wz;have hz:=eh.size
  obtain⟨f,rest,rfl⟩:∃f rest,rows=f::rest:=by
   cases rows with
   |nil=>
    have h1:=aaQ HE.out;rw[WJ.out,<-HN0.out] at h1;exact absurd Ff.symm h1
   |cons f rest=>exact⟨f,rest,rfl⟩
  have hfr:∀r∈f::rest,sU wz r:=fun r hr=>Reads.iA (Qt r hr) (by
   have h1:r.2∈ES b ml ss ms N:=by rw[<-Ff];exact List.mem_map_of_mem hr
   unfold ES at h1;obtain⟨m,_,h2⟩:=List.mem_map.1 h1;rw[<-h2];unfold uY;have:=qY ms.length m;rw[fC,WJ.out] at *
   omega) sM
  have hcl:ox b ml ss ms=(nZ f rest).2:=by
   unfold ox;rw[if_neg (by simp[HE.out]),WJ.out,<-HN0.out,<-Ff,I2];rfl
  have Sy:sU wz (nZ f rest):=hfr _ (by
   rcases ue rest f with h|h
   .rw[h];simp
   exact bT _ h)
  have hrl:rest.length+1<=N:=by
   have h1:=congrArg List.length Ff;have h2:=List.length_filter_le (mW b ml ss ms) (aS N);unfold ES at h1;simp at h1 h2;omega
  obtain⟨go,cap,rfl,hgo,Hb,hcell⟩:∃go cap,u6=ae (some ⟨go,0,none⟩) (rest.length+1) cap/\go<wz.heap.size/\rest.length+1<=cap/\∀j u,((f::rest).map (·.1))[j]?=some u->wz.cell? ⟨go,0+j,none⟩=some u:=by
   have h1:=Reads.iA Mq sO sM;rcases Mq.2 with⟨_,h0⟩|⟨g,cap,cur,rfl,_,hg,_⟩
   .simp at h0
   rcases h1 with⟨h2,_⟩|⟨g2,off,acI,h2,h3,h4,h5⟩
   .cases h2
   cases h2;exact⟨g,cap,rfl,h4,h3.2,h5⟩
  have HC0:mU (∀w,Bw wz w->w.cell? ⟨go,0,none⟩=some f.1):=ai fun w hb=>(hb.cell (p:=⟨go,0,none⟩) hgo).trans (hcell 0 _ rfl)
  have Tp:mU (∀w,Bw wz w->Reads w (ae (if cap=1 then some ⟨go,0,none⟩ else some ⟨go,1,none⟩) rest.length (cap-1)) rest.length (rest.map (·.1))):=ai fun w hb=>
   if h1:cap=1 then by
    have h0:rest=[]:=a8 oM;subst h0;rw[if_pos h1];exact .inr ⟨go,0,cap-1,rfl,⟨sM,sM⟩,bw hgo hb.size,fun j u hj=>by simp at hj⟩
   else by
   rw[if_neg h1]
   exact .inr ⟨go,1,cap-1,rfl,oM,bw hgo hb.size,fun j u hj=>(hb.cell (p:=⟨go,_,none⟩) hgo).trans (by
    have:=hcell (j+1) u (by simpa using hj)
    rwa [show 0+(j+1)=1+j by omega] at this)⟩
  have HBe:mU (∀W,Bw wz W->bm aq 120 #[.func (.func 121) #[] #[],f.1,ae (if cap=1 then some ⟨go,0,none⟩ else some ⟨go,1,none⟩) rest.length (cap-1)] W fun e w'=>e=aY (nZ f rest).1/\Bw W w'):=ai fun W hb=>
   Ta f rest _ W ((hfr f sM).below hb) (fun r hr=>(hfr r (bT _ hr)).below hb) (Tp.out W hb)
  obtain⟨pf,cf,ZZ,_⟩:=aT (hfr f sM);obtain⟨pb,cb,Xk,_⟩:=aT Sy
  have HBm:mU (∀W,Bw wz W->Reads W (ae pb (ox b ml ss ms).length cb) (ox b ml ss ms).length ((ox b ml ss ms).map (aD af))):=ai fun W hb=>by
   have:=Sy.below hb;unfold sU at this;rw[Xk] at this;rw[hcl];exact this
  rw[ZZ] at HC0 HBe;rw[Xk,<-hcl] at HBe;generalize Z5:(ox b ml ss ms).length=cn at *;have HCn:=ai Z5;clear Z5;generalize f.2.length=fn at *;have HNz:=ai eh;clear Ff Mq Qt hkw hxw eh hfr hcl Sy hcell ZZ Xk Tp;generalize rest.length=Rn at *;have l2:(1:Int)<=(Rn:Int)+1:=oM;go_wp2
  refine cy kQ [
  pV (ae (some ⟨go,0,none⟩) (Rn+1) cap),
   pV (pv go 0),
   pV (ae pf fn cf),
   pV (ae (some ⟨go,0,none⟩) (Rn+1) cap),
   pV (ae (if cap=1 then some ⟨go,0,none⟩ else some ⟨go,1,none⟩) Rn (cap-1)),
   pV (ae pb cn cb),
   pV (ae pb cn cb),
   pV (ag af 0)]
   (fun w9=>Bw wz w9) [(6,ae (some ⟨go,0,none⟩) (Rn+1) cap)] kQ ?rst (fun w1 w2 h hb=>h.trans (hb.mono h.size)) ((aB _ _).drew) ⟨rfl,trivial⟩ ?reach ?rfin
  case rst=>
   refine⟨sV,sV,sV,sV,sV,sV,sV,sV,trivial⟩
  case reach=>
   refine⟨?_,?_,?_,?_,?_,?_,?_,?_,trivial⟩<;>rintro ev w1 hS hc hg hf ⟨b6,-⟩ hd
   .exact tV
   .have d0:ev (aL 65)=_:=hd.1 rfl;exact tV
   .have d1:ev (aL 66)=_:=hd.1 rfl;have z:=HC0.out w1 hS;exact tV
   .exact tV
   .have d3:ev (aL 68)=_:=hd.1 rfl;exact tV
   .have d2:ev (aL 67)=_:=hd.1 rfl;have d4:ev (aL 69)=_:=hd.2.1 rfl;refine yc (HBe.out w1 hS) ?_ fun _=>rfl;go_simp
   .have d5:ev (aL 70)=_:=hd.1 rfl;exact tV
   exact tV
  case rfin=>
   intro a3 w3 hR;have hS:=hR.s;have e6:a3.tmps.getD 2 aw=_:=hR.val 6;have e7:a3.tmps.getD 3 aw=_:=hR.val 7;have ha:=hR.lits 71 rfl;simp only[aS,cA,nh] at ha;clear hR;rw[e6,e7] at ha;generalize a3.tmps.getD=zz at ha;have pF:=ai hS;clear e6 e7 hS;subst ha;go_wp2;go_ret2;exact⟨_,rfl,by rw[HCn.out];exact HBm.out _ pF.out,HNz.out.trans (pF.out.mono oM)⟩
def DR(b:BB)(bq aM aC:aj)(ml:List Mn)(ss:List Int)(ms:List Mk)(w:ak)(hL:Laid w)(hB:cQ b bq aM aC ml ss ms w)(hne:bf b ml ss ms≠[])(cp:Nat)
  (hown:∀W,Bw w W->bm aq 164 #[aR (b.cells bq aM aC),pv cp 0] W fun e W'=>e=aY (ag af 0)/\Bw W W') :
  bm aq 103 #[aR (b.cells bq aM aC),.func (.func 164) #[] #[pv cp 0]] w fun e w'=>∃v,e=aY (cH #[aR (b.open bq aM aC v),ag af 0])/\iv w' w.heap.size v (bf b ml ss ms)/\Bw w w':=by
 have ug:mU (∀W,Bw w W->bm aq 71 #[aR (b.cells bq aM aC)] W fun e w'=>e=aY (ag af 0)/\Bw W w'):=ai fun W hb=>eO b bq aM aC ml ss ms W (hL.below hb) (hB.below hb);have WN:mU (∀W,Bw w W->bm aq 116 #[.func (.func 117) #[aR (b.cells bq aM aC)] #[]] W fun e w'=>∃v,e=aY v/\iv w' W.heap.size v (bf b ml ss ms)/\Bw W w'):=ai fun W hb=>o_ b bq aM aC ml ss ms W (hB.below hb);have NB:=ai hown;obtain⟨pm,cm,rfl,_⟩:=aT hB.rm;obtain⟨pn,cn,rfl,_⟩:=aT hB.rs;obtain⟨pk,ck,rfl,_⟩:=aT hB.rk;have jX:0<(bf b ml ss ms).length:=cN.2 hne;clear hL hB hne hown;generalize bf b ml ss ms=all at *;generalize ml.length=lm at *;generalize ss.length=ln at *;generalize ms.length=lk at *;have b0:Bw w ((w.alloc (au (b.sl pm lm cm pn ln cn pk lk ck) 28)).alloc (au iE 122)):=dx.alloc sM _;have HT:mU (Two w (b.sl pm lm cm pn ln cn pk lk ck) 28 iE 122 ((w.alloc (au (b.sl pm lm cm pn ln cn pk lk ck) 28)).alloc (au iE 122))):=ai ⟨(Two.mk' w _ _ _ _).one,(Two.mk' w _ _ _ _).two,b0,sM⟩;have Jb:=ai b0;clear b0
 go_enter Tryz.func103,Tryz.ntmps103
 go_wp2_with (first
  |(refine mH rfl 122 _ rfl _ rfl 122 _ (0,0) _ HL7.out jl rfl kQ ?_)
  |(refine fY rfl 122 _ _ rfl _ _ rfl rfl 122 _ PQ.out kQ rfl (by simp[cD]) ?_)
  |(go_at_call 71;refine(ug.out _ Jb.out).mono ?_;clear ug;rintro e w1 ⟨rfl,hb1⟩
    have sZ:=HT.out.next hb1;have pE:=ai sZ
    obtain⟨x0,x1,x2,x3,x4,x5,x6,x7,x8,x9,qD,qC,rH,rz,rB⟩:=cg sZ.one
    clear sZ hb1)
  |(go_at_call 164;refine(NB.out _ (pE.out.below.alloc (by have:=pE.out.size;omega) _)).mono ?_;clear NB;rintro e w2 ⟨rfl,hb2⟩
    have Dp:=(pE.out.next ((aB _ _).alloc (aO _) (au (b.open (ae pm lm cm) (ae pn ln cn) (ae pk lk ck) (ae none 0 0)) 122))).next hb2;have Hs:=ai Dp
    have hk2:=(hb2.block w1.heap.size sM).trans (az w1 _);have Hu:=ai hk2;have hs1:=pE.out.size;have hs2:=hb2.size;obtain⟨y0,y1,y2,y3,y4,y5,y6,y7,y8,y9,NS,PW,PV,PU,KX,Jd⟩:=jJ hk2
    clear Dp hk2 hb2)
  |(go_at_call 116;refine(WN.out _ Hs.out.below).mono ?_;clear WN;rintro e w3 ⟨v,rfl,jc,hb3⟩
    have Gq:=Hs.out.next hb3;have QU:=ai Gq;have NC:=ai jc
    simp only[dY] at hs2;have hk3:=(hb3.block w1.heap.size oM).trans Hu.out;have HK3:=ai hk3;have hs3:=hb3.size;clear y0 y1 y2 y3 y4 y5 y6 y7 y8 y9 NS PW PV PU KX Jd;have Jd:=aK hk3 15 _ rfl;have f7:=cZ hk3 15;have pF:=ai hb3
    obtain⟨gv,pg,rfl,Fj⟩:∃gv pg,v=ae (some ⟨gv,0,none⟩) all.length pg/\w2.heap.size<=gv:=by
     rcases jc.1.2 with⟨_,h0⟩|⟨g,cap,cur,rfl,hg,_⟩
     .omega
     exact⟨g,cap,rfl,hg⟩
    have HL7:mU ((w3.setCell ⟨w1.heap.size,15,none⟩ (ae (some ⟨gv,0,none⟩) all.length pg)).heap[w1.heap.size]?=some (au (b.open (ae pm lm cm) (ae pn ln cn) (ae pk lk ck) (ae (some ⟨gv,0,none⟩) all.length pg)) 122 (0,0))):=ai (dc _ hk3);have PQ:mU ((w3.setCell ⟨w1.heap.size,15,none⟩ (ae (some ⟨gv,0,none⟩) all.length pg)).heap[w.heap.size+1]?=some (au iE 122 (0,0))):=ai ((bu _ _ _ _ (by show w.heap.size+1≠w1.heap.size;omega)).trans Gq.two)
    clear Gq hk3 hb3 jc))
 refine bj (results_cell_tmp (g:=w.heap.size+1) rfl rfl (jw _ _ 122 122 _ (0,0) _ (dg PQ.out) jl rfl kQ)) rfl ⟨_,rfl,?_,?_⟩
 .have hs1:=pE.out.size;refine(NC.out.at_ fun g hg=>?_).base oM;have Fo:g=gv:=by simpa [jy] using hg.symm
  subst Fo;exact(setRow_other oM).trans (bu _ _ _ _ (by show g≠w1.heap.size;omega))
 have hs1:=pE.out.size;exact dA (QU.out.below.setCell (p:=⟨w1.heap.size,15,none⟩) (by show _<=w1.heap.size;omega) _) oM
def il:List Int->List Int->Bool
 |_,[]=>false
 |[],_::_=>true
 |x::xs,y::ys=>if x<y then true else if y<x then false else il xs ys
def Km(xs ys:List Int)(k:Nat)(h1:k<xs.length)(h2:k<ys.length):il (xs.drop k) (ys.drop k)=if xs[k]<ys[k] then true else if ys[k]<xs[k] then false else il (xs.drop (k+1)) (ys.drop (k+1)):=by
 rw[dW h1,dW h2];rfl
def Aj:∀(xs ys:List Int),(!il xs ys && !il ys xs)=decide (xs=ys)
 |[],[]=>rfl
 |[],_::_=>by simp[il]
 |_::_,[]=>by simp[il]
 |x::xs,y::ys=>by
  have ih:=Aj xs ys;unfold il
  by_cases h1:x<y
  .have:x≠y:=oM;simp[h1,this]
  by_cases h2:y<x
  .have:x≠y:=oM;simp[h2,this]
  have:x=y:=oM;subst this;simp only[Int.lt_irrefl,if_false,List.cons.injEq,true_and];exact ih
def C_(xs ys:List Int)(v1 v2:aj)(w:ak)(h1:Reads w v1 xs.length (xs.map (aD af)))(h2:Reads w v2 ys.length (ys.map (aD af))) :
  bm aq 46 #[v1,v2] w (Rt w (aI (il xs ys))):=by
 obtain⟨p1,c1,rfl,hb1⟩:=aT h1;obtain⟨p2,c2,rfl,hb2⟩:=aT h2
 have cell:∀ {zs:List Int} {p:Option cX} {c:Nat},Reads w (ae p zs.length c) zs.length (zs.map (aD af))->∀k (hk:k<zs.length),∃g off,p=some ⟨g,off,none⟩/\g<w.heap.size/\w.cell? ⟨g,off+k,none⟩=some (ag af zs[k]):=by
  rintro zs p c (⟨h,_⟩|⟨g,off,cap,h,_,hg,hc⟩) k hk
  .cases zs with
   |nil=>simp at hk
   |cons z zs=>simp at h
  cases h;exact⟨g,off,rfl,hg,hc k _ (by simp[hk])⟩
 have QW:=ai (cell h1);have HC2:=ai (cell h2);clear cell h1 h2
 go_enter Tryz.func46,Tryz.ntmps46
 go_wp2
 go_loopw [5] (fun i wr=>∃k:Nat,k<=ys.length/\k<=xs.length/\i=ag af k/\il xs ys=il (xs.drop k) (ys.drop k)/\Bw w wr) (fun i _=>ys.length-(intOf i).toNat)
 case atStart=>exact⟨0,oM,oM,rfl,sM,aB _ _⟩
 case round=>
  obtain⟨k,hk2,qT,rfl,he,eh⟩:=hrel;have hsz:=eh.size;have HE:=ai he;have yh:=ai eh;clear he eh
  by_cases hlt:k<ys.length
  .obtain⟨g2,o2,hp2,hg2,hc2⟩:=HC2.out k hlt;have HY:mU (∀w9,Bw wr w9->w9.cell? ⟨g2,o2+k,none⟩=some (ag af ys[k])):=ai fun w9 h9=>((yh.out.trans (h9.mono hsz)).cell (p:=⟨g2,o2+k,none⟩) hg2).trans hc2
   by_cases hx:k<xs.length
   .obtain⟨g1,o1,hp1,hg1,hc1⟩:=QW.out k hx;have HX:mU (∀w9,Bw wr w9->w9.cell? ⟨g1,o1+k,none⟩=some (ag af xs[k])):=ai fun w9 h9=>((yh.out.trans (h9.mono hsz)).cell (p:=⟨g1,o1+k,none⟩) hg1).trans hc1;have hst:=Km xs ys k hx hlt;subst hp1;subst hp2;clear hc1 hc2 QW HC2;generalize xs[k]=x at *;generalize ys[k]=y at *;generalize tQ:xs.length=n1 at *;generalize xr:ys.length=n2 at *;have HN1:=ai tQ;have HN2:=ai xr;have Wy:=ai hst;clear tQ xr hst;have hge:decide ((n1:Int)<=(k:Int))=false:=decide_eq_false oM;have abA:decide (n1<=k)=false:=decide_eq_false oM;obtain⟨lt,Dr⟩:∃lt,decide (x<y)=lt:=⟨_,rfl⟩
    go_wp2
    refine Gd.cy kQ [
    pV (ag af k),
     pV (ae (some ⟨g1,o1,none⟩) n1 c1),
     pV (ag af n1),
     pV (aI false),
     pV (aI false),
     pV (ae (some ⟨g1,o1,none⟩) n1 c1),
     pV (ag af k),
     pV (pv g1 (o1+k)),
     pV (ag af x),
     pV (ae (some ⟨g2,o2,none⟩) n2 c2),
     pV (ag af k),
     pV (pv g2 (o2+k)),
     pV (ag af y),
     pV (aI lt),
     pV (aI lt)]
     (fun w9=>Bw wr w9) [(0,ae (some ⟨g1,o1,none⟩) n1 c1),(1,ae (some ⟨g2,o2,none⟩) n2 c2),(5,ag af k)] kQ ?rst (fun w1 w2 h hb=>h.trans (hb.mono h.size)) ((aB _ _).drew) ⟨rfl,rfl,rfl,trivial⟩ ?reach ?rfin
    case rst=>
     refine⟨sV,sV,sV,sV,sV,sV,sV,sV,sV,sV,sV,sV,sV,sV,sV,trivial⟩
    case reach=>
     refine⟨?_,?_,?_,?_,?_,?_,?_,?_,?_,?_,?_,?_,?_,?_,?_,trivial⟩<;>rintro ev w1 hS hc hg hf ⟨b0,b1,b5,-⟩ hd
     .exact tV
     .exact tV
     .have d1:ev (aL 13)=_:=hd.1 rfl;exact tV
     .have d0:ev (aL 12)=_:=hd.1 rfl;have d2:ev (aL 14)=_:=hd.2.1 rfl;exact tV
     .have d3:ev (aL 15)=_:=hd.1 rfl;exact tV
     .have d4:ev (aL 16)=_:=hd.1 rfl;refine gL d4 ?_;exact tV
     .have d4:ev (aL 16)=_:=hd.1 rfl;refine gL d4 ?_;exact tV
     .have d5:ev (aL 17)=_:=hd.1 rfl;have d6:ev (aL 18)=_:=hd.2.1 rfl;have d4:ev (aL 16)=_:=hd.2.2.1 rfl;refine gL d4 ?_;exact tV
     .have d7:ev (aL 19)=_:=hd.1 rfl;have d4:ev (aL 16)=_:=hd.2.1 rfl;refine gL d4 ?_;have z:=HX.out w1 hS;exact tV
     .have d4:ev (aL 16)=_:=hd.1 rfl;refine gL d4 ?_;exact tV
     .have d4:ev (aL 16)=_:=hd.1 rfl;refine gL d4 ?_;exact tV
     .have d9:ev (aL 21)=_:=hd.1 rfl;have d10:ev (aL 22)=_:=hd.2.1 rfl;have d4:ev (aL 16)=_:=hd.2.2.1 rfl;refine gL d4 ?_;exact tV
     .have d11:ev (aL 23)=_:=hd.1 rfl;have d4:ev (aL 16)=_:=hd.2.1 rfl;refine gL d4 ?_;have z:=HY.out w1 hS;exact tV
     .have d8:ev (aL 20)=_:=hd.1 rfl;have d12:ev (aL 24)=_:=hd.2.1 rfl;have d4:ev (aL 16)=_:=hd.2.2.1 rfl;refine gL d4 ?_;refine yv ?_ rfl;rw[<-Dr];go_simp
     have d4:ev (aL 16)=_:=hd.1 rfl;have d13:ev (aL 25)=_:=hd.2.1 rfl;exact tV
    case rfin=>
     intro a3 w3 hR;have hS:=hR.s;have Gv:a3.tmps.getD 26 aw=_:=hR.val 14;have ha:=hR.lits 36 rfl;simp only[aS,cA,nh] at ha;rw[hR.kp 0,hR.kp 1,hR.kp 2,hR.kp 3,hR.kp 4,hR.kp 5] at ha;simp only[kY,gI,gH] at ha;clear hR;rw[Gv] at ha;generalize a3.tmps.getD=zz at ha;have pF:=ai hS;clear Gv hS;subst ha;cases lt
     .have h3:¬x<y:=by simpa using Dr
      obtain⟨gt,abx⟩:∃gt,decide (y<x)=gt:=⟨_,rfl⟩
      go_wp2
      refine Gd.cy kQ [
      pV (ae (some ⟨g1,o1,none⟩) n1 c1),
       pV (ag af k),
       pV (pv g1 (o1+k)),
       pV (ag af x),
       pV (ae (some ⟨g2,o2,none⟩) n2 c2),
       pV (ag af k),
       pV (pv g2 (o2+k)),
       pV (ag af y),
       pV (aI gt)]
       (fun w9=>Bw w3 w9) [(0,ae (some ⟨g1,o1,none⟩) n1 c1),(1,ae (some ⟨g2,o2,none⟩) n2 c2),(5,ag af k)] kQ ?rst (fun w1 w2 h hb=>h.trans (hb.mono h.size)) ((aB _ _).drew) ⟨rfl,rfl,rfl,trivial⟩ ?reach ?rfin
      case rst=>
       refine⟨sV,sV,sV,sV,sV,sV,sV,sV,sV,trivial⟩
      case reach=>
       refine⟨?_,?_,?_,?_,?_,?_,?_,?_,?_,trivial⟩<;>rintro ev w1 hS hc hg hf ⟨b0,b1,b5,-⟩ hd
       .exact tV
       .exact tV
       .have d0:ev (aL 27)=_:=hd.1 rfl;have d1:ev (aL 28)=_:=hd.2.1 rfl;exact tV
       .have d2:ev (aL 29)=_:=hd.1 rfl;have z:=HX.out w1 (pF.out.trans (hS.mono pF.out.size));exact tV
       .exact tV
       .exact tV
       .have d4:ev (aL 31)=_:=hd.1 rfl;have d5:ev (aL 32)=_:=hd.2.1 rfl;exact tV
       .have d6:ev (aL 33)=_:=hd.1 rfl;have z:=HY.out w1 (pF.out.trans (hS.mono pF.out.size));exact tV
       have d3:ev (aL 30)=_:=hd.1 rfl;have d7:ev (aL 34)=_:=hd.2.1 rfl;refine yv ?_ rfl;rw[<-abx];go_simp
      case rfin=>
       intro a4 w4 hR;have hS:=hR.s;have e8:a4.tmps.getD 35 aw=_:=hR.val 8;have ha:=hR.lits 36 rfl;simp only[aS,cA,nh] at ha;rw[hR.kp 0,hR.kp 1,hR.kp 2,hR.kp 3,hR.kp 4,hR.kp 5] at ha;simp only[kY,gI,gH] at ha;clear hR;rw[e8] at ha;generalize a4.tmps.getD=zz at ha;have HB4:=ai hS;clear e8 hS;subst ha;cases gt
       .have h4:¬y<x:=by simpa using abx
        have hs:=Wy.out;rw[if_neg (show ¬x<y by omega),if_neg (show ¬y<x by omega)] at hs;have HS:=ai hs;clear hs;go_wp2;go_roundw
        case rel=>exact⟨k+1,oM,oM,by go_num,by rw[HE.out,HS.out],yh.out.trans ((pF.out.trans (HB4.out.mono pF.out.size)).mono hsz)⟩
        case measure=>simp[intOf];omega
       have h4:y<x:=by simpa using abx
       have hs:=Wy.out;rw[if_neg (show ¬x<y by omega),if_pos (show y<x by omega)] at hs;have HS:=ai hs;clear hs;go_wp2
       go_ret
       exact⟨by rw[HE.out,HS.out];rfl,yh.out.trans ((pF.out.trans (HB4.out.mono pF.out.size)).mono hsz)⟩
     have h3:x<y:=by simpa using Dr
     have hs:=Wy.out;rw[if_pos (show x<y by omega)] at hs;have HS:=ai hs;clear hs;go_wp2
     go_ret
     exact⟨by rw[HE.out,HS.out];rfl,yh.out.trans (pF.out.mono hsz)⟩
   obtain rfl:xs.length=k:=oM
   have hres:il xs ys=true:=by
    rw[HE.out,List.drop_length,dW hlt];rfl
   have acY:=ai hres;clear hres hc2 HY QW HC2;generalize tQ:xs.length=n1 at *;generalize xr:ys.length=n2 at *;clear tQ xr;have hge:decide ((n1:Int)<=(n1:Int))=true:=decide_eq_true oM;go_wp2
   refine Gd.cy kQ [
   pV (ag af n1),
    pV (ae p1 n1 c1),
    pV (ag af n1),
    pV (aI true),
    pV (aI true),
    fun v ds w9=>True,
    fun v ds w9=>True,
    fun v ds w9=>True,
    fun v ds w9=>True,
    fun v ds w9=>True,
    fun v ds w9=>True,
    fun v ds w9=>True,
    fun v ds w9=>True,
    fun v ds w9=>True,
    pV (aI true)]
    (fun w9=>Bw wr w9) [(0,ae p1 n1 c1),(1,ae p2 n2 c2),(5,ag af n1)] kQ ?rst (fun w1 w2 h hb=>h.trans (hb.mono h.size)) ((aB _ _).drew) ⟨rfl,rfl,rfl,trivial⟩ ?reach ?rfin
   case rst=>
    refine⟨sV,sV,sV,sV,sV,kS,kS,kS,kS,kS,kS,kS,kS,kS,sV,trivial⟩
   case reach=>
    refine⟨?_,?_,?_,?_,?_,?_,?_,?_,?_,?_,?_,?_,?_,?_,?_,trivial⟩<;>rintro ev w1 hS hc hg hf ⟨b0,b1,b5,-⟩ hd
    .exact tV
    .exact tV
    .have d1:ev (aL 13)=_:=hd.1 rfl;exact tV
    .have d0:ev (aL 12)=_:=hd.1 rfl;have d2:ev (aL 14)=_:=hd.2.1 rfl;exact tV
    .have d3:ev (aL 15)=_:=hd.1 rfl;exact tV
    .have d4:ev (aL 16)=_:=hd.1 rfl;refine⟨fun hgd=>absurd (d4.symm.trans hgd) sM,fun hgd=>⟨trivial,cJ (aB _ _)⟩⟩
    .have d4:ev (aL 16)=_:=hd.1 rfl;refine⟨fun hgd=>absurd (d4.symm.trans hgd) sM,fun hgd=>⟨trivial,cJ (aB _ _)⟩⟩
    .have d4:ev (aL 16)=_:=hd.2.2.1 rfl;refine⟨fun hgd=>absurd (d4.symm.trans hgd) sM,fun hgd=>⟨trivial,cJ (aB _ _)⟩⟩
    .have d4:ev (aL 16)=_:=hd.2.1 rfl;refine⟨fun hgd=>absurd (d4.symm.trans hgd) sM,fun hgd=>⟨trivial,cJ (aB _ _)⟩⟩
    .have d4:ev (aL 16)=_:=hd.1 rfl;refine⟨fun hgd=>absurd (d4.symm.trans hgd) sM,fun hgd=>⟨trivial,cJ (aB _ _)⟩⟩
    .have d4:ev (aL 16)=_:=hd.1 rfl;refine⟨fun hgd=>absurd (d4.symm.trans hgd) sM,fun hgd=>⟨trivial,cJ (aB _ _)⟩⟩
    .have d4:ev (aL 16)=_:=hd.2.2.1 rfl;refine⟨fun hgd=>absurd (d4.symm.trans hgd) sM,fun hgd=>⟨trivial,cJ (aB _ _)⟩⟩
    .have d4:ev (aL 16)=_:=hd.2.1 rfl;refine⟨fun hgd=>absurd (d4.symm.trans hgd) sM,fun hgd=>⟨trivial,cJ (aB _ _)⟩⟩
    .have d4:ev (aL 16)=_:=hd.2.2.1 rfl;refine⟨fun hgd=>absurd (d4.symm.trans hgd) sM,fun hgd=>⟨trivial,cJ (aB _ _)⟩⟩
    have d4:ev (aL 16)=_:=hd.1 rfl;exact tV
   case rfin=>
    intro a3 w3 hR;have hS:=hR.s;have Gv:a3.tmps.getD 26 aw=_:=hR.val 14;have ha:=hR.lits 36 rfl;simp only[aS,cA,nh] at ha;rw[hR.kp 0,hR.kp 1,hR.kp 2,hR.kp 3,hR.kp 4,hR.kp 5] at ha;simp only[kY,gI,gH] at ha;clear hR;rw[Gv] at ha;generalize a3.tmps.getD=zz at ha;have pF:=ai hS;clear Gv hS;subst ha;go_wp2
    go_ret
    exact⟨by rw[acY.out];rfl,yh.out.trans (pF.out.mono hsz)⟩
  obtain rfl:ys.length=k:=oM
  have hres:il xs ys=false:=by
   rw[HE.out,List.drop_length];cases(xs.drop ys.length)<;>rfl
  have acY:=ai hres;clear hres QW HC2;generalize tQ:xs.length=n1 at *;generalize xr:ys.length=n2 at *;clear tQ xr;go_wp2
  go_ret
  exact⟨by rw[acY.out];rfl,yh.out⟩
def Ju(xs ys:List Int)(v1 v2:aj)(w:ak)(h1:Reads w v1 xs.length (xs.map (aD af)))(h2:Reads w v2 ys.length (ys.map (aD af))) :
  bm aq 22 #[v1,v2] w (Rt w (aI (decide (xs=ys)))):=by
 have hA:∀W,Bw w W->bm aq 46 #[v1,v2] W fun e w'=>e=aY (aI (il xs ys))/\Bw W w':=fun W hb=>C_ xs ys v1 v2 W (h1.below hb) (h2.below hb);have hB:∀W,Bw w W->bm aq 46 #[v2,v1] W fun e w'=>e=aY (aI (il ys xs))/\Bw W w':=fun W hb=>C_ ys xs v2 v1 W (h2.below hb) (h1.below hb);obtain⟨p1,c1,rfl,_⟩:=aT h1;obtain⟨p2,c2,rfl,_⟩:=aT h2;rw[<-Aj];generalize il xs ys=r at *;generalize il ys xs=s at *;generalize xs.length=n1 at *;generalize ys.length=n2 at *;have HA:=ai hA;have HB:=ai hB;clear hA hB h1 h2;cases r
 .go_enter Tryz.func22,Tryz.ntmps22
  go_wp2_with fail
  refine(HA.out w (aB _ _)).mono ?_;rintro e w1 ⟨rfl,hb1⟩;have H1:=ai hb1;clear hb1
  go_wp2_with fail
  refine(HB.out w1 H1.out).mono ?_;rintro e w2 ⟨rfl,hb2⟩;have H2:=ai hb2;clear hb2;go_wp2
  go_ret
  exact⟨rfl,H1.out.trans (H2.out.mono H1.out.size)⟩
 go_enter Tryz.func22,Tryz.ntmps22
 go_wp2_with fail
 refine(HA.out w (aB _ _)).mono ?_;rintro e w1 ⟨rfl,hb1⟩;have H1:=ai hb1;clear hb1;go_wp2
 go_ret
 exact⟨rfl,H1.out⟩
end Go.Proofs.YtffladgmkiimjaaGreatDoor
