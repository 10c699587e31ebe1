/- LONE WALKS: slices.AppendSeq, slices.Collect over cases (168, 116); so .. -/
import Derived.Test.YtffladgmkiimjaaGreatDoorW01
import Derived.RangeFuncBox
import Derived.Maps.OwnIn
import Derived.Test.YtffladgmkiimjaaGreatDoorW00
import Derived.Laws.CopyRow
set_option linter.all false
set_option maxHeartbeats 100000000
set_option maxRecDepth 1000000
open Array renaming getElem_modify -> BK,getD_eq_getD_getElem? -> aY,getElem?_eq_some_iff -> ai,replicate_zero -> j7,replicate_succ -> j8
open Bool renaming and_eq_true -> aI
open Go renaming Program -> aL,TypeId -> aZ,undef -> af,Value -> ak,World -> ar,Operand -> bL,wp_cond_split -> bO,bodyPost_ret -> bm,Calls -> bu,execOp -> cG,results_tmp -> cH,Oper -> cR,bodyPost -> dE,Addr -> dc,wp_seq -> eC,wp_skip -> eI,wpList_store_row -> fO,wp_ret -> fW,wpList_append_own -> iM,info_parts -> j3,maxLen -> jM,yielded -> jY,run_loadVar_row -> jo,Tmp -> kG,wpList_load_row -> mg
open Go.Addr renaming add -> k8
open Go.Code renaming wp -> bZ
open Go.Ending renaming returned -> aF,returned -> aP
open Go.Exit renaming ret -> dP
open Go.Instr renaming indexAt -> eE
open Go.IntKind renaming wrap_i64 -> a8,i64 -> ag
open Go.Lib renaming hid -> aj
open Go.Obj renaming cells -> aw
open Go.Operand renaming tmp -> aM
open Go.Proofs.Tryz renaming prog -> aq,underlying25 -> eJ,underlying122 -> jd
open Go.Region renaming wanted -> cS
open Go.RowKit renaming Below -> az,Hid -> mS
open Go.RowKit.Below renaming heap_alloc -> aX,refl -> au,heap_setCell -> bt
open Go.Value renaming int -> aB,bool -> aH,agg -> aR,slice -> ae,int -> ah,tuple -> cO,oneCell' -> cj,ownBlock -> jq,slice -> lz
open Go.World renaming alloc_heap_new -> ay,putObj_heap_other -> dG,ownsRow_nil -> dR,size_alloc -> ej,cell?_alloc_lt -> ey
open List renaming all_eq_true -> a7,range -> aU,take_succ_eq_append_getElem -> bN,range' -> bR,getElem_mem -> bV,eq_nil_of_length_eq_zero -> bf,mem_map -> dN,drop_eq_getElem_cons -> dS,length_pos_iff -> dm,take_of_length_le -> dp,mem_of_mem_take -> eQ,length_map -> fR,cons_append -> gP,length_cons -> iC,append_toArray -> iw,size_toArray -> jG,push_toArray -> jH,nil_append -> kn,range_eq_range' -> mQ,length_nil -> oy,length_append -> qa
open List.cons renaming injEq -> Ax
open Nat renaming le_trans -> aO,le_refl -> ax,lt_of_lt_of_le -> bA,reduceEqDiff -> bU,eq_of_beq_eq_true -> il
open Option.some renaming inj -> bj,injEq -> gQ
open Prod.mk renaming injEq -> iO
namespace Go.Proofs.YtffladgmkiimjaaGreatDoor
open Go.RowKit Go.Lag
attribute [local go_sem] Oper.semAt_some
theorem PN:(Tryz.prog.info? 134).map (fun i=>(i.zero,i.size,i.bytes))=some (some (.agg #[.int .i64 0,.int .i64 0,.int .i64 0,.int .i64 0]),4,32):=by kernel_rfl
def Vt(u:ak):Prop:=∃n,u=.int .i64 n
def gY(W:ar)(base:Nat)(v:ak)(l:List eN):Prop:=W.ownsRow base 134 4 v l.length (rowOf l)/\Whole Vt 134 W v
theorem T2(x:eN):∀u∈x.cells.toList,Vt u:=by
 intro u hu;simp at hu;rcases hu with rfl|rfl|rfl|rfl<;>exact⟨_,rfl⟩
def abO(n0 B:Nat)(pre:List eN)(X:Nat->Prop)(W:ar):Prop:=
 ∃v,Boxed W B 120 v/\gY W n0 v pre/\∀k,X k↔(k=B\/some k=v.ownBlock)
theorem fY{W W':ar}{base:Nat}{e:aZ}{size:Nat}{v:ak}{k:Nat}{xs:List ak}(h:W.ownsRow base e size v k xs)(hs:∀g,v.ownBlock=some g->W'.heap[g]?=W.heap[g]?):W'.ownsRow base e size v k xs:=by
 refine⟨h.1,?_⟩;rcases h.2 with hn|⟨g,cap,cur,rfl,hb,EM,rest⟩
 .exact .inl hn
 exact .inr ⟨g,cap,cur,rfl,hb,(hs g rfl).trans EM,rest⟩
theorem gY.at_{W W':ar}{base:Nat}{v:ak}{l:List eN}(h:gY W base v l)(hs:∀g,v.ownBlock=some g->W'.heap[g]?=W.heap[g]?):gY W' base v l:=
 ⟨fY h.1 hs,fun g hg=>by obtain⟨cur,h1,h2⟩:=h.2 g hg;exact⟨cur,(hs g hg).trans h1,h2⟩⟩
theorem gY.base{W:ar}{base base':Nat}{v:ak}{l:List eN}(h:gY W base v l)(hb:base'<=base):gY W base' v l:=by
 refine⟨⟨h.1.1,?_⟩,h.2⟩;rcases h.1.2 with hn|⟨g,cap,cur,rfl,hb',rest⟩
 .exact .inl hn
 exact .inr ⟨g,cap,cur,rfl,aO hb hb',rest⟩
theorem gY.reads{W:ar}{base:Nat}{v:ak}{l:List eN}(h:gY W base v l)(hl:l.length<=4294967296):Reads W v l.length (rowOf l):=Reads.iT h.1 hl (by rw[h.1.1])
theorem MD(n0 B:Nat):Lag.Abides (abO n0 B):=by
 rintro pre X W W' ⟨v,h1,h2,h3⟩ hs;exact⟨v,(hs B ((h3 B).2 (.inl rfl))).trans h1,h2.at_ fun g hg=>hs g ((h3 g).2 (.inr hg.symm)),h3⟩
theorem FA(n0 B:Nat):Lag.CR (abO n0 B):=by
 rintro pre X W ⟨v,h1,h2,h3⟩ k hk;rcases(h3 k).1 hk with rfl|h
 .exact h1.lt
 exact(h2.1.lt k h.symm).2
def afw(n0 B:Nat)(bk:ak)(pre:List eN)(x:eN)(a:Act)(X:Nat->Prop)(W:ar):Prop:=
 ∃k v,a=⟨#[.slice none 0 0,.func (.func 117) #[bk] #[],pv B 0,af,.slice none 0 0,pv k 0,.func (.func 117) #[bk] #[],.agg x.cells,af,af,af,af,af],[]⟩/\
  Boxed W B 120 v/\gY W n0 v pre/\W.heap[k]?=some (.cells x.cells 134 (0,0))/\(∀j,X j↔(j=B\/j=k\/some j=v.ownBlock))
theorem ME(n0 B:Nat)(bk:ak)(pre:List eN)(x:eN):Lag.Abides (afw n0 B bk pre x):=by
 rintro a X W W' ⟨k,v,h0,h1,h2,h3,h4⟩ hs;exact⟨k,v,h0,(hs B ((h4 B).2 (.inl rfl))).trans h1,h2.at_ fun g hg=>hs g ((h4 g).2 (.inr (.inr hg.symm))),(hs k ((h4 k).2 (.inr (.inl rfl)))).trans h3,h4⟩
theorem uo{n D:Nat}(W:ar)(o:Obj)(h:n<=D):az n W (W.putObj D o):=⟨rfl,rfl,rfl,by simp,fun k hk=>dG (by omega)⟩
theorem Ec(l:List eN)(x:eN):rowOf (l++[x])=rowOf l++x.cells.toList:=by simp[rowOf]
theorem Gy(bk:ak)(all:List eN)(hall:all.length<=1000)(w0:ar)(hseq:aby aq 117 #[bk] RV all w0)(w:ar)(hb:az w0.heap.size w0 w) :
  bu aq 168 #[.slice none 0 0,.func (.func 117) #[bk] #[]] w fun e w'=>∃v,e=.returned v/\gY w' w.heap.size v all/\az w.heap.size w w':=by
 obtain⟨i0,hi,hz0,hz1,hz2⟩:=j3 PN;have HSQ:=aj hseq;clear hseq;refine callsIn_wide (n:=0).1 (callsIn_of_wp_marks Tryz.func168 rfl trivial ?_ rfl);simp only[Tryz.ntmps168,jG,iC,oy,Nat.reduceAdd,Nat.reduceSub,j8,j7,jH,iw,kn,gP]
 gi_wp2
 have hb1:az w.heap.size w (w.alloc (.cells #[.slice none 0 0] 120)):=(au _ _).alloc (ax _) _;have hs0:=hb.size
 refine sH (gf:=117) (la:=#[bk]) rfl (enters_of Tryz.func117 (by kernel_rfl) rfl) (encs:=RV) (all:=all) (w0:=w0) HSQ.out (hb.trans (hb1.mono hs0)) (fun _=>rfl) (abO w.heap.size w.heap.size) (fun _ _ _ _=>False) (MD _ _) (fun _ _ _ _ _ h _=>h) (FA _ _) (fun _ _ _ _ h=>h.elim)
  (fun k=>k=w.heap.size) (by rintro k rfl;exact⟨hs0,by simp⟩) ⟨_,Boxed.new _ _ _,⟨dR _ _ _ _,fun g hg=>by simp[jq] at hg⟩,fun k=>by simp[jq]⟩ (afw w.heap.size w.heap.size bk) (ME _ _ _) ?rassign ?rbody ?rdone ?rstop
 case rassign=>
  intro l m pre x X1 W K hI hge hpre hK;obtain⟨v,h1,h2,h3⟩:=hI;have hX1:=FA _ _ _ _ _ ⟨v,h1,h2,h3⟩;have HK:=aj hK;clear hK
  gi_wp2
  refine HK.out _ (fun j=>X1 j\/j=W.heap.size) _ ⟨rfl,rfl,rfl,by simp,?_,?_⟩ ⟨W.heap.size,v,rfl,h1.alloc _,h2.at_ (fun g hg=>aX _ _ _ (h2.1.lt g hg).2),ay _ _,fun j=>?_⟩
  .rintro j hj (h|rfl)
   .exact h
   omega
  .intro j hj _;exact aX _ _ _ hj
  show(X1 j\/j=W.heap.size)↔_;rw[h3];constructor
  .rintro((h|h)|h)
   .exact .inl h
   .exact .inr (.inr h)
   exact .inr (.inl h)
  rintro(h|h|h)
  .exact .inl (.inl h)
  .exact .inr h
  exact .inl (.inr h)
 case rbody=>
  rintro l m pre x a' X1 W ⟨k,v,rfl,h1,h2,h3,h4⟩ hge hpre;have hlen:pre.length+1<=1000:=by have:=hpre.length_le;simp at this;omega
  have c0:=aJ h3 0 _ rfl;have c1:=aJ h3 1 _ rfl;have c2:=aJ h3 2 _ rfl;have c3:=aJ h3 3 _ rfl;have b0:=h1.cell;have hw1:w.heap.size<=W.heap.size:=Nat.le_of_lt h1.lt
  have HQ2:mS (∀u∈(Value.agg #[.int .i64 0,.int .i64 0,.int .i64 0,.int .i64 0]).cells,Vt u):=aj fun u hu=>by
   have h:u∈#[aB .i64 0,.int .i64 0,.int .i64 0,.int .i64 0]:=hu;simp at h;exact⟨0,h⟩
  have HQ3:mS (Whole Vt 134 (W.alloc (.cells x.cells 134)) v):=aj fun g hg=>by
   obtain⟨cur,q1,q2⟩:=h2.2 g hg;exact⟨cur,(aX _ _ _ (h2.1.lt g hg).2).trans q1,q2⟩
  have Yi:mS (∀(j:Nat) (u:ak),x.cells.toList[j]?=some u->(W.alloc (.cells x.cells 134)).cell? ((⟨W.heap.size,0,none⟩:dc).add j)=some u):=aj fun j u hj=>by
   have:=ay W (.cells x.cells 134);have h5:=aJ this j u (by simpa using hj);have e:(⟨W.heap.size,0,none⟩:dc).add j=⟨W.heap.size,j,none⟩:=by cases j<;>simp[k8]
   rw[e];exact h5
  gi_wp2_with (first
   |(gi_at_builtin;refine uO _ rfl _ _ 120 rfl Vt w.heap.size 134 i0 (.agg #[.int .i64 0,.int .i64 0,.int .i64 0,.int .i64 0]) 4 32 Tryz.underlying120 hi hz0 hz1 hz2 rfl (by decide) _ _ _ rfl (h2.1.alloc _) ⟨W.heap.size,0,none⟩ 1 1 x.cells.toList rfl rfl Yi.out (by simp[cj]) (by unfold jM;omega) (by omega) (by simp;omega) (by decide) HQ2.out (T2 x) HQ3.out ?_
     intro v' w1 hown' hgrow hwh hat;obtain⟨p1,p2,p3,p4,p5⟩:=Boxed.appended h1 (by decide) h2.1 hw1 (ax _) hown' hgrow;obtain⟨g',cap',rfl⟩:=ownsRow_succ hown';have f1:=p1.cell;have f2:=p1.frozen;have HO:=aj (And.intro p2 (And.intro p3 (And.intro hgrow (And.intro hat hwh))));have adC:=p1.not_row (by decide) hown';have HPN:=aj adC
     clear p2 p3 p4 p5 hown' hgrow hwh hat adC))
  obtain⟨p2,p3,hgrow,hat,hwh⟩:=HO.out;refine⟨fun j=>j=w.heap.size\/some j=jq (.slice (some ⟨g',0,none⟩) (pre.length+1) cap'),⟨hgrow.os,hgrow.tape,hgrow.output,by have:=hgrow.size;simp at this ⊢;omega,?_,?_⟩,_,p2,?_,fun j=>Iff.rfl⟩
  .rintro j hj (rfl|h)
   .exact(h4 _).2 (.inl rfl)
   rcases hat with e|e
   .rw[e] at h;exact(h4 _).2 (.inr (.inr h))
   rw[e] at h;simp at h;omega
  .intro j hj hx;have hx2:=fun h=>hx ((h4 j).2 h);refine(bt _ _ _ _ (fun e=>hx2 (.inl e))).trans ((hgrow.block j (by simp;omega) (fun e=>hx2 (.inr (.inr e)))).trans (aX _ _ _ hj))
  refine⟨by rw[Ec,qa];exact p3,fun g hg=>?_⟩;obtain⟨cur,q1,q2⟩:=hwh g hg;exact⟨cur,(bt _ _ _ _ (fun e=>HPN.out ((congrArg some (show w.heap.size=g from e.symm)).trans hg.symm))).trans q1,q2⟩
 case rdone=>
  rintro D X2 W hD hXD hst ⟨v,h1,h2,h3⟩ hK;have b0:=h1.cell;have uS:az w.heap.size w W:=hb1.trans (hst.below (by simp) (by rintro k hk rfl;omega));have HB:=aj uS;have HO:=aj h2;have HK:=aj hK;clear uS h2 h3 hst
  have N1:(∃n cap,v=.slice none n cap)\/∃g n cap,v=.slice (some g) n cap:=by
   rcases HO.out.1.2 with⟨rfl,_⟩|⟨g,cap,cur,rfl,_⟩
   .exact .inl ⟨_,_,rfl⟩
   exact .inr ⟨_,_,_,rfl⟩
  rcases N1 with⟨n,cap,rfl⟩|⟨g,n,cap,rfl⟩
  all_goals
   gi_wp2
   refine⟨by simp,.inl ⟨_,_,rfl,run_takeDeferred HK.out,?_⟩⟩;exact⟨_,cH rfl _ _ _,_,rfl,HO.out.at_ (fun g hg=>dG (fun e=>by obtain⟨cur,q1,_⟩:=HO.out.2 g hg;have hk:=HK.out;rw[<-e,q1] at hk;cases hk)),HB.out.trans (uo _ _ (by simp at hD;omega))⟩
 case rstop=>
  rintro D c pre X2 W _ _ _ h;exact h.elim
theorem Eg(lo hi:Int):(gG lo hi).length=(hi+1-lo).toNat:=by simp[gG]
theorem EX{α β:Type}(f:α->List β)(n:Nat):∀(l:List α),(∀x∈l,(f x).length<=n)->(l.flatMap f).length<=l.length*n
 |[],_=>by simp
 |x::l,h=>by
  have h1:=h x (by simp);have h2:=EX f n l fun y hy=>h y (by simp[hy]);simp only[List.flatMap_cons,qa,iC,Nat.add_mul];omega
theorem ED(ok:eN->Bool):∀(r:List Mn) (lM:Nat) (a:eN),(∀m∈r,m.hi-m.lo<3)->(leaves ok r lM a).length<=3 ^ r.length
 |[],lM,a,_=>by simp only[leaves];split<;>simp
 |m::r,lM,a,h=>by
  have h1:=EX (fun n=>leaves ok r (lM+1) (a.put lM n)) (3 ^ r.length) (gG m.lo m.hi) fun n _=>ED ok r (lM+1) _ fun m' hm=>h m' (by simp[hm]);have h2:=Eg m.lo m.hi;have h3:=h m (by simp);have h4:(gG m.lo m.hi).length<=3:=by omega
  show((gG m.lo m.hi).flatMap _).length<=_;refine aO h1 ?_;rw[iC,Nat.pow_succ,Nat.mul_comm];exact Nat.mul_le_mul_left _ h4
theorem jE{b:BB}{ml:List Mn}(ss:List Int)(ms:List Mk)(hb:b.Ok)(hm:CQ ml):(bw b ml ss ms).length<=81:=by
 have h1:=EX (fun n=>leaves (jP b ss ms) ml 0 ⟨n,0,0,0⟩) 27 (gG b.ll b.lm) fun n _=>by
  have h2:=ED (jP b ss ms) ml 0 ⟨n,0,0,0⟩ fun m h=>(hm.mem m h).2.2.2.2;have h3:3 ^ ml.length<=3 ^ 3:=Nat.pow_le_pow_right (by omega) hm.len;omega
 have h2:=Eg b.ll b.lm;have h3:=hb.leak;unfold bw;omega
theorem oO(b:BB)(bq aK aA:ak)(ml:List Mn)(ss:List Int)(ms:List Mk)(w:ar)(hB:cU b bq aK aA ml ss ms w) :
  bu aq 116 #[.func (.func 117) #[.agg (b.cells bq aK aA)] #[]] w fun e w'=>∃v,e=.returned v/\gY w' w.heap.size v (bw b ml ss ms)/\az w.heap.size w w':=by
 have hl:=jE ss ms hB.ok hB.gZ;have H:=aj (Gy (.agg (b.cells bq aK aA)) (bw b ml ss ms) (by omega) w (HV b bq aK aA ml ss ms w hB) w (au _ _));clear hB;generalize bw b ml ss ms=all at *
 go_enter Tryz.func116,Tryz.ntmps116
 go_wp2_with (go_at_call 168;refine H.out.mono ?_;rintro e w' ⟨v,rfl,ho,hb⟩;have HO:=aj ho;clear ho)
 go_ret
 exact⟨v,rfl,HO.out,hb⟩
theorem yZ{fn:Func}{t:kG}(h:fn.results = #[.cell t 4]){tmps:Array ak}{w:ar}{B:Nat}{z:Bool}(hp:tmps.getD t af=pv B 0)(hc:w.cell? ⟨B,0,none⟩=some (.bool z)) :
  (results fn tmps).run aq w=.ok (.bool z) w:=by
 rw[aY] at hp;unfold results;rw[h];simp only[List.mapM_toArray,go_sem];go_simp
theorem Kw(b:BB)(bq aK aA:ak)(ml:List Mn)(ss:List Int)(ms:List Mk)(w:ar)(hB:cU b bq aK aA ml ss ms w) :
  bu aq 119 #[.agg (b.cells bq aK aA)] w fun e w'=>e=.returned (.bool (decide (bw b ml ss ms≠[])))/\az w.heap.size w w':=by
 have HSQ:=aj (HV b bq aK aA ml ss ms w hB);clear hB;generalize bw b ml ss ms=all at *;refine callsIn_wide (n:=0).1 (callsIn_of_wp_marks Tryz.func119 rfl trivial ?_ rfl);simp only[Tryz.ntmps119,jG,iC,oy,Nat.reduceAdd,Nat.reduceSub,j8,j7,jH,iw,kn,gP]
 gi_wp2
 have hb1:az w.heap.size w ((w.alloc (.cells (b.cells bq aK aA) 119)).alloc (.cells #[.bool false] 4)):=((au _ _).alloc (ax _) _).alloc (by simp) _
 have Uv:Boxed ((w.alloc (.cells (b.cells bq aK aA) 119)).alloc (.cells #[.bool false] 4)) (w.heap.size+1) 4 (.bool false):=by
  have:=Boxed.new (w.alloc (.cells (b.cells bq aK aA) 119)) 4 (.bool false);rwa [ej] at this
 refine sH (gf:=117) (la:=#[.agg (b.cells bq aK aA)]) rfl (enters_of Tryz.func117 (by kernel_rfl) rfl) (encs:=RV) (all:=all) (w0:=w) HSQ.out hb1 (fun _=>rfl)
  (fun pre X W=>pre=[]/\Boxed W (w.heap.size+1) 4 (.bool false)/\∀k,X k↔k=w.heap.size+1) (fun c _ X W=>c=.ret/\all≠[]/\Boxed W (w.heap.size+1) 4 (.bool true)/\∀k,X k↔k=w.heap.size+1)
  (fun _ _ _ _ h hs=>⟨h.1,(hs _ ((h.2.2 _).2 rfl)).trans h.2.1,h.2.2⟩) (fun _ _ _ _ _ h hs=>⟨h.1,h.2.1,(hs _ ((h.2.2.2 _).2 rfl)).trans h.2.2.1,h.2.2.2⟩)
  (fun _ _ _ h k hk=>by rw[(h.2.2 k).1 hk];exact h.2.1.lt) (fun _ _ _ _ h k hk=>by rw[(h.2.2.2 k).1 hk];exact h.2.2.1.lt)
  (fun k=>k=w.heap.size+1) (by rintro k rfl;exact⟨by omega,by simp⟩) ⟨rfl,Uv,fun _=>Iff.rfl⟩
  (fun pre x a' X W=>a'=⟨#[.agg (b.cells bq aK aA),pv w.heap.size 0,pv (w.heap.size+1) 0,.agg (b.cells bq aK aA),.func (.func 117) #[.agg (b.cells bq aK aA)] #[],.agg x.cells],[]⟩/\Boxed W (w.heap.size+1) 4 (.bool false)/\∀k,X k↔k=w.heap.size+1)
  (fun _ _ _ _ _ _ h hs=>⟨h.1,(hs _ ((h.2.2 _).2 rfl)).trans h.2.1,h.2.2⟩) ?rassign ?rbody ?rdone ?rstop
 case rassign=>
  rintro l m pre x X1 W K ⟨rfl,h1,h2⟩ hge hpre hK;have HK:=aj hK;clear hK
  gi_wp2
  exact HK.out _ X1 _ (Step.refl _ _) ⟨by simp,h1,h2⟩
 case rbody=>
  rintro l m pre x a' X1 W ⟨rfl,h1,h2⟩ hge hpre;have c0:=h1.cell;have c1:=h1.frozen
  have hne:all≠[]:=by
   rintro rfl;have:=hpre.length_le;simp at this
  have HN:=aj hne;clear hne
  gi_wp2
  refine⟨X1,⟨rfl,rfl,rfl,by simp,fun _ _ h=>h,fun k hk hx=>bt _ _ _ _ (by rintro rfl;exact hx ((h2 _).2 rfl))⟩,rfl,HN.out,h1.set _,h2⟩
 case rdone=>
  rintro D X2 W hD hXD hst ⟨rfl,h1,h2⟩ hK;have b0:=h1.cell;have b1:=h1.frozen;have uS:az w.heap.size w W:=hb1.trans (hst.below (by simp;omega) (by rintro k hk rfl;omega));have HB:=aj uS;have HK:=aj hK;have HH:=aj h1;clear uS h2 hst hK
  gi_wp2
  simp only[ej] at hD;have hlt:=HH.out.lt;refine⟨by simp,.inl ⟨_,_,rfl,run_takeDeferred ((bt _ _ _ _ (by show D≠w.heap.size+1;omega)).trans HK.out),?_⟩⟩;refine⟨_,yZ (B:=w.heap.size+1) (z:=false) rfl rfl ((World.cell?_of_block (dG (by show w.heap.size+1≠D;omega))).trans (HH.out.set _).cell),by simp,?_⟩;exact(HB.out.setCell (p:=⟨w.heap.size+1,0,none⟩) (by show _<=w.heap.size+1;omega) _).trans (uo _ _ (by omega))
 case rstop=>
  rintro D c pre X2 W hD hXD hst ⟨rfl,hne,h1,h2⟩ hK;have uS:az w.heap.size w W:=hb1.trans (hst.below (by simp;omega) (by rintro k hk rfl;omega));have HB:=aj uS;have HK:=aj hK;have HH:=aj h1;have HN:=aj hne;clear uS h2 hst hK hne h1
  gi_wp2
  simp only[ej] at hD;refine⟨by simp,.inl ⟨_,_,rfl,run_takeDeferred HK.out,?_⟩⟩;refine⟨_,yZ (B:=w.heap.size+1) (z:=true) rfl rfl ((World.cell?_of_block (dG (by show w.heap.size+1≠D;omega))).trans HH.out.cell),by simp[HN.out],?_⟩;exact HB.out.trans (uo _ _ (by omega))
abbrev iu:Array Value:=#[.int .i64 0,.int .i64 0,.int .i64 0,.int .i64 0,.int .i64 0,.int .i64 0,.int .i64 0,.int .i64 0,.int .i64 0,.int .i64 0,.int .i64 0,.int .i64 0,.slice none 0 0,.slice none 0 0,.slice none 0 0,.slice none 0 0]
theorem dh{w:ar}{B i:Nat}{cs:Array ak}{t:aZ}(u:ak)(h:w.heap[B]?=some (.cells cs t (0,0))):(w.setCell ⟨B,i,none⟩ u).heap[B]?=some (.cells (cs.setIfInBounds i u) t (0,0)):=by
 obtain⟨hk,h⟩:=ai.1 h;simp[World.setCell,hk,h,BK]
theorem cV{w:ar}{B:Nat}{cs new:Array ak}{t:aZ}(h:w.heap[B]?=some (.cells cs t (0,0))):(w.setRow B new).heap[B]?=some (.cells new t (0,0)):=by
 obtain⟨hk,h⟩:=ai.1 h;simp[World.setRow,hk,h,BK]
theorem setRow_other{w:ar}{B k:Nat}{new:Array ak}(h:k≠B):(w.setRow B new).heap[k]?=w.heap[k]?:=by
 simp[World.setRow,Array.getElem?_modify,Ne.symm h]
theorem setRow_size{w:ar}{B:Nat}{new:Array ak}:(w.setRow B new).heap.size=w.heap.size:=by simp[World.setRow]
theorem dv{n B:Nat}{a w:ar}{new:Array ak}(h:az n a w)(hB:n<=B):az n a (w.setRow B new):=
 ⟨h.os,h.tape,h.output,by rw[setRow_size];exact h.size,fun k hk=>(setRow_other (by omega)).trans (h.block k hk)⟩
theorem results_cell_tmp{fn:Func}{p q:kG}{ty:aZ}(h:fn.results = #[.cell p ty,.tmp q]){tmps:Array ak}{w:ar}{g:Nat}{cs:Array ak}
  (hp:tmps.getD p af=.pointer (some ⟨g,0,none⟩))
  (hl:(loadVar ty ⟨g,0,none⟩).run aq w=.ok (.agg cs) w) :
  (results fn tmps).run aq w=.ok (.tuple #[.agg cs,tmps.getD q af]) w:=by
 have hp':tmps[p]?.getD af=.pointer (some ⟨g,0,none⟩):=by simpa using hp
 simp[results,h,hp',asAddr,hl]
theorem zm(b:BB)(bq aK aA:ak)(ml:List Mn)(ss:List Int)(ms:List Mk)(w:ar)(hL:Laid w)(hB:cU b bq aK aA ml ss ms w)(hne:bw b ml ss ms≠[])
  (hown:∀W,az w.heap.size w W->bu aq 122 #[.agg (b.cells bq aK aA)] W fun e W'=>e=.returned (.int .i64 0)/\az W.heap.size W W') :
  bu aq 103 #[.agg (b.cells bq aK aA),.func (.func 122) #[] #[]] w fun e w'=>∃v,e=.returned (.tuple #[.agg (b.open bq aK aA v),.int .i64 0])/\gY w' w.heap.size v (bw b ml ss ms)/\az w.heap.size w w':=by
 have tO:mS (∀W,az w.heap.size w W->bu aq 71 #[.agg (b.cells bq aK aA)] W fun e w'=>e=.returned (.int .i64 0)/\az W.heap.size W w'):=aj fun W hb=>eV b bq aK aA ml ss ms W (hL.below hb) (hB.below hb);have Vz:mS (∀W,az w.heap.size w W->bu aq 116 #[.func (.func 117) #[.agg (b.cells bq aK aA)] #[]] W fun e w'=>∃v,e=.returned v/\gY w' W.heap.size v (bw b ml ss ms)/\az W.heap.size W w'):=aj fun W hb=>oO b bq aK aA ml ss ms W (hB.below hb);have MQ:=aj hown;obtain⟨pm,cm,rfl,_⟩:=aW hB.rm;obtain⟨pn,cn,rfl,_⟩:=aW hB.rs;obtain⟨pk,ck,rfl,_⟩:=aW hB.rk;have kC:0<(bw b ml ss ms).length:=dm.2 hne;clear hL hB hne hown;generalize bw b ml ss ms=all at *;generalize ml.length=lm at *;generalize ss.length=ln at *;generalize ms.length=lk at *;have b0:az w.heap.size w ((w.alloc (.cells (b.cells (.slice pm lm cm) (.slice pn ln cn) (.slice pk lk ck)) 28)).alloc (.cells iu 122)):=((au _ _).alloc (ax _) _).alloc (by simp) _;have HT:mS (Two w (b.cells (.slice pm lm cm) (.slice pn ln cn) (.slice pk lk ck)) 28 iu 122 ((w.alloc (.cells (b.cells (.slice pm lm cm) (.slice pn ln cn) (.slice pk lk ck)) 28)).alloc (.cells iu 122))):=aj ⟨(Two.mk' w _ _ _ _).one,(Two.mk' w _ _ _ _).two,b0,by simp⟩;have Kc:=aj b0;clear b0
 go_enter Tryz.func103,Tryz.ntmps103
 go_wp2_with (first
  |(refine mg rfl 122 _ rfl _ rfl 122 _ (0,0) _ HL7.out jd rfl (by kernel_rfl) ?_)
  |(refine fO rfl 122 _ _ rfl _ _ rfl rfl 122 _ O4.out (by kernel_rfl) rfl (by simp[cj]) ?_)
  |(go_at_call 71;refine(tO.out _ Kc.out).mono ?_;clear tO;rintro e w1 ⟨rfl,hb1⟩
    have sw:=HT.out.next hb1;have oX:=aj sw
    obtain⟨x0,x1,x2,x3,x4,x5,x6,x7,x8,x9,oh,og,o6,oA,oW⟩:=bT sw.one
    clear sw hb1)
  |(go_at_call 122;refine(MQ.out _ (oX.out.below.alloc (by have:=oX.out.size;omega) _)).mono ?_;clear MQ;rintro e w2 ⟨rfl,hb2⟩
    have C2:=(oX.out.next ((au _ _).alloc (ax _) (.cells (b.open (.slice pm lm cm) (.slice pn ln cn) (.slice pk lk ck) (.slice none 0 0)) 122))).next hb2;have GD:=aj C2
    have hk2:=(hb2.block w1.heap.size (by simp)).trans (ay w1 _);have GG:=aj hk2;have hs1:=oX.out.size;have hs2:=hb2.size;obtain⟨y0,y1,y2,y3,y4,y5,y6,y7,y8,y9,M6,O9,O8,O7,Kf,Il⟩:=jC hk2
    clear C2 hk2 hb2)
  |(go_at_call 116;refine(Vz.out _ GD.out.below).mono ?_;clear Vz;rintro e w3 ⟨v,rfl,jn,hb3⟩
    have FN:=GD.out.next hb3;have Qj:=aj FN;have MR:=aj jn
    simp only[ej] at hs2;have hk3:=(hb3.block w1.heap.size (by omega)).trans GG.out;have HK3:=aj hk3;have hs3:=hb3.size;clear y0 y1 y2 y3 y4 y5 y6 y7 y8 y9 M6 O9 O8 O7 Kf Il;have Il:=aJ hk3 15 _ rfl;have f7:=dg hk3 15;have pJ:=aj hb3
    obtain⟨gv,oP,rfl,EJ⟩:∃gv oP,v=.slice (some ⟨gv,0,none⟩) all.length oP/\w2.heap.size<=gv:=by
     rcases jn.1.2 with⟨_,h0⟩|⟨g,cap,cur,rfl,hg,_⟩
     .omega
     exact⟨g,cap,rfl,hg⟩
    have HL7:mS ((w3.setCell ⟨w1.heap.size,15,none⟩ (.slice (some ⟨gv,0,none⟩) all.length oP)).heap[w1.heap.size]?=some (.cells (b.open (.slice pm lm cm) (.slice pn ln cn) (.slice pk lk ck) (.slice (some ⟨gv,0,none⟩) all.length oP)) 122 (0,0))):=aj (dh _ hk3);have O4:mS ((w3.setCell ⟨w1.heap.size,15,none⟩ (.slice (some ⟨gv,0,none⟩) all.length oP)).heap[w.heap.size+1]?=some (.cells iu 122 (0,0))):=aj ((bt _ _ _ _ (by show w.heap.size+1≠w1.heap.size;omega)).trans FN.two)
    clear FN hk3 hb3 jn))
 refine bm (results_cell_tmp (g:=w.heap.size+1) rfl rfl (jo _ _ 122 122 _ (0,0) _ (cV O4.out) jd rfl (by kernel_rfl))) rfl ⟨_,rfl,?_,?_⟩
 .have hs1:=oX.out.size;refine(MR.out.at_ fun g hg=>?_).base (by omega);have EM:g=gv:=by simpa [jq] using hg.symm
  subst EM;exact(setRow_other (by omega)).trans (bt _ _ _ _ (by show g≠w1.heap.size;omega))
 have hs1:=oX.out.size;exact dv (Qj.out.below.setCell (p:=⟨w1.heap.size,15,none⟩) (by show _<=w1.heap.size;omega) _) (by omega)
end Go.Proofs.YtffladgmkiimjaaGreatDoor
namespace Go.Lag
open Go Go.RowKit Go.Proofs.YtffladgmkiimjaaGreatDoor
abbrev Es:=List (kG × En)
def WW(d:kG)(ch:List (Nat × Bool)):Bool:=ch.all fun p=>!Nat.beq p.1 d
section
variable(P:aL)(aN:Array cR)(base:List (kG × ak))(C:Cf)(n:Nat)
def rh(es:Es):bL->ak
 |.const v=>v
 |.global g=>.pointer (some ⟨g,0,none⟩)
 |.func f=>.func (.func f) #[] #[]
 |.tmp t=>match l8 es t with
  |some e=>e.2.1
  |none=>(l8 base t).getD af
def SB(es:Es)(ch:List (Nat × Bool)):bL->Bool
 |.tmp t=>match l8 es t with
  |some e=>subs e.1 ch
  |none=>(l8 base t).isSome
 |_=>true
def R7(es:Es)(g:kG):List (Nat × Bool):=match l8 es g with|some e=>e.1|none=>[]
def RJ(es:Es)(o:cR):Option (List (Nat × Bool)):=
 match o.guard with
 |none=>some []
 |some (j,b)=>match eb aN j with
  |none=>none
  |some g=>match l8 C.lits g with
   |some b'=>bif b'==b then some (R7 es g) else none
   |none=>some ((g,b)::R7 es g)
def ZQ:bL->Option Bool
 |.tmp t=>l8 C.lits t
 |_=>none
def Pa(c:bL)(b:Bool)(ch:List (Nat × Bool)):List (Nat × Bool):=
 match c with
 |.tmp t=>(t,b)::ch
 |_=>ch
def Hl(es:Es)(i:Nat)(o:cR):Option (Next × List Nat):=look P (U8 C i) (cG (rh base es) o)
def xG(es:Es)(i:Nat)(o:cR):ak × List Nat:=
 match l8 C.hs i with
 |some v=>(v,[])
 |none=>match o.op with
  |.pick c a b=>(match ZQ C c with
   |some true=>rh base es a
   |some false=>rh base es b
   |none=>bools (rh base es c) (rh base es a) (rh base es b),[])
  |_=>match Hl P base C es i o with
   |some (.value v,bl)=>(v,bl)
   |_=>(af,[])
def r7(es:Es)(i:Nat)(o:cR):En:=
 match RJ aN C es o with
 |none=>([],af,[])
 |some ch=>(ch,xG P base C es i o)
def Nv(es:Es)(i:Nat)(o:cR):Es:=
 match o.dst with
 |some d=>(d,r7 P aN base C es i o)::es
 |none=>es
def F6:Nat->List cR->Es->Es
 |_,[],es=>es
 |i,o::l,es=>F6 (i+1) l (Nv P aN base C es i o)
def jS(es:Es)(ch:List (Nat × Bool)):Bool:=ch.all fun p=>NT (rh base es (.tmp p.1)) p.2
def okO(es:Es)(i:Nat)(o:cR)(ch:List (Nat × Bool)):Bool:=
 match o.op with
 |.pick c a b=>(l8 C.hs i).isNone&&SB base es ch c&&(match ZQ C c with
  |some true=>NT (rh base es c) true&&SB base es ch a
  |some false=>NT (rh base es c) false&&SB base es ch b
  |none=>isBool (rh base es c)&&isBool (rh base es a)&&isBool (rh base es b)&&SB base es (Pa c true ch) a&&SB base es (Pa c false ch) b)
 |_=>(match uC o.op with
   |some l=>l.all (SB base es ch)
   |none=>false) &&
  (match l8 C.hs i with
  |some _=>true
  |none=>match Hl P base C es i o with
   |some (.value _,bl)=>(qD C i).isSome||bl.isEmpty
   |_=>false)
def UI(es:Es)(o:cR):Bool:=
 match o.guard with
 |none=>true
 |some (j,_)=>match eb aN j with
  |none=>false
  |some g=>((l8 es g).isSome||(l8 base g).isSome)&&(match l8 C.lits g with | some b'=>NT (rh base es (.tmp g)) b' | none=>true)
def P7(es:Es)(e:En)(o:cR):Bool:=
 match o.dst with
 |none=>true
 |some d=>Nat.blt d n&&WW d e.1&&es.all fun p=>WW d p.2.1
def XV:Nat->List cR->Es->Bool
 |_,[],_=>true
 |i,o::l,es=>(UI aN base C es o&&(match RJ aN C es o with
  |none=>true
  |some ch=>okO P base C es i o ch)&&P7 n es (r7 P aN base C es i o) o)&&XV (i+1) l (Nv P aN base C es i o)
def Xd:Nat->List cR->Es->List (List Nat)
 |_,[],_=>[]
 |i,o::l,es=>(r7 P aN base C es i o).2.2::Xd (i+1) l (Nv P aN base C es i o)
def Xc:Nat->List cR->Es->List (List Nat)
 |_,[],_=>[]
 |i,o::l,es=>((r7 P aN base C es i o).2.2.map fun _=>((qD C i).map (·.1)).getD 0)::Xc (i+1) l (Nv P aN base C es i o)
def zT(i k:Nat):List Oper:=(aN.toList.drop i).take k
def Ma(i j:Nat):Es:=F6 P aN base C i (zT aN i (j-i)) []
def SJ(G:Nat->Sem Next->ar->ak->Prop)(S:ar->Prop)(i:Nat):List (Nat × ak)->Prop
 |[]=>True
 |p::l=>(∀w,S w->jS base (Ma P aN base C i p.1) (r7 P aN base C (Ma P aN base C i p.1) p.1 (opAt aN p.1)).1=true->G p.1 (cG (rh base (Ma P aN base C i p.1)) (opAt aN p.1)) w p.2)/\SJ G S i l
def acL(es:Es)(t:kG):Option Value:=
 match l8 es t with
 |some e=>match e.1 with|[]=>some e.2.1|_=>none
 |none=>none
structure MN(a0:Act)(es:Es)(a:Act):Prop where
 size:a.tmps.size=n
 defers:a.defers=[]
 ent:∀t e,l8 es t=some e->a.eval (.tmp t)=M4 (jS base es e.1) e.2.1
 bas:∀t v,l8 es t=none->l8 base t=some v->a.eval (.tmp t)=v
 keep:∀t,l8 es t=none->a.eval (.tmp t)=a0.eval (.tmp t)
structure wO(Wp:List Nat->Act->ar->Prop)(Y:mE):Prop where
 go:∀i rest o a w R,aN[i]?=some o->cS o (jY aN a.tmps)=true->Y o a.eval w R->(∀v w',R v w'->Wp rest (a.put o.dst v) w')->Wp (i::rest) a w
 no:∀i rest o a w,aN[i]?=some o->¬cS o (jY aN a.tmps)=true->Wp rest (a.put o.dst af) w->Wp (i::rest) a w
def zb(dM:List (kG × ak))(i k:Nat)(outs:List (kG × ak)):Bool × List (List Nat) × List (Option ak):=
 (Nat.ble (i+k) aN.size&&(dM.all fun p=>(l8 (F6 P aN base C i (zT aN i k) []) p.1).isNone)&&XV P aN base C n i (zT aN i k) [],Xd P aN base C i (zT aN i k) [],outs.map fun p=>acL (F6 P aN base C i (zT aN i k) []) p.1)
def za(i k:Nat)(outs:List (kG × ak)):Bool × List (List Nat) × List (Option ak):=(true,Xc P aN base C i (zT aN i k) [],outs.map fun p=>some p.2)
end
section
variable{P:aL}{aN:Array cR}{base:List (kG × ak)}{C:Cf}{n:Nat}{S:ar->Prop}{a0:Act}
theorem vF{β:Type}(d:Nat)(e:β)(es:List (Nat × β))(t:Nat):l8 ((d,e)::es) t=if d=t then some e else l8 es t:=by
 show(bif Nat.beq d t then some e else l8 es t)=_;cases hb:Nat.beq d t with
 |true=>rw[if_pos (il hb)];rfl
 |false=>rw[if_neg (fun h=>by subst h;rw[Nat.beq_refl] at hb;cases hb)];rfl
theorem Dy{es:Es}{t:kG}:rh base es (.tmp t)=match l8 es t with|some e=>e.2.1|none=>(l8 base t).getD undef:=rfl
theorem Kl{o:cR}{j g:Nat}{b:Bool}{a:Act}(hgd:o.guard=some (j,b))(MZ:eb aN j=some g):cS o (jY aN a.tmps)=true↔a.eval (.tmp g)=.bool b:=by
 have hd:(aN[j]?).bind (·.dst)=some g:=MZ;have hy:jY aN a.tmps j=match a.tmps[g]? with|some (.bool x)=>some x|_=>none:=by unfold jY;rw[hd];rfl
 have he:a.eval (.tmp g)=(a.tmps[g]?).getD undef:=by unfold Act.eval;simp only[aY]
 unfold cS;rw[hgd,he];simp only[];rw[hy];cases h8:a.tmps[g]? with
 |none=>simp[af]
 |some v=>cases v<;>simp
theorem EE{ev:bL->ak}{t:kG}{v:ak}:∀ {l:List (kG × ak)},fZ ev l->l8 l t=some v->ev (.tmp t)=v
 |p::l,hb,h=>by
  obtain⟨d,x⟩:=p;rw[vF] at h;split at h
  .rename_i hd;subst hd;cases h;exact hb.1
  exact EE hb.2 h
theorem Yt{es:Es}{a:Act}{ch:List (Nat × Bool)}(hi:MN base n a0 es a)(hc:jS base es ch=true):∀ {x:bL},SB base es ch x=true->a.eval x=rh base es x
 |.const v,_=>rfl
 |.global g,_=>rfl
 |.func f,_=>rfl
 |.tmp t,h=>by
  unfold SB at h;unfold rh;simp only[] at h ⊢;cases hs:l8 es t with
  |none=>
   rw[hs] at h;simp only[] at h ⊢;cases hk:l8 base t with
   |none=>rw[hk] at h;cases h
   |some v=>exact hi.bas t v hs hk
  |some e=>
   rw[hs] at h;simp only[] at h ⊢;rw[hi.ent t e hs]
   have:jS base es e.1=true:=by
    unfold subs at h;unfold jS at *;rw[a7] at *;intro p hp;obtain⟨q,hq,h1⟩:=List.any_eq_true.1 (h p hp);rw[aI] at h1;have h2:=hc q hq;rw[il h1.1,eq_of_beq h1.2];exact h2
   rw[this];rfl
theorem Mh{es:Es}{d:kG}{e:En}{ch:List (Nat × Bool)}(h:WW d ch=true):jS base ((d,e)::es) ch=jS base es ch:=by
 unfold jS;unfold WW at h;rw[a7] at h;rw[Bool.eq_iff_iff,a7,a7];refine forall_congr' fun p=>forall_congr' fun hp=>?_;have h1:=h p hp;have hne:d≠p.1:=fun e=>by rw[<-e,Nat.beq_refl] at h1;cases h1
 rw[Dy,Dy,vF,if_neg hne]
theorem PJ{es:Es}{a:Act}{i:Nat}{o:cR}{v:ak}(hi:MN base n a0 es a)(hd:P7 n es (r7 P aN base C es i o) o=true)(hv:∀d,o.dst=some d->v=M4 (jS base es (r7 P aN base C es i o).1) (r7 P aN base C es i o).2.1) :
  MN base n a0 (Nv P aN base C es i o) (a.put o.dst v):=by
 unfold Nv;unfold P7 at hd;cases hdd:o.dst with
 |none=>exact⟨hi.size,hi.defers,hi.ent,hi.bas,hi.keep⟩
 |some d=>
  rw[hdd] at hd;simp only[aI] at hd ⊢;obtain⟨⟨h1,h2⟩,h3⟩:=hd
  have hdn:d<n:=by
   unfold Nat.blt at h1;exact Nat.le_of_ble_eq_true h1
  rw[a7] at h3;refine⟨by rw[zf,hi.size],by rw[put_defers,hi.defers],fun t e ht=>?_,fun t u ht hb=>?_,fun t ht=>?_⟩
  .rw[vF] at ht;split at ht
   .rename_i hdt;subst hdt;cases ht;rw[put_eq a d v (by rw[hi.size];exact hdn),Mh h2];exact hv d hdd
   rename_i hdt;rw[tW _ _ _ _ (by simpa using hdt),hi.ent t e ht,Mh];exact h3 (t,e) (zB ht)
  .rw[vF] at ht;split at ht
   .cases ht
   rename_i hdt;rw[tW _ _ _ _ (by simpa using hdt)];exact hi.bas t u ht hb
  rw[vF] at ht;split at ht
  .cases ht
  rename_i hdt;rw[tW _ _ _ _ (by simpa using hdt)];exact hi.keep t ht
theorem SJ.get{G:Nat->Sem Next->ar->ak->Prop}{i:Nat}:∀ {l:List (Nat × ak)} {p:Nat × ak},SJ P aN base C G S i l->p∈l->∀w,S w->jS base (Ma P aN base C i p.1) (r7 P aN base C (Ma P aN base C i p.1) p.1 (opAt aN p.1)).1=true->G p.1 (cG (rh base (Ma P aN base C i p.1)) (opAt aN p.1)) w p.2
 |q::l,p,h,hp=>by
  rcases List.mem_cons.1 hp with rfl|hp
  .exact h.1
  exact SJ.get h.2 hp
theorem Wb{es:Es}{i:Nat}{o:cR}(Rs:∀c a b,o.op≠.pick c a b)(A3:l8 C.hs i=none):xG P base C es i o=match Hl P base C es i o with|some (.value v,bl)=>(v,bl)|_=>(af,[]):=by
 unfold xG;rw[A3];cases ho:o.op<;>first|exact absurd ho (Rs _ _ _)|rfl
theorem ZF{es:Es}{i:Nat}{o:cR}{ch:List (Nat × Bool)}(Rs:∀c a b,o.op≠.pick c a b):okO P base C es i o ch=((match uC o.op with | some l=>l.all (SB base es ch) | none=>false)&&(match l8 C.hs i with | some _=>true | none=>match Hl P base C es i o with | some (.value _,bl)=>(qD C i).isSome||bl.isEmpty | _=>false)):=by
 unfold okO;cases ho:o.op<;>first|exact absurd ho (Rs _ _ _)|rfl
theorem Zo{Wp:List Nat->Act->ar->Prop}{Y:mE}{G:Nat->Sem Next->ar->ak->Prop}{T:ar->ar->Prop}(L:wO aN Wp Y)(VT:∀w w',S w->T w w'->S w')(RB:∀w,T w w)
  {i:Nat} {o:cR} (ho:aN[i]?=some o) (hn:l8 C.hs i=none->∀s w v,s.run P w=.ok (.value v) w->G i s w v)
  (hY:∀ev w v R,S w->(∀w',S w'->G i (cG ev o) w' v)->(∀w',T w w'->R v w')->Y o ev w R) (hm:nL S C.mem)
  {es:Es} {a:Act} {w:ar} {rest:List Nat} (hi:MN base n a0 es a) (hS:S w) (h1:UI aN base C es o=true) (h2:∀ch,RJ aN C es o=some ch->okO P base C es i o ch=true) (h3:P7 n es (r7 P aN base C es i o) o=true)
  (h4:∀b∈(r7 P aN base C es i o).2.2,b=((qD C i).map (·.1)).getD 0) (h5:∀v,l8 C.hs i=some v->∀w,S w->jS base es (r7 P aN base C es i o).1=true->G i (cG (rh base es) o) w v)
  (hk:∀a w,S w->MN base n a0 (Nv P aN base C es i o) a->Wp rest a w):Wp (i::rest) a w:=by
 have go:∀ch,RJ aN C es o=some ch->jS base es ch=true->cS o (jY aN a.tmps)=true->Wp (i::rest) a w:=fun ch hgd l5 hw=>by
  have uQ:=h2 ch hgd;have hse:r7 P aN base C es i o=(ch,xG P base C es i o):=by unfold r7;rw[hgd]
  have hput:∀w',T w w'->∀u,u=(xG P base C es i o).1->Wp rest (a.put o.dst u) w':=fun w' ht u hu=>hk _ _ (VT _ _ hS ht) (PJ hi h3 fun d _=>by
   rw[hse];show u=M4 (jS base es ch) (xG P base C es i o).1
   rw[l5,hu];rfl)
  have hop:∀ {ch':List (Nat × Bool)} {x:bL},jS base es ch'=true->SB base es ch' x=true->a.eval x=rh base es x:=fun g1 g2=>Yt hi g1 g2
  have fin:(∀w',S w'->G i (cG a.eval o) w' (xG P base C es i o).1)->Wp (i::rest) a w:=fun hg=>
   L.go i rest o a w (fun v w'=>v=(xG P base C es i o).1/\T w w') ho hw (hY _ _ _ _ hS hg fun w' ht=>⟨rfl,ht⟩) fun v w' ⟨e,ht⟩=>hput w' ht v e
  have rest':(∀c a b,o.op≠.pick c a b)->Wp (i::rest) a w:=fun Rs=>by
   have h6:(match uC o.op with | some l=>l.all (SB base es ch) | none=>false)=true/\(match l8 C.hs i with | some _=>true | none=>match Hl P base C es i o with | some (.value _,bl)=>(qD C i).isSome||bl.isEmpty | _=>false)=true:=by
    rw[ZF Rs,aI] at uQ;exact uQ
   cases hl:uC o.op with
   |none=>rw[hl] at h6;cases h6.1
   |some l=>
    rw[hl] at h6;have hex:cG a.eval o=cG (rh base es) o:=execOp_congr hl fun x hx=>hop l5 (a7.1 h6.1 x hx);cases A3:l8 C.hs i with
    |some v=>
     have hv:(xG P base C es i o).1=v:=by unfold xG;rw[A3]
     refine fin fun w' M3=>?_;rw[hex,hv];exact h5 v A3 w' M3 (by rw[hse];exact l5)
    |none=>
     rw[A3] at h6;cases hlk:Hl P base C es i o with
     |none=>rw[hlk] at h6;cases h6.2
     |some nb=>
      obtain⟨nx,bl⟩:=nb;rw[hlk] at h6;cases nx<;>try (cases h6.2;done)
      rename_i v;have hv:xG P base C es i o=(v,bl):=by rw[Wb Rs A3,hlk]
      refine fin fun w' M3=>hn A3 _ _ _ ?_;rw[hv,hex];refine nj hlk fun b Rz=>?_;have h7:=h4 b (by rw[hse,hv];exact Rz);have h8:=h6.2;simp only[] at h8;unfold U8;cases hmm:qD C i with
      |none=>
       rw[hmm] at h8;cases bl with
       |nil=>cases Rz
       |cons _ _=>cases h8
      |some m=>
       rw[hmm] at h7;have h7:b=m.1:=h7;subst h7;unfold qD at hmm;exact hm.get (List.mem_of_getElem? hmm) w' M3
  by_cases FO:∃c a b,o.op=.pick c a b
  case neg=>exact rest' fun c a b h=>FO ⟨c,a,b,h⟩
  obtain⟨c,x,y,A2⟩:=FO;unfold okO at uQ;rw[A2] at uQ;simp only[aI] at uQ;obtain⟨⟨hnone,aac⟩,rY⟩:=uQ;have A3:l8 C.hs i=none:=by simpa using hnone
  have N7:=hop l5 aac;cases Jr:ZQ C c with
  |some t=>
   rw[Jr] at rY
   have hv:(xG P base C es i o).1=if t then rh base es x else rh base es y:=by
    unfold xG;rw[A3,A2];simp only[Jr];cases t<;>rfl
   cases t with
   |true=>
    rw[aI] at rY;refine fin fun w' M3=>hn A3 _ _ _ ?_;rw[hv,ry A2 (N7.trans (ou.1 rY.1)),if_pos rfl,if_pos rfl,hop l5 rY.2]
   |false=>
    rw[aI] at rY;refine fin fun w' M3=>hn A3 _ _ _ ?_;rw[hv,ry A2 (N7.trans (ou.1 rY.1)),if_neg (by simp),if_neg (by simp),hop l5 rY.2]
  |none=>
   rw[Jr] at rY;simp only[aI] at rY;obtain⟨⟨⟨⟨g1,g2⟩,g3⟩,g4⟩,g5⟩:=rY
   have hv:(xG P base C es i o).1=bools (rh base es c) (rh base es x) (rh base es y):=by
    unfold xG;rw[A3,A2];simp only[Jr]
   have ib:∀ {v:ak},isBool v=true->∃x,v=.bool x:=fun {v} h=>by cases v<;>first|exact⟨_,rfl⟩|cases h
   obtain⟨t,ht⟩:=ib g1;obtain⟨x',hx⟩:=ib g2;obtain⟨y',hy⟩:=ib g3
   have hw2:∀q,t=q->jS base es (Pa c q ch)=true:=fun q hq=>by
    unfold Pa;cases c<;>simp only[]<;>try exact l5
    unfold jS at l5 ⊢;rw[List.all_cons,l5,ht,hq];cases q<;>rfl
   refine fin fun w' M3=>hn A3 _ _ _ ?_;rw[hv,ry A2 (N7.trans ht),ht,hx,hy];cases t with
   |true=>rw[if_pos rfl,hop (hw2 true rfl) g4,hx];rfl
   |false=>rw[if_neg (by simp),hop (hw2 false rfl) g5,hy];rfl
 cases hgd:o.guard with
 |none=>exact go [] (by unfold RJ;rw[hgd]) rfl (by simp[cS,hgd])
 |some jb=>
  obtain⟨j,b⟩:=jb;unfold UI at h1;rw[hgd] at h1;simp only[] at h1;cases MZ:eb aN j with
  |none=>rw[MZ] at h1;cases h1
  |some g=>
   rw[MZ] at h1;simp only[aI] at h1;obtain⟨hkn,hlt⟩:=h1
   have hval:a.eval (.tmp g)=M4 (jS base es (R7 es g)) (rh base es (.tmp g)):=by
    unfold R7;rw[Dy];cases qZ:l8 es g with
    |some e=>exact hi.ent g e qZ
    |none=>
     rw[qZ] at hkn;cases hb:l8 base g with
     |none=>rw[hb] at hkn;cases hkn
     |some v=>rw[hi.bas g v qZ hb];rfl
   have T8:=Kl (a:=a) hgd MZ
   have skip:r7 P aN base C es i o=([],af,[])\/jS base es (r7 P aN base C es i o).1=false->¬a.eval (.tmp g)=.bool b->Wp (i::rest) a w:=fun hs hne=>
    L.no i rest o a w ho (fun h=>hne (T8.1 h)) (hk _ _ hS (PJ hi h3 fun d _=>by
     rcases hs with hs|hs
     .rw[hs];rfl
     rw[hs];rfl))
   cases qZ:l8 C.lits g with
   |some b'=>
    rw[qZ] at hlt;rw[ou.1 hlt] at hval
    by_cases tN:b'=b
    .subst tN;have wQ:RJ aN C es o=some (R7 es g):=by unfold RJ;rw[hgd];simp only[MZ,qZ];simp
     cases hcc:jS base es (R7 es g) with
     |true=>rw[hcc] at hval;exact go _ wQ hcc (T8.2 hval)
     |false=>rw[hcc] at hval;exact skip (.inr (by unfold r7;rw[wQ];exact hcc)) (by rw[hval];simp[M4,af])
    .have wQ:RJ aN C es o=none:=by
      unfold RJ;rw[hgd];simp only[MZ,qZ];have:(b'==b)=false:=beq_false_of_ne tN;rw[this];rfl
     refine skip (.inl (by unfold r7;rw[wQ])) ?_;rw[hval];cases jS base es (R7 es g) with
     |true=>simp[M4];exact tN
     |false=>simp[M4,af]
   |none=>
    have wQ:RJ aN C es o=some ((g,b)::R7 es g):=by unfold RJ;rw[hgd];simp only[MZ,qZ]
    have hca:jS base es ((g,b)::R7 es g)=(NT (rh base es (.tmp g)) b&&jS base es (R7 es g)):=by unfold jS;rw[List.all_cons]
    cases hcc:jS base es (R7 es g) with
    |false=>rw[hcc] at hval;exact skip (.inr (by unfold r7;rw[wQ];show jS base es ((g,b)::R7 es g)=false;rw[hca,hcc,Bool.and_false])) (by rw[hval];simp[M4,af])
    |true=>
     rw[hcc] at hval;have hval:a.eval (.tmp g)=rh base es (.tmp g):=hval;cases hib:NT (rh base es (.tmp g)) b with
     |true=>exact go _ wQ (by rw[hca,hcc,hib];rfl) (T8.2 (hval.trans (ou.1 hib)))
     |false=>
      refine skip (.inr (by unfold r7;rw[wQ];show jS base es ((g,b)::R7 es g)=false;rw[hca,hib];rfl)) fun h=>?_;have h9:=ou.2 (hval.symm.trans h);rw[hib] at h9;cases h9
theorem Pe{Wp:List Nat->Act->ar->Prop}{Y:mE}{G:Nat->Sem Next->ar->ak->Prop}{T:ar->ar->Prop}(L:wO aN Wp Y)(VT:∀w w',S w->T w w'->S w')(RB:∀w,T w w)
  (hn:∀i,l8 C.hs i=none->∀s w v,s.run P w=.ok (.value v) w->G i s w v)
  (hY:∀i o ev w v R,S w->(∀w',S w'->G i (cG ev o) w' v)->(∀w',T w w'->R v w')->Y o ev w R) (hm:nL S C.mem) {rest:List Nat} :
  ∀(l:List cR) (i:Nat) (es:Es) (a:Act) (w:ar),(∀j o,l[j]?=some o->aN[i+j]?=some o)->XV P aN base C n i l es=true->Xd P aN base C i l es=Xc P aN base C i l es->
  (∀j v,l8 C.hs (i+j)=some v->j<l.length->∀w,S w->jS base (F6 P aN base C i (l.take j) es) (r7 P aN base C (F6 P aN base C i (l.take j) es) (i+j) (opAt aN (i+j))).1=true->G (i+j) (cG (rh base (F6 P aN base C i (l.take j) es)) (opAt aN (i+j))) w v)->
  MN base n a0 es a->S w->(∀a w,S w->MN base n a0 (F6 P aN base C i l es) a->Wp rest a w)->Wp (bR i l.length++rest) a w
 |[],i,es,a,w,_,_,_,_,hi,hS,hk=>hk a w hS hi
 |o::l,i,es,a,w,hat,hck,Ru,hh,hi,hS,hk=>by
  have ho:aN[i]?=some o:=hat 0 o rfl;have hoa:opAt aN i=o:=by unfold opAt;simp[List.getD,ho]
  unfold XV at hck;rw[aI,aI,aI] at hck;unfold Xd Xc at Ru;rw[Ax] at Ru;show Wp (i::(bR (i+1) l.length++rest)) a w;refine Zo L VT RB ho (hn i) (hY i o) hm hi hS hck.1.1.1 (fun ch hg=>by have:=hck.1.1.2;rw[hg] at this;exact this) hck.1.2 (fun b hb=>?_) (fun v hv w' M3 hc=>?_) fun a' w' M3 hi'=>?_
  .rw[Ru.1] at hb;obtain⟨_,_,rfl⟩:=dN.1 hb;rfl
  .have:=hh 0 v hv (by simp) w' M3;rw[Nat.add_zero,hoa] at this;exact this hc
  refine Pe L VT RB hn hY hm l (i+1) _ a' w' (fun j o' hj=>?_) hck.2 Ru.2 (fun j v hv hj w2 RD hc=>?_) hi' M3 hk
  .have:=hat (j+1) o' (by simpa using hj);rwa [show i+1+j=i+(j+1) by omega]
  have:=hh (j+1) v (by rwa [show i+(j+1)=i+1+j by omega]) (by simpa using hj) w2 RD;rw[show i+(j+1)=i+1+j by omega] at this;exact this hc
theorem IX{Wp:List Nat->Act->ar->Prop}{Y:mE}{G:Nat->Sem Next->ar->ak->Prop}{T:ar->ar->Prop}(L:wO aN Wp Y)(VT:∀w w',S w->T w w'->S w')(RB:∀w,T w w)
  (hn:∀i,l8 C.hs i=none->∀s w v,s.run P w=.ok (.value v) w->G i s w v)
  (hY:∀i o ev w v R,S w->(∀w',S w'->G i (cG ev o) w' v)->(∀w',T w w'->R v w')->Y o ev w R)
  {dM:List (kG × ak)} {i k m:Nat} {outs:List (kG × ak)} {W:ar} (hF:ij n a0 base) (hF2:ij n a0 dM) (hr:zb P aN base C n dM i k outs=za P aN base C i k outs) (hS:S W) (hm:nL S C.mem) (hh:SJ P aN base C G S i C.hs)
  (hy:vd (fun l=>∀a w,S w->ij n a l->Wp (bR (i+k) m) a w) outs dM):Wp (bR i (k+m)) a0 W:=by
 unfold zb za at hr;rw[iO,iO,aI,aI] at hr;obtain⟨⟨⟨hsz,hb2⟩,hck⟩,Ru,hout⟩:=hr;have hsz:=Nat.le_of_ble_eq_true hsz;have hlen:(zT aN i k).length=k:=by unfold zT;simp;omega
 have hcut:∀j o,(zT aN i k)[j]?=some o->aN[i+j]?=some o:=fun j o h=>by
  unfold zT at h;rw[List.getElem?_take] at h;split at h
  .rw[List.getElem?_drop] at h;simpa using h
  cases h
 have key:=Pe (rest:=bR (i+k) m) (a0:=a0) L VT RB hn hY hm (zT aN i k) i [] a0 W hcut hck Ru (fun j v hv hj w hSw=>?_) ⟨hF.size,hF.defers,(fun t e h=>by cases h),(fun t v _ h=>EE hF.base h),fun _ _=>rfl⟩ hS fun a w hSw hi=>?_
 .rw[hlen] at key;rwa [List.range'_append_1] at key
 .have:=hh.get (zB hv) w hSw
  have e:Ma P aN base C i (i+j)=F6 P aN base C i ((zT aN i k).take j) []:=by
   unfold Ma zT;rw[List.take_take,show i+j-i=j by omega,Nat.min_eq_left (by rw[hlen] at hj;omega)]
  simp only[e] at this;exact this
 .refine hy.get a w hSw (ij.rev ?_)
  have Uj:ij n a dM:=by
   refine⟨hi.size,hi.defers,hF2.base.congr fun p hp=>hi.keep _ ?_⟩;have:=a7.1 hb2 p hp;simpa using this
  refine⟨Uj.size,Uj.defers,?_⟩;clear hy
  induction outs with
  |nil=>exact Uj.base
  |cons p l ih=>
   rw[List.map_cons,List.map_cons,Ax] at hout;refine⟨?_,ih hout.2⟩;have h1:=hout.1;unfold acL at h1;cases he:l8 (F6 P aN base C i (zT aN i k) []) p.1 with
   |none=>rw[he] at h1;cases h1
   |some e=>
    rw[he] at h1;simp only[] at h1;cases hc:e.1 with
    |cons _ _=>rw[hc] at h1;cases h1
    |nil=>
     rw[hc] at h1;have:=hi.ent p.1 e he;rw[hc] at this;rw[this,<-bj h1];rfl
variable{Q:Exit->Act->ar->Prop}
theorem Lc:wO aN (wpOps P aN Q) (Yields P):=
 ⟨fun i rest o a w R ho hw hy hk=>by
  rw[wpOps_cons];exact wpOp_step ho fun K' hK=>by rw[if_pos hw];exact hy.wp fun v w' hv=>hK _ _ (hk v w' hv),
 fun i rest o a w ho hw hk=>by
  rw[wpOps_cons]
  exact wpOp_step ho fun K' hK=>by rw[if_neg hw];exact hK _ _ hk⟩
theorem ig(i k m:Nat)(C:Cf)(outs:List (kG × ak)){dM:List (kG × ak)}{W:ar}(hF:ij n a0 base)(hF2:ij n a0 dM)(hm:nL (fun w=>az W.heap.size W w) C.mem)(hh:SJ P aN base C (fun _=>l7 P) (fun w=>az W.heap.size W w) i C.hs)(hy:vd (fun l=>∀a w,az W.heap.size W w->ij n a l->wpOps P aN Q (bR (i+k) m) a w) outs dM)(hr:zb P aN base C n dM i k outs=za P aN base C i k outs:=by kernel_rfl):wpOps P aN Q (bR i (k+m)) a0 W:=
 IX (T:=fun w w'=>az w.heap.size w w') Lc (fun _ _ h hb=>h.trans (hb.mono h.size)) (fun w=>au _ _) (fun i _ s w v h=>gr h) (fun i o ev w v R hS hg hR=>(hg w hS).yields hR) hF hF2 hr (au _ _) hm hh hy
section
variable{id:Nat}{y:Code}{W:ar}{dM:List (kG × ak)}
theorem qM{N:Nat}(hN:aN.size=N)(h:wpOps P aN (Exit.then (fun a w=>y.wp P Q a w) Q) (bR 0 N) a0 W):(Code.seq (.region id aN false) y).wp P Q a0 W:=
 eC (wp_region (by rw[mQ,hN];exact h))
theorem U7{N:Nat}(hN:aN.size=N)(h:wpOps P aN Q (bR 0 N) a0 W):(Code.region id aN false).wp P Q a0 W:=
 wp_region (by rw[mQ,hN];exact h)
theorem rG{i:Nat}(h:y.wp P Q a0 W):wpOps P aN (Exit.then (fun a w=>y.wp P Q a w) Q) (bR i 0) a0 W:=h
theorem Y3{i:Nat}(h:Q .normal a0 W):wpOps P aN Q (bR i 0) a0 W:=h
theorem jz(C:Cf)(outs:List (kG × ak))(hF:ij n a0 base)(hF2:ij n a0 dM)(hm:nL (fun w=>az W.heap.size W w) C.mem)(hh:SJ P aN base C (fun _=>l7 P) (fun w=>az W.heap.size W w) 0 C.hs)(hy:vd (fun l=>∀a w,az W.heap.size W w->ij n a l->y.wp P Q a w) outs dM)(hr:zb P aN base C n dM 0 aN.size outs=za P aN base C 0 aN.size outs:=by kernel_rfl):(Code.seq (.region id aN false) y).wp P Q a0 W:=
 qM rfl (ig (hr:=hr) 0 aN.size 0 C outs hF hF2 hm hh (by
  rw[Nat.zero_add]
  exact hy))
theorem Mj(C:Cf)(outs:List (kG × ak))(hF:ij n a0 base)(hF2:ij n a0 dM)(hm:nL (fun w=>az W.heap.size W w) C.mem)(hh:SJ P aN base C (fun _=>l7 P) (fun w=>az W.heap.size W w) 0 C.hs)(hy:vd (fun l=>∀a w,az W.heap.size W w->ij n a l->Q .normal a w) outs dM)(hr:zb P aN base C n dM 0 aN.size outs=za P aN base C 0 aN.size outs:=by kernel_rfl):(Code.region id aN false).wp P Q a0 W:=
 U7 rfl (ig (hr:=hr) 0 aN.size 0 C outs hF hF2 hm hh (by
  rw[Nat.zero_add]
  exact hy))
theorem vd.mono{K K':List (kG × ak)->Prop}(h:∀l,K l->K' l):∀ {r l:List (kG × ak)},vd K r l->vd K' r l
 |[],l,hk=>h l hk
 |p::r,l,hk=>vd.mono h (r:=r) hk
end
def CS(P:aL)(aN:Array cR)(base:List (kG × ak))(C:Cf)(n:Nat)(dM:List (kG × ak))(i:Nat)(d:Option kG):Bool:=
 Nat.blt i aN.size&&UI aN base C [] (opAt aN i)&&(match RJ aN C [] (opAt aN i) with|some []=>true|_=>false)&&(match uC (opAt aN i).op with|some l=>l.all (SB base [] [])|none=>false) &&
  (match (opAt aN i).dst,d with|some x,some y=>Nat.beq x y&&Nat.blt y n&&dM.all fun p=>!Nat.beq p.1 y|none,none=>true|_,_=>false)
def iD:Option kG->ak->List (kG × ak)->List (kG × ak)
 |some d,v,l=>(d,v)::l
 |none,_,l=>l
theorem Iu{Wp:List Nat->Act->ar->Prop}{Y:mE}(L:wO aN Wp Y){dM:List (kG × ak)}{i m:Nat}{d:Option kG}{W:ar}{R:ak->ar->Prop}(hF:ij n a0 base)(hF2:ij n a0 dM)(hc:CS P aN base C n dM i d=true)
  (hY:∀ev,cG ev (opAt aN i)=cG (rh base []) (opAt aN i)->Y (opAt aN i) ev W R) (hk:∀v w,R v w->∀a,ij n a (iD d v dM)->Wp (bR (i+1) m) a w):Wp (bR i (m+1)) a0 W:=by
 unfold CS at hc;simp only[aI] at hc;obtain⟨⟨⟨⟨h1,h2⟩,h3⟩,h4⟩,h5⟩:=hc;have hi:i<aN.size:=by unfold Nat.blt at h1;exact Nat.le_of_ble_eq_true h1
 have ho:aN[i]?=some (opAt aN i):=by unfold opAt;simp[List.getD,hi]
 generalize opAt aN i=o at *;have hinv:MN base n a0 [] a0:=⟨hF.size,hF.defers,(fun t e h=>by cases h),(fun t v _ h=>EE hF.base h),fun _ _=>rfl⟩
 have hex:cG a0.eval o=cG (rh base []) o:=by
  cases hl:uC o.op with
  |none=>rw[hl] at h4;cases h4
  |some l=>
   rw[hl] at h4;exact execOp_congr hl fun x hx=>Yt hinv (ch:=[]) rfl (a7.1 h4 x hx)
 have hw:cS o (jY aN a0.tmps)=true:=by
  unfold cS;cases hgd:o.guard with
  |none=>rfl
  |some jb=>
   obtain⟨j,b⟩:=jb;unfold UI at h2;unfold RJ at h3;rw[hgd] at h2 h3;simp only[] at h2 h3;cases MZ:eb aN j with
   |none=>rw[MZ] at h2;cases h2
   |some g=>
    rw[MZ] at h2 h3;simp only[aI] at h2 h3
    have hval:a0.eval (.tmp g)=rh base [] (.tmp g):=by
     rw[Dy];show _=(l8 base g).getD af;cases hb:l8 base g with
     |none=>have:=h2.1;rw[hb] at this;cases this
     |some v=>rw[hinv.bas g v rfl hb];rfl
    cases qZ:l8 C.lits g with
    |none=>rw[qZ] at h3;cases h3
    |some b'=>
     rw[qZ] at h2 h3
     by_cases tN:b'=b
     .subst tN;rw[ou.1 h2.2] at hval;have h9:=(Kl (a:=a0) hgd MZ).2 hval;unfold cS at h9;rw[hgd] at h9;exact h9
     have:(b'==b)=false:=beq_false_of_ne tN;simp only[this] at h3;cases h3
 rw[List.range'_succ];refine L.go i _ o a0 W R ho hw (hY _ hex) fun v w hv=>hk v w hv _ ?_;cases hdd:o.dst with
 |none=>
  rw[hdd] at h5;cases d with
  |some _=>cases h5
  |none=>exact hF2
 |some x=>
  rw[hdd] at h5;cases d with
  |none=>cases h5
  |some y=>
   simp only[aI] at h5;have ZV:=il h5.1.1;subst ZV;have hlt:x<n:=by have:=h5.1.2;unfold Nat.blt at this;exact Nat.le_of_ble_eq_true this
   exact(hF2.put x v h5.2).cons (put_eq a0 x v (by rw[hF.size];exact hlt))
section
variable{dM:List (kG × ak)}{i m:Nat}{W:ar}
theorem Yields.ex{o:cR}{ev E3:bL->ak}{w:ar}{R:ak->ar->Prop}(he:cG ev o=cG E3 o)(h:Yields P o E3 w R):Yields P o ev w R:=by
 unfold Yields at *;rw[he];exact h
theorem Zz(C:Cf)(d:Option kG){R:ak->ar->Prop}(hF:ij n a0 base)(hF2:ij n a0 dM)(hc:CS P aN base C n dM i d=true)(hY:Yields P (opAt aN i) (rh base []) W R)
  (hk:∀v w,R v w->∀a,ij n a (iD d v dM)->wpOps P aN Q (bR (i+1) m) a w):wpOps P aN Q (bR i (m+1)) a0 W:=
 Iu Lc hF hF2 hc (fun ev he=>hY.ex he) hk
def TJ(P:aL)(r:Nat):Sem Next->Option (Array ak × aZ × Nat × Nat × Option (Next × List Nat))
 |.new o k=>match o with
  |.cells cs t fr=>some (cs,t,fr.1,fr.2,look P #[] (k r))
  |_=>none
 |.program k=>TJ P r (k P)
 |_=>none
theorem PD{P:aL}{s:Sem Next}{cs:Array ak}{t:aZ}{v:ak}{w:ar}(h:TJ P w.heap.size s=some (cs,t,0,0,some (.value v,[]))):s.run P w=.ok (.value v) (w.alloc (.cells cs t)):=by
 induction s with
 |new o k _=>
  unfold TJ at h;cases o with
  |cells cs' t' fr=>
   obtain⟨f1,f2⟩:=fr;simp only[gQ,iO] at h;obtain⟨rfl,rfl,rfl,rfl,h5⟩:=h
   conv=>lhs;unfold Sem.run
   exact nj h5 (by simp)
  |_=>cases h
 |program k ih=>exact ih P h
 |_=>cases h
theorem sU(C:Cf)(d:Option kG)(vf:Nat->ak)(cs:Array ak)(t:aZ)(hF:ij n a0 base)(hF2:ij n a0 dM)(hk:∀B w a,W.heap.size<=B->az W.heap.size W w->w.heap[B]?=some (.cells cs t (0,0))->ij n a (iD d (vf B) dM)->wpOps P aN Q (bR (i+1) m) a w)(hc:CS P aN base C n dM i d=true:=by kernel_rfl)(he:∀r,TJ P r (cG (rh base []) (opAt aN i))=some (cs,t,0,0,some (.value (vf r),[])):=by intro r;kernel_rfl):wpOps P aN Q (bR i (m+1)) a0 W:=
 Zz C d (R:=fun v w=>∃B,v=vf B/\W.heap.size<=B/\az W.heap.size W w/\w.heap[B]?=some (.cells cs t (0,0))) hF hF2 hc (.value (PD (he _)) ⟨_,rfl,ax _,(au _ _).alloc (ax _) _,ay _ _⟩)
  fun v w ⟨B,e,h1,h2,h3⟩ a hl=>hk B w a h1 h2 h3 (e▸hl)
def stores(P:aL):Sem Next->Option (List (Nat × Nat × ak))
 |.pure .skip=>some []
 |.program k=>stores P (k P)
 |.store _ a v k=>match a.spot,v with
  |some _,_=>none
  |_,.agg _=>none
  |_,.tuple _=>none
  |none,v=>match stores P k with
   |some l=>some ((a.block,a.off,v)::l)
   |none=>none
 |_=>none
def AK(cs:Array ak):List (Nat × Nat × ak)->Array ak
 |[]=>cs
 |p::l=>AK (cs.setIfInBounds p.2.1 p.2.2) l
structure Yn(B:Nat)(w w':ar):Prop where
 os:w'.os=w.os
 tape:w'.tape=w.tape
 output:w'.output=w.output
 size:w'.heap.size=w.heap.size
 block:∀k,k≠B->w'.heap[k]?=w.heap[k]?
theorem Yn.below{B m:Nat}{V w w':ar}(h:Yn B w w')(ho:az m V w)(hB:m<=B):az m V w':=⟨h.os.trans ho.os,h.tape.trans ho.tape,h.output.trans ho.output,by rw[h.size];exact ho.size,fun k hk=>(h.block k (by omega)).trans (ho.block k hk)⟩
theorem Nb{P:aL}{B:Nat}{t:aZ}{s:Sem Next}:∀ {l:List (Nat × Nat × ak)} {cs:Array ak} {w:ar},stores P s=some l->(∀p∈l,p.1=B/\p.2.1<cs.size)->w.heap[B]?=some (.cells cs t (0,0))->
  ∃w',s.run P w=.ok .skip w'/\w'.heap[B]?=some (.cells (AK cs l) t (0,0))/\Yn B w w':=by
 induction s with
 |pure x=>intro l cs w h _ hB;cases x<;>cases h;exact⟨w,rfl,hB,rfl,rfl,rfl,rfl,fun _ _=>rfl⟩
 |program k ih=>intro l cs w h hl hB;exact ih P h hl hB
 |store m a v k ih=>
  intro l cs w h hl hB;unfold stores at h
  have main:∀v:ak,(∀x,v≠.agg x)->(∀x,v≠.tuple x)->a.spot=none->(match stores P k with|some l=>some ((a.block,a.off,v)::l)|none=>none)=some l->∃w',(Sem.store m a v k).run P w=.ok .skip w'/\w'.heap[B]?=some (.cells (AK cs l) t (0,0))/\Yn B w w':=fun v n1 n2 hs h=>by
   cases hk:stores P k with
   |none=>rw[hk] at h;cases h
   |some l'=>
    rw[hk] at h;cases h;obtain⟨h1,h2⟩:=hl _ (List.mem_cons_self ..);simp only[] at h1 h2;obtain⟨b,off,sp⟩:=a;simp only[] at h1 h2 hs;subst h1 hs;have hc:w.cell? ⟨b,off,none⟩=some cs[off]:=aJ hB off _ (Array.getElem?_eq_getElem h2);obtain⟨w',g1,g2,g3⟩:=ih (cs:=cs.setIfInBounds off v) (w:=w.setCell ⟨b,off,none⟩ v) hk (fun p hp=>by simpa using hl p (List.mem_cons_of_mem _ hp)) (dh v hB);refine⟨w',?_,g2,g3.os,g3.tape,g3.output,by rw[g3.size];simp,fun k hk=>(g3.block k hk).trans (bt w ⟨b,off,none⟩ v k hk)⟩;rw[<-g1];have hf:w.frozen? ⟨b,off,none⟩=false:=dg hB off;cases v<;>first|exact absurd rfl (n1 _)|exact absurd rfl (n2 _)|(conv=>lhs;unfold Sem.run;simp only[hc,hf,Bool.false_eq_true,if_false])
  cases hs:a.spot with
  |some _=>rw[hs] at h;cases h
  |none=>
   rw[hs] at h;cases v<;>first|(cases h;done)|exact main _ (by simp) (by simp) hs h
 |_=>intro l cs w h;cases h
theorem Yr(C:Cf){B:Nat}(cs cs':Array ak){t:aZ}(hB:W.heap[B]?=some (.cells cs t (0,0)))(l:List Nat)
  (he:(CS P aN base C n dM i none,(stores P (cG (rh base []) (opAt aN i))).map fun q=>(q.map (·.1),(q.all fun p=>Nat.blt p.2.1 cs.size),AK cs q))=(true,some (l.map fun _=>B,true,cs'))) :
  CS P aN base C n dM i none=true/\∀w,w.heap[B]?=some (.cells cs t (0,0))->∃w',(cG (rh base []) (opAt aN i)).run P w=.ok .skip w'/\w'.heap[B]?=some (.cells cs' t (0,0))/\Yn B w w':=by
 rw[iO] at he;refine⟨he.1,fun w hw=>?_⟩;cases hs:stores P (cG (rh base []) (opAt aN i)) with
 |none=>rw[hs] at he;cases he.2
 |some q=>
  rw[hs] at he;have h2:=he.2;simp only[Option.map_some,gQ,iO] at h2;obtain⟨h3,h4,h5⟩:=h2;subst h5;refine Nb hs (fun p hp=>⟨?_,?_⟩) hw
  .have:p.1∈q.map (·.1):=dN.2 ⟨p,hp,rfl⟩;rw[h3] at this;obtain⟨_,_,e⟩:=dN.1 this;exact e.symm
  have:=a7.1 h4 p hp;unfold Nat.blt at this;exact Nat.le_of_ble_eq_true this
theorem sS(C:Cf){B:Nat}(cs cs':Array ak){t:aZ}(l:List Nat)(hF:ij n a0 base)(hF2:ij n a0 dM)(hB:W.heap[B]?=some (.cells cs t (0,0)))(hk:∀w a,Yn B W w->w.heap[B]?=some (.cells cs' t (0,0))->ij n a dM->wpOps P aN Q (bR (i+1) m) a w)(he:(CS P aN base C n dM i none,(stores P (cG (rh base []) (opAt aN i))).map fun q=>(q.map (·.1),(q.all fun p=>Nat.blt p.2.1 cs.size),AK cs q))=(true,some (l.map fun _=>B,true,cs')):=by kernel_rfl):wpOps P aN Q (bR i (m+1)) a0 W:=by
 obtain⟨h1,h2⟩:=Yr C cs cs' hB l he;obtain⟨w',g1,g2,g3⟩:=h2 W hB;exact Zz C none (R:=fun v w=>Yn B W w/\w.heap[B]?=some (.cells cs' t (0,0))) hF hF2 h1 (.skip g1 ⟨g3,g2⟩) fun v w h a hl=>hk w a h.1 h.2 hl
end
end
end Go.Lag
namespace Go.Proofs.YtffladgmkiimjaaGreatDoor
open Go.RowKit Go.Lag
theorem Oj(b:BB)(p1 p2 p3:Option dc)(n1 c1 n2 c2 n3 c3:Nat)(hbig:20<n1\/20<n2\/20<n3)(w:ar):bu aq 18 #[aR (b.cells (ae p1 n1 c1) (ae p2 n2 c2) (ae p3 n3 c3))] w fun e w'=>e=aF (aH true)/\az w.heap.size w w':=by
 refine qK Tryz.func18 rfl rfl [(0,aR (b.cells (ae p1 n1 c1) (ae p2 n2 c2) (ae p3 n3 c3)))] ⟨kF rfl,trivial⟩ fun a W hF hw=>?_;refine qM (N:=2) rfl ?_;refine sU ⟨[],[],[],[]⟩ (some 1) (fun B=>pv B 0) (b.cells (ae p1 n1 c1) (ae p2 n2 c2) (ae p3 n3 c3)) 28 hF hF ?_;intro B1 W a G1 ho K1 hF;have aiq:=aO hw.size G1;replace hw:=hw.tr ho;clear ho;rename ar=>W1;have h1:=au W1.heap.size W1;refine ig 1 1 0 ⟨[],[],[],[]⟩ [(2,aH false)] hF hF trivial trivial ?_;intro a W ho hF;replace h1:=h1.tr ho;clear ho;refine rG ?_;refine eC ?_;refine jz ⟨[],[],[(B1,(b.cells (ae p1 n1 c1) (ae p2 n2 c2) (ae p3 n3 c3)))],[]⟩ [(19,aH (((decide ((n1:Int)>20))||(decide ((n2:Int)>20)))||(decide ((n3:Int)>20))))] hF hF ⟨fun w1 hS=>⟨_,_,aG K1 (h1.tr hS)⟩,trivial⟩ trivial ?_;intro a W ho hF;replace h1:=h1.tr ho;clear ho;refine bO (t:=(((decide ((n1:Int)>20))||(decide ((n2:Int)>20)))||(decide ((n3:Int)>20)))) (hF.g 0 rfl) (fun Ob=>?_) (fun Ob=>?_)
 .skip
  replace hF:=hF.tl;replace hF:=hF.tl;refine jz ⟨[],[],[],[]⟩ [(2,aH true)] hF hF trivial trivial ?_;intro a W ho hF;replace h1:=h1.tr ho;clear ho;refine fW ?_;show dE aq Tryz.f18 (fun e w'=>e=aF (aH true)/\az w.heap.size w w') dP a W;exact bm (cH rfl _ _ _) hF.defers ⟨congrArg aP (hF.g 0 rfl),(hw.tr h1)⟩
 skip
 replace hF:=hF.tl;exfalso;simp at Ob;omega
theorem UO(b:BB)(p1 p2 p3:Option dc)(n1 c1 n2 c2 n3 c3:Nat)(hbig:20<n1\/20<n2\/20<n3)(w:ar):bu aq 29 #[aR (b.cells (ae p1 n1 c1) (ae p2 n2 c2) (ae p3 n3 c3))] w fun e w'=>e=aF (aH false)/\az w.heap.size w w':=by
 refine qK Tryz.func29 rfl rfl [(0,aR (b.cells (ae p1 n1 c1) (ae p2 n2 c2) (ae p3 n3 c3)))] ⟨kF rfl,trivial⟩ fun a W hF hw=>?_;refine qM (N:=2) rfl ?_;refine sU ⟨[],[],[],[]⟩ (some 1) (fun B=>pv B 0) (b.cells (ae p1 n1 c1) (ae p2 n2 c2) (ae p3 n3 c3)) 28 hF hF ?_;intro B1 W a G1 ho K1 hF;have aiq:=aO hw.size G1;replace hw:=hw.tr ho;clear ho;rename ar=>W1;have h1:=au W1.heap.size W1;refine ig 1 1 0 ⟨[],[],[],[]⟩ [(2,aH false)] hF hF trivial trivial ?_;intro a W ho hF;replace h1:=h1.tr ho;clear ho;refine rG ?_;replace hF:=hF.tl;refine jz ⟨[(6,false)],[(1,aH true)],[(B1,(b.cells (ae p1 n1 c1) (ae p2 n2 c2) (ae p3 n3 c3)))],[]⟩ [(2,aH false)] hF hF ⟨fun w1 hS=>⟨_,_,aG K1 (h1.tr hS)⟩,trivial⟩ ⟨fun w1 hS _=>gc (Oj b p1 p2 p3 n1 c1 n2 c2 n3 c3 hbig w1),trivial⟩ ?_;intro a W ho hF;replace h1:=h1.tr ho;clear ho;refine fW ?_;show dE aq Tryz.f29 (fun e w'=>e=aF (aH false)/\az w.heap.size w w') dP a W;exact bm (cH rfl _ _ _) hF.defers ⟨congrArg aP (hF.g 0 rfl),(hw.tr h1)⟩
structure rS(W:ar)(p:Option dc)(n c:Nat)(pk:Nat->Nat):Prop where
 lt:∀k,pk k<65536
 out:∀k,n<=k->pk k=0
 at_:∀k,k<n->∃g off,p=some ⟨g,off,none⟩/\g<W.heap.size/\W.cell? ⟨g,off+k,none⟩=some (ah .u16 (pk k:Int))
theorem rS.below{W W':ar}{p:Option dc}{n c:Nat}{pk:Nat->Nat}(h:rS W p n c pk)(hb:az W.heap.size W W'):rS W' p n c pk:=
 ⟨h.lt,h.out,fun k hk=>by obtain⟨g,off,h1,h2,h3⟩:=h.at_ k hk;exact⟨g,off,h1,bA h2 hb.size,(hb.cell (p:=⟨g,off+k,none⟩) h2).trans h3⟩⟩
theorem Wy(p:Option dc)(n c k:Nat)(pk:Nat->Nat)(w:ar)(hp:rS w p n c pk):bu aq 111 #[ae p n c,ah ag (k:Int)] w fun e w'=>e=aF (ah ag (pk k:Int))/\az w.heap.size w w':=by
 refine qK Tryz.func111 rfl rfl [(1,ah ag (k:Int)),(0,ae p n c)] ⟨kF rfl,kF rfl,trivial⟩ fun a W hF hw=>?_;refine jz ⟨[],[],[],[]⟩ [(4,ah ag 0)] hF hF trivial trivial ?_;intro a W ho hF;replace hw:=hw.tr ho;clear ho;refine eC ?_;refine jz ⟨[],[],[],[]⟩ [(8,aH (decide ((k:Int)<(n:Int))))] hF hF trivial trivial ?_;intro a W ho hF;replace hw:=hw.tr ho;clear ho;refine bO (t:=(decide ((k:Int)<(n:Int)))) (hF.g 0 rfl) (fun hc8=>?_) (fun hc8=>?_)
 .skip
  replace hF:=hF.tl;have hlt:k<n:=by simpa using hc8
  have hpb:=hp.lt k
  obtain⟨g,off,rfl,hcell⟩:∃g off,p=some ⟨g,off,none⟩/\∀w9,az w.heap.size w w9->w9.cell? ⟨g,off+k,none⟩=some (ah .u16 (pk k:Int)):=by
   obtain⟨g,off,h1,h2,h3⟩:=hp.at_ k hlt;exact⟨g,off,h1,fun w9 h9=>(h9.cell (p:=⟨g,off+k,none⟩) h2).trans h3⟩
  replace hF:=hF.tl;refine jz ⟨[],[(2,.pointer (some ⟨g,off+k,none⟩)),(3,ah .u16 (pk k:Int)),(4,ah ag (pk k:Int))],[],[]⟩ [(4,ah ag (pk k:Int))] hF hF trivial ⟨fun w1 hS _=>gs (eE 39 (ae (some ⟨g,off,none⟩) n c) (ah ag (k:Int))) (by have Au:¬(n<=k):=(by omega);go_simp),fun w1 hS _=>gl (hcell w1 (hw.tr hS)),fun w1 hS _=>ge (congrArg (aB ag) (show IntKind.i64.wrap (pk k:Int)=(pk k:Int) from by rw[a8];omega)),trivial⟩ ?_;intro a W ho hF;replace hw:=hw.tr ho;clear ho;refine fW ?_;show dE aq Tryz.f111 (fun e w'=>e=aF (ah ag (pk k:Int))/\az w.heap.size w w') dP a W;exact bm (cH rfl _ _ _) hF.defers ⟨congrArg aP ((show a.eval (aM 4)=_ from(hF.g 0 rfl)).trans (rfl)),hw⟩
 skip
 replace hF:=hF.tl;have FO:=hp.out k (by simp at hc8;omega);refine eI ?_;show bZ aq _ _ _ _;replace hF:=hF.tl;refine jz ⟨[],[],[],[]⟩ [(4,ah ag 0)] hF hF trivial trivial ?_;intro a W ho hF;replace hw:=hw.tr ho;clear ho;refine fW ?_;show dE aq Tryz.f111 (fun e w'=>e=aF (ah ag (pk k:Int))/\az w.heap.size w w') dP a W;exact bm (cH rfl _ _ _) hF.defers ⟨congrArg aP ((show a.eval (aM 4)=_ from(hF.g 0 rfl)).trans (by rw[FO];rfl)),hw⟩
theorem Uy(p:Option dc)(c:Nat)(xs:List Int)(hl:xs.length<=20)(v:Int)(w:ar)(hx:Reads w (ae p xs.length c) xs.length (xs.map (aB ag))):bu aq 34 #[ae p xs.length c,ah ag v] w fun e w'=>e=aF (aH (decide (v∈xs)))/\az w.heap.size w w':=by
 refine qK Tryz.func34 rfl rfl [(1,ah ag v),(0,ae p xs.length c)] ⟨kF rfl,kF rfl,trivial⟩ fun a W hF hw=>?_;refine jz ⟨[],[],[],[]⟩ [(4,aH false)] hF hF trivial trivial ?_;intro a W ho hF;replace hw:=hw.tr ho;clear ho;refine eC ?_;refine jz ⟨[],[],[],[]⟩ [(5,ah ag 0)] hF hF trivial trivial ?_;intro a W ho hF;replace hw:=hw.tr ho;clear ho;refine wp_block ?_;rename ar=>WQ;have hQ:=au WQ.heap.size WQ;refine wp_loop (fun a W=>∃k:Nat,(k<=xs.length/\v ∉ xs.take k)/\ij 18 a [(5,ah ag (k:Int)),(4,aH false),(1,ah ag v),(0,ae p xs.length c)]/\az WQ.heap.size WQ W) (fun a _=>xs.length-(intOf (a.eval (aM 5))).toNat) ⟨0,⟨Nat.zero_le _,by simp⟩,⟨hF.size,hF.defers,hF.base⟩,hQ⟩ ?_;clear hF hQ;rintro a W ⟨k,⟨hkL,hno⟩,hF,hQ⟩;have sA:a.eval (aM 5)=ah ag (k:Int):=(hF.g 0 rfl)
 refine eC ?_;refine jz ⟨[],[],[],[]⟩ [(9,aH (decide ((k:Int)<(xs.length:Int))))] hF hF trivial trivial ?_;intro a W ho hF;replace hQ:=hQ.tr ho;clear ho;refine bO (t:=(decide ((k:Int)<(xs.length:Int)))) (hF.g 0 rfl) (fun Rw=>?_) (fun Rw=>?_)
 .skip
  replace hF:=hF.tl;have hlt:k<xs.length:=by simpa using Rw
  obtain⟨x,NV⟩:∃x,xs[k]=x:=⟨_,rfl⟩
  obtain⟨g,off,rfl,hcell⟩:∃g off,p=some ⟨g,off,none⟩/\∀w9,az w.heap.size w w9->w9.cell? ⟨g,off+k,none⟩=some (ah ag x):=by
   rcases hx with⟨_,h0,_⟩|⟨g,off,cap,h0,_,hg,h4⟩
   .omega
   cases h0;exact⟨g,off,rfl,fun w9 h9=>(h9.cell (p:=⟨g,off+k,none⟩) hg).trans (h4 k _ (by rw[List.getElem?_map,List.getElem?_eq_getElem hlt,NV];rfl))⟩
  refine eI ?_;show bZ aq _ _ _ _;refine eC ?_;refine wp_block ?_;refine jz ⟨[],[(2,.pointer (some ⟨g,off+k,none⟩)),(3,ah ag x)],[],[]⟩ [(17,aH (x==v))] hF hF trivial ⟨fun w1 hS _=>gs (eE 25 (ae (some ⟨g,off,none⟩) xs.length c) (ah ag (k:Int))) (by have Au:¬(xs.length<=k):=(by omega);go_simp),fun w1 hS _=>gl (hcell w1 (hw.tr (hQ.tr hS))),trivial⟩ ?_;intro a W ho hF;replace hQ:=hQ.tr ho;clear ho;refine bO (t:=(x==v)) (hF.g 0 rfl) (fun Jy=>?_) (fun Jy=>?_)
  .skip
   replace hF:=hF.tl;have hd:decide (v∈xs)=true:=by simp at Jy;rw[decide_eq_true_eq,<-Jy,<-NV];exact bV hlt
   replace hF:=hF.del 4;simp only[lS,iD,bU,reduceIte] at hF;refine jz ⟨[],[],[],[]⟩ [(4,aH true)] hF hF trivial trivial ?_;intro a W ho hF;replace hQ:=hQ.tr ho;clear ho;refine fW ?_;show dE aq Tryz.f34 (fun e w'=>e=aF (aH (decide (v∈xs)))/\az w.heap.size w w') dP a W;exact bm (cH rfl _ _ _) hF.defers ⟨congrArg aP ((show a.eval (aM 4)=_ from(hF.g 0 rfl)).trans (by rw[hd])),(hw.tr hQ)⟩
  skip
  replace hF:=hF.tl;refine eI ?_;show bZ aq _ _ _ _;have q7:=hF;replace hF:=hF.tl;refine Mj ⟨[],[(1,ah ag ((k:Int)+1))],[],[]⟩ [(5,ah ag ((k:Int)+1))] q7 hF trivial ⟨fun w1 hS _=>ge (congrArg (aB ag) (show IntKind.i64.wrap ((k:Int)+1)=((k:Int)+1) by rw[a8];omega)),trivial⟩ ?_;intro a W ho hF;clear q7;replace hQ:=hQ.tr ho;clear ho;refine⟨⟨k+1,⟨by omega,?_⟩,⟨hF.size,hF.defers,hF.base⟩,hQ⟩,?_⟩
  .rw[bN hlt,List.mem_append,NV];simp at Jy;simp only[List.mem_singleton];rintro(h|h);exact hno h;exact Jy h.symm
  rw[show a.eval (aM 5)=ah ag ((k:Int)+1) from(hF.g 0 rfl)];simp only[sA];simp[intOf];omega
 skip
 replace hF:=hF.tl;refine wp_exit ?_
 have hd:decide (v∈xs)=false:=by
  rw[decide_eq_false_iff_not];have:k=xs.length:=by simp at Rw;omega
  rwa [this,List.take_length] at hno
 show bZ aq _ _ _ _;show bZ aq _ _ _ _;replace hF:=hF.del 4;simp only[lS,iD,bU,reduceIte] at hF;refine jz ⟨[],[],[],[]⟩ [(4,aH false)] hF hF trivial trivial ?_;intro a W ho hF;replace hQ:=hQ.tr ho;clear ho;refine fW ?_;show dE aq Tryz.f34 (fun e w'=>e=aF (aH (decide (v∈xs)))/\az w.heap.size w w') dP a W;exact bm (cH rfl _ _ _) hF.defers ⟨congrArg aP ((show a.eval (aM 4)=_ from(hF.g 0 rfl)).trans (by rw[hd])),(hw.tr hQ)⟩
theorem agE(n:Int)(h:0<=n/\n<=99)(w:ar):bu aq 167 #[ah ag n] w fun e w'=>e=aF (aH false)/\w=w':=by
 go_enter Tryz.func167,Tryz.ntmps167
 go_wp2_with (go_at_call 138;refine(iK _ _ _ (by omega) (by omega) _).mono ?_;rintro e w' ⟨rfl,rfl⟩)
 go_ret
 exact⟨rfl,rfl⟩
theorem Xh(xs:List Int)(MV:∀x∈xs,0<=x/\x<=99)(v:ak)(w:ar)(hv:Reads w v xs.length (xs.map (aB ag))) :
  bu aq 170 #[v,.func (.func 167) #[] #[]] w fun e w'=>e=aF (ah ag (-1))/\w=w':=by
 rcases hv with⟨rfl,hn,hx0⟩|⟨g,off,cap,rfl,hn,hg,hc⟩
 .obtain rfl:xs=[]:=by simpa using hx0
  clear hx0 hn
  go_enter Tryz.func170,Tryz.ntmps170
  go_wp2
  go_loopw [8] (fun i wr=>i=ah ag 0/\wr=w) (fun _ _=>0)
  case atStart=>exact⟨rfl,rfl⟩
  case round=>
   obtain⟨rfl,rfl⟩:=hrel;go_wp2
   go_ret
   exact⟨rfl,rfl⟩
 have HC:=aj hc;clear hc;generalize hL:xs.length=L at *;have HL:=aj hL;clear hL
 go_enter Tryz.func170,Tryz.ntmps170
 go_wp2
 go_loopw [5,8] (fun _ i wr=>∃k:Nat,k<=L/\i=ah ag k/\wr=w) (fun _ i _=>L-(intOf i).toNat)
 case atStart=>exact⟨0,by omega,rfl,rfl⟩
 case round=>
  obtain⟨k,hk,rfl,rfl⟩:=hrel
  by_cases hlt:k<L
  .have kD:k<xs.length:=by rw[HL.out];exact hlt
   have hcell:wr.cell? ⟨g,off+k,none⟩=some (ah ag xs[k]):=HC.out k _ (by simp[kD]);have hx:=MV xs[k] (bV kD);generalize xs[k]=x at *;clear MV
   go_wp2_with (go_at_call 167;refine(agE x hx _).mono ?_;rintro e w2 ⟨rfl,rfl⟩)
   go_roundw
   case rel=>exact⟨k+1,by omega,by simp⟩
   case measure=>(simp[intOf];try omega)
  obtain rfl:k=L:=by omega
  clear MV;go_wp2
  go_ret
  exact⟨rfl,rfl⟩
theorem Fc(xs:List Int)(MV:∀x∈xs,0<=x/\x<=99)(v:ak)(w:ar)(hv:Reads w v xs.length (xs.map (aB ag))) :
  bu aq 166 #[v,.func (.func 167) #[] #[]] w fun e w'=>e=aF (aH false)/\w=w':=by
 have H:=aj (Xh xs MV v w hv);clear MV hv
 go_enter Tryz.func166,Tryz.ntmps166
 go_wp2_with (go_at_call 170;refine H.out.mono ?_;rintro e w2 ⟨rfl,rfl⟩)
 go_ret
 exact⟨rfl,rfl⟩
def kj(lk:Int)(br:List Int):eN:=⟨lk,br.getD 0 0,br.getD 1 0,br.getD 2 0⟩
theorem MG(lk:Int):∀(br:List Int),br.length<=3->
  ((#[aB ag lk,ah ag 0,ah ag 0,ah ag 0]:Array ak).toList.take 1++br.map (aB ag)++(#[aB ag lk,ah ag 0,ah ag 0,ah ag 0]:Array ak).toList.drop (1+(br.map (aB ag)).length)).toArray=(kj lk br).cells
 |[],_=>rfl
 |[_],_=>rfl
 |[_,_],_=>rfl
 |[_,_,_],_=>rfl
 |_::_::_::_::_,h=>by simp at h
theorem Cr(b:BB)(bq aK aA:ak)(ml:List Mn)(N2:ml.length<=3)(lk:Int)(h0:0<=lk/\lk<=99)(br:List Int)(hbr:∀x∈br,0<=x/\x<=99)(hl:br.length=ml.length)(g off cap:Nat)(w:ar)(hm:Reads w bq ml.length (fF ml))
  (hg:g<w.heap.size) (Gi:br.length<=cap) (hcc:∀j u,(br.map (aB ag))[j]?=some u->w.cell? ⟨g,off+j,none⟩=some u) :
  bu aq 112 #[aR (b.cells bq aK aA),aR #[ah ag lk,ae (some ⟨g,off,none⟩) br.length cap]] w fun e w'=>e=aF (cO #[aR (kj lk br).cells,ah ag 0])/\az w.heap.size w w':=by
 have hv:Reads w (ae (some ⟨g,off,none⟩) br.length cap) br.length (br.map (aB ag)):=.inr ⟨g,off,cap,rfl,⟨by omega,Gi⟩,hg,hcc⟩;have hb3:az w.heap.size w (((w.alloc (aw (b.cells bq aK aA) 119)).alloc (aw #[ah ag lk,ae (some ⟨g,off,none⟩) br.length cap] 42)).alloc (aw #[ah ag 0,ah ag 0,ah ag 0,ah ag 0] 134)):=(((au _ w).alloc (ax _) _).alloc (by simp) _).alloc (by simp;omega) _;obtain⟨pm,cm,rfl,_⟩:=aW hm;have J3:=aj (Fc br hbr _ _ (hv.below hb3));have hb8:=((((au _ w).alloc (ax _) (aw (b.cells (ae pm ml.length cm) aK aA) 119)).alloc (by simp) (aw #[ah ag lk,ae (some ⟨g,off,none⟩) br.length cap] 42)).alloc (by simp;omega) (aw #[ah ag lk,ah ag 0,ah ag 0,ah ag 0] 134)).drew
 have hr8:((((w.alloc (aw (b.cells (ae pm ml.length cm) aK aA) 119)).alloc (aw #[ah ag lk,ae (some ⟨g,off,none⟩) br.length cap] 42)).alloc (aw #[ah ag lk,ah ag 0,ah ag 0,ah ag 0] 134)).drew).heap[w.heap.size+1+1]?=some (aw #[ah ag lk,ah ag 0,ah ag 0,ah ag 0] 134 (0,0)):=
  (mV w (b.cells (ae pm ml.length cm) aK aA) #[ah ag lk,ae (some ⟨g,off,none⟩) br.length cap] #[ah ag lk,ah ag 0,ah ag 0,ah ag 0] 119 42 134).2.2
 have xZ:=run_copy_row (P:=aq) _ 25 25 3 3 (w.heap.size+1+1) 1 3 3 ⟨g,off,none⟩ br.length cap _ 134 (br.map (aB ag)) eJ (by kernel_rfl) hr8 (by rw[fR];exact(Nat.min_eq_left (by omega)).symm)
  (fun j u hj=>by
   have h1:=(hb8.cell (p:=⟨g,off+j,none⟩) hg).trans (hcc j u hj);have e:(⟨g,off,none⟩:dc).add j=⟨g,off+j,none⟩:=by cases j<;>simp[k8]
   rw[e];exact h1) (by simp;try omega) (by intro u hu;simp at hu;obtain⟨x,_,rfl⟩:=hu;rfl)
 rw[MG lk br (by omega)] at xZ;have HR:mS ((((((w.alloc (aw (b.cells (ae pm ml.length cm) aK aA) 119)).alloc (aw #[ah ag lk,ae (some ⟨g,off,none⟩) br.length cap] 42)).alloc (aw #[ah ag lk,ah ag 0,ah ag 0,ah ag 0] 134)).drew).setRow (w.heap.size+1+1) (kj lk br).cells).heap[w.heap.size+1+1]?=some (aw (kj lk br).cells 134 (0,0))):=aj (cV hr8);have HB:=aj hb8;have hbl:(br.map (aB ag)).length=br.length:=fR _;rw[hbl] at xZ;clear hb3 hcc hv hm hr8 hb8 hbl hbr;rw[<-hl] at *;generalize br.length=L at *;generalize kj lk br=A at *;have z1:IntKind.i64.wrap (L:Int)=L:=fE _ (by omega) (by omega)
 go_enter Tryz.func112,Tryz.ntmps112
 go_wp2_with (first
  |(go_at_call 138;refine(iK _ _ _ (by omega) (by omega) _).mono ?_;rintro e w' ⟨rfl,rfl⟩)
  |(go_at_call 166;refine J3.out.mono ?_;rintro e w' ⟨rfl,rfl⟩))
 go_region
 all_goals
  go_wp2_with (first
   |(refine mg rfl 134 _ rfl _ rfl 134 _ (0,0) _ HR.out Tryz.underlying134 rfl (by kernel_rfl) ?_)
   |(refine fO rfl 134 _ _ rfl _ _ rfl rfl 134 _ HR.out (by kernel_rfl) rfl (by simp[cj]) ?_))
  refine bm (results_cell_tmp (g:=w.heap.size+1+1) rfl rfl (jo _ _ 134 134 _ (0,0) _ (cV HR.out) Tryz.underlying134 rfl (by kernel_rfl))) rfl ⟨rfl,?_⟩;exact dv (dv HB.out (by omega)) (by omega)
theorem U9(w:ar)(g o aiJ aiK:Nat):(Builtin.copy_ #[25,25] 3 #[ae (some ⟨g,o,none⟩) aiJ aiK,ae none 0 0]).run aq w=.ok (ah ag 0) w:=by
 cases hq:Tryz.prog.info? 3 with
 |none=>exact absurd hq (fun h=>by have:(Tryz.prog.info? 3).isSome=true:=(by kernel_rfl);rw[h] at this;cases this)
 |some i=>simp[Builtin.copy_,run_underlying eJ,Builtin.lenOf,Builtin.firstCells,sizeOf,typeInfo,hq,goInt,loadCells,storeCells]
theorem LJ(b:BB)(bq aK aA:ak)(ml:List Mn)(N2:ml.length<=3)(lk:Int)(h0:0<=lk/\lk<=99)(hl:ml.length=0)(w:ar)(hm:Reads w bq ml.length (fF ml)) :
  bu aq 112 #[aR (b.cells bq aK aA),aR #[ah ag lk,ae none 0 0]] w fun e w'=>e=aF (cO #[aR (kj lk []).cells,ah ag 0])/\az w.heap.size w w':=by
 have hv:Reads w (ae none 0 0) ([]:List Int).length (([]:List Int).map (aB ag)):=.inl ⟨rfl,rfl,rfl⟩;have hb3:az w.heap.size w (((w.alloc (aw (b.cells bq aK aA) 119)).alloc (aw #[ah ag lk,ae none 0 0] 42)).alloc (aw #[ah ag 0,ah ag 0,ah ag 0,ah ag 0] 134)):=(((au _ w).alloc (ax _) _).alloc (by simp) _).alloc (by simp;omega) _;obtain⟨pm,cm,rfl,_⟩:=aW hm;have J3:=aj (Fc [] (by simp) _ _ (hv.below hb3));have hb8:=((((au _ w).alloc (ax _) (aw (b.cells (ae pm ml.length cm) aK aA) 119)).alloc (by simp) (aw #[ah ag lk,ae none 0 0] 42)).alloc (by simp;omega) (aw #[ah ag lk,ah ag 0,ah ag 0,ah ag 0] 134)).drew
 have hr8:((((w.alloc (aw (b.cells (ae pm ml.length cm) aK aA) 119)).alloc (aw #[ah ag lk,ae none 0 0] 42)).alloc (aw #[ah ag lk,ah ag 0,ah ag 0,ah ag 0] 134)).drew).heap[w.heap.size+1+1]?=some (aw #[ah ag lk,ah ag 0,ah ag 0,ah ag 0] 134 (0,0)):=
  (mV w (b.cells (ae pm ml.length cm) aK aA) #[ah ag lk,ae none 0 0] #[ah ag lk,ah ag 0,ah ag 0,ah ag 0] 119 42 134).2.2
 have xZ:=U9 (((w.alloc (aw (b.cells (ae pm ml.length cm) aK aA) 119)).alloc (aw #[ah ag lk,ae none 0 0] 42)).alloc (aw #[ah ag lk,ah ag 0,ah ag 0,ah ag 0] 134)).drew (w.heap.size+1+1) 1 3 3;have HR:=aj hr8;have HB:=aj hb8;clear hb3 hv hm;generalize ml.length=L at *;subst hl
 go_enter Tryz.func112,Tryz.ntmps112
 go_wp2_with (first
  |(go_at_call 138;refine(iK _ _ _ (by omega) (by omega) _).mono ?_;rintro e w' ⟨rfl,rfl⟩)
  |(go_at_call 166;refine J3.out.mono ?_;rintro e w' ⟨rfl,rfl⟩))
 go_region
 all_goals
  go_wp2_with (first
   |(refine mg rfl 134 _ rfl _ rfl 134 _ (0,0) _ HR.out Tryz.underlying134 rfl (by kernel_rfl) ?_)
   |(refine fO rfl 134 _ _ rfl _ _ rfl rfl 134 _ HR.out (by kernel_rfl) rfl (by simp[cj]) ?_))
  refine bm (results_cell_tmp (g:=w.heap.size+1+1) rfl rfl (jo _ _ 134 134 _ (0,0) _ (cV HR.out) Tryz.underlying134 rfl (by kernel_rfl))) rfl ⟨rfl,?_⟩;exact dv HB.out (by omega)
theorem MF{lk:Int}(h0:0<=lk/\lk<=99):∀ {br:List Int},br.length<=3->(∀x∈br,0<=x/\x<=99)->(kj lk br).Ok
 |[],_,_=>⟨⟨h0.1,by show lk<=400;omega⟩,by simp[kj],by simp[kj],by simp[kj]⟩
 |[a],_,h=>⟨⟨h0.1,by show lk<=400;omega⟩,h a (by simp),by simp[kj],by simp[kj]⟩
 |[a,c],_,h=>⟨⟨h0.1,by show lk<=400;omega⟩,h a (by simp),h c (by simp),by simp[kj]⟩
 |[a,c,d],_,h=>⟨⟨h0.1,by show lk<=400;omega⟩,h a (by simp),h c (by simp),h d (by simp)⟩
 |_::_::_::_::_,h,_=>by simp at h
theorem Yc(b:BB)(bq aK aA:ak)(ml:List Mn)(ss:List Int)(ms:List Mk)(w:ar)(hL:Laid w)(hB:cU b bq aK aA ml ss ms w)(lk:Int)(h0:0<=lk/\lk<=99)(br:List Int)(hbr:∀x∈br,0<=x/\x<=99)(hl:br.length=ml.length)
  (g off cap:Nat) (hg:g<w.heap.size) (Gi:br.length<=cap) (hcc:∀j u,(br.map (aB ag))[j]?=some u->w.cell? ⟨g,off+j,none⟩=some u) (pl:List Int) (hp:eU b pl) (lv:ak) (hlv:Reads w lv pl.length (pl.map (aB ag))) :
  bu aq 32 #[aR (b.cells bq aK aA),aR #[ah ag lk,ae (some ⟨g,off,none⟩) br.length cap],lv] w fun e w'=>∃v,e=aF (cO #[v,ah ag 0])/\Reads w' v b.minutes.toNat ((b.jL (b.cD+(kj lk br).used) (bD pl) b.minutes.toNat).map (aB ag))/\az w.heap.size w w':=by
 have cY:=hB.ok;have xW:=cY.minutes;have nW:∀s∈pl,1<=s/\s<=8:=fun s h=>by have:=hp.mem s h;omega
 have Jp:bD pl<512:=mA pl nW;have N2:=hB.gZ.len;have hao:=MF h0 (by omega) hbr;obtain⟨pm,cm,rfl,_⟩:=aW hB.rm;obtain⟨pn,cn,rfl,_⟩:=aW hB.rs;obtain⟨pk,ck,rfl,_⟩:=aW hB.rk;obtain⟨qy,qL,rfl,_⟩:=aW hlv;have b0:az w.heap.size w ((w.alloc (aw (b.cells (ae pm ml.length cm) (ae pn ss.length cn) (ae pk ms.length ck)) 28)).alloc (aw #[ah ag lk,ae (some ⟨g,off,none⟩) br.length cap] 42)):=((au _ _).alloc (ax _) _).alloc (by simp) _;have HT:mS (Two w (b.cells (ae pm ml.length cm) (ae pn ss.length cn) (ae pk ms.length ck)) 28 #[ah ag lk,ae (some ⟨g,off,none⟩) br.length cap] 42 ((w.alloc (aw (b.cells (ae pm ml.length cm) (ae pn ss.length cn) (ae pk ms.length ck)) 28)).alloc (aw #[ah ag lk,ae (some ⟨g,off,none⟩) br.length cap] 42))):=aj ⟨(Two.mk' w _ _ _ _).one,(Two.mk' w _ _ _ _).two,b0,by simp⟩;have tO:=aj (eV b _ _ _ ml ss ms _ (hL.below b0) (hB.below b0))
 have HHd:mS (∀W,az w.heap.size w W->bu aq 112 #[aR (b.cells (ae pm ml.length cm) (ae pn ss.length cn) (ae pk ms.length ck)),aR #[ah ag lk,ae (some ⟨g,off,none⟩) br.length cap]] W fun e w'=>e=aF (cO #[aR (kj lk br).cells,ah ag 0])/\az W.heap.size W w'):=aj fun W hb=>
  Cr b _ _ _ ml N2 lk h0 br hbr hl g off cap W (hB.below hb).rm (bA hg hb.size) Gi fun j u hj=>(hb.cell (p:=⟨g,off+j,none⟩) hg).trans (hcc j u hj)
 have VY:mS (∀W,az w.heap.size w W->bu aq 113 #[aR (b.cells (ae pm ml.length cm) (ae pn ss.length cn) (ae pk ms.length ck)),ae qy pl.length qL] W fun e w'=>e=aF (ah ag 0)/\az W.heap.size W w'):=aj fun W hb=>qB b cY _ _ _ _ pl hp W (hlv.below hb);have HLv:=aj hlv;have Yh:=aj nW;clear hL hB hlv nW hcc b0 hbr hp;generalize hA:kj lk br=A at *;clear hA;generalize ml.length=lm at *;generalize ss.length=ln at *;generalize ms.length=lk2 at *;generalize br.length=lb at *;subst hl
 go_enter Tryz.func32,Tryz.ntmps32
 go_wp2_with (first
  |(go_at_call 71;refine tO.out.mono ?_;clear tO;rintro e w1 ⟨rfl,hb1⟩
    have sw:=HT.out.next hb1;have oX:=aj sw
    obtain⟨x0,x1,x2,x3,x4,x5,x6,x7,x8,x9,oh,og,o6,oA,oW⟩:=bT sw.one;have zt:=(aX w1 (aw (b.cells (ae pm lb cm) (ae pn ln cn) (ae pk lk2 ck)) 119) (w.heap.size+1) (by have:=sw.size;omega)).trans sw.two;have z0:=aJ zt 0 _ rfl;have z1:=aJ zt 1 _ rfl;clear zt
    clear sw hb1)
  |(go_at_call 112;refine(HHd.out _ (oX.out.below.alloc (by have:=oX.out.size;omega) _)).mono ?_;clear HHd;rintro e w2 ⟨rfl,hb2⟩
    have hk2:=(hb2.block w1.heap.size (by simp)).trans (ay w1 _);have GG:=aj hk2;have px:mS (az w.heap.size w w2):=aj ((oX.out.below.alloc (by have:=oX.out.size;omega) _).trans (hb2.mono (by have:=oX.out.size;simp;omega)));obtain⟨y0,y1,y2,y3,y4,y5,y6,y7,y8,y9,M6,O9,O8,O7,Kf⟩:=bT ((aX w2 (aw A.cells 134) _ (ai.1 hk2).1).trans hk2);have hs2:=hb2.size;simp only[ej] at hs2
    clear hk2 hb2)
  |(go_at_call 113;refine(VY.out _ (px.out.alloc px.out.size _)).mono ?_;clear VY;rintro e w3 ⟨rfl,hb3⟩
    have HK3:mS (w3.heap[w1.heap.size]?=some (aw (b.cells (ae pm lb cm) (ae pn ln cn) (ae pk lk2 ck)) 119 (0,0))):=aj ((hb3.block _ (by simp;omega)).trans ((aX _ _ _ (by omega)).trans GG.out));have HA3:mS (w3.heap[w2.heap.size]?=some (aw A.cells 134 (0,0))):=aj ((hb3.block _ (by simp)).trans (ay w2 _));have pJ:mS (az w.heap.size w w3):=aj ((px.out.alloc px.out.size _).trans (hb3.mono (by have:=px.out.size;simp;omega)))
    clear hb3))
 have hl3:=(ai.1 HK3.out).1;have ha3:=(ai.1 HA3.out).1
 refine bY (by kernel_rfl) [
 pV (aR (b.cells (ae pm lb cm) (ae pn ln cn) (ae pk lk2 ck))),
  pV (aR A.cells),
  pV (ae qy pl.length qL),
  pV (ah ag (bD pl)),
  fun v ds w9=>Reads w9 v b.minutes.toNat ((b.jL (b.cD+A.used) (bD pl) b.minutes.toNat).map (aB ag)),
  fun v ds w9=>Reads w9 v b.minutes.toNat ((b.jL (b.cD+A.used) (bD pl) b.minutes.toNat).map (aB ag)),
  pV (ah ag 0)]
  (fun w9=>az w3.heap.size w3 w9) [(2,ae qy pl.length qL),(9,pv w1.heap.size 0),(10,pv w2.heap.size 0)] (by kernel_rfl) ?rst (fun w1 w2 h hb=>h.trans (hb.mono h.size)) ((au _ _).drew) ⟨rfl,rfl,rfl,trivial⟩ ?reach ?rfin
 case rst=>
  refine⟨sV,sV,sV,sV,?_,?_,sV,trivial⟩
  .rintro v ds w1 w2 hS h hb;exact h.below hb
  rintro v ds w1 w2 hS h hb;exact h.below hb
 case reach=>
  refine⟨?_,?_,?_,?_,?_,?_,?_,trivial⟩<;>rintro ev w1 hS hc hg hf ⟨b2,b9,Ss,-⟩ hd
  .clear hd;obtain⟨u0,u1,u2,u3,u4,u5,u6,u7,u8,u9,u10,u11,u12,u13,u14⟩:=bT ((hS.block _ hl3).trans HK3.out);exact tV
  .clear hd;obtain⟨u0,u1,u2,u3⟩:=qo ((hS.block _ ha3).trans HA3.out);exact tV
  .clear hd;exact tV
  .have d2:ev (aM 37)=_:=hd.1 rfl;clear hd;refine yq (args:=#[ae qy pl.length qL]) (kx pl Yh.out _ _ (HLv.out.below (pJ.out.trans (hS.mono pJ.out.size)))) ?_ fun _=>rfl;go_simp
  .have d0:ev (aM 35)=_:=hd.1 rfl;have d1:ev (aM 36)=_:=hd.2.1 rfl;have d3:ev (aM 38)=_:=hd.2.2.1 rfl;clear hd;refine Lag.Yields.call (f:=114) (args:=#[aR (b.cells (ae pm lb cm) (ae pn ln cn) (ae pk lk2 ck)),aR A.cells,ah ag (bD pl)]) ?_ (zg b cY _ _ _ A hao (bD pl) Jp _) ?_
   .go_simp
   rintro e w2 ⟨v,rfl,h1,h2⟩;exact⟨_,rfl,Reads.iT h1 (by omega) (by simp[BB.jL]),.inl h2⟩
  .exact yv rfl (hd.1 rfl)
  clear hd;exact tV
 case rfin=>
  intro a2 w4 hR;have hS:=hR.s;have e5:Reads w4 (a2.tmps.getD 6 af) b.minutes.toNat ((b.jL (b.cD+A.used) (bD pl) b.minutes.toNat).map (aB ag)):=hR.val 5 (by decide);have e6:a2.tmps.getD 7 af=_:=hR.val 6 (by decide);have ha:=hR.lits 40 rfl;simp only[aU,List.range.loop,List.map] at ha;clear hR;have aej:=ha;rw[e6] at ha;generalize a2.tmps.getD 6 af=pv6 at *;generalize a2.tmps.getD=zz at ha;have HE:=aj e5;have HF:=aj hS;clear e5 e6 hS aej;subst ha;go_wp2;go_ret2;exact⟨_,rfl,HE.out,pJ.out.trans (HF.out.mono pJ.out.size)⟩
theorem Oe(b:BB)(bq aK aA v:ak)(ml:List Mn)(N2:ml.length<=3)(lk:Int)(h0:0<=lk/\lk<=99)(br:List Int)(hbr:∀x∈br,0<=x/\x<=99)(hl:br.length=ml.length)(w:ar)(hm:Reads w bq ml.length (fF ml))(hv:Reads w v br.length (br.map (aB ag))) :
  bu aq 112 #[aR (b.cells bq aK aA),aR #[ah ag lk,v]] w fun e w'=>e=aF (cO #[aR (kj lk br).cells,ah ag 0])/\az w.heap.size w w':=by
 rcases hv with⟨rfl,h1,-⟩|⟨g,off,cap,rfl,⟨-,Gi⟩,hg,hcc⟩
 .obtain rfl:br=[]:=List.length_eq_zero_iff.1 h1;exact LJ b bq aK aA ml N2 lk h0 hl.symm w hm
 exact Cr b bq aK aA ml N2 lk h0 br hbr hl g off cap w hm hg Gi hcc
theorem MK(b:BB)(p1 p2 p3 pb pq:Option dc)(c1 c2 c3 cb cq:Nat)(ml:List Mn)(ss:List Int)(ms:List Mk)(w:ar)(hL:Laid w)(hB:cU b (ae p1 ml.length c1) (ae p2 ss.length c2) (ae p3 ms.length c3) ml ss ms w)(lk:Int)(h0:0<=lk/\lk<=99)(br:List Int)(hbr:∀x∈br,0<=x/\x<=99)(hl:br.length=ml.length)(hv:Reads w (ae pb br.length cb) br.length (br.map (aB ag)))(pl:List Int)(hp:eU b pl)(hq:Reads w (ae pq pl.length cq) pl.length (pl.map (aB ag))):bu aq 32 #[aR (b.cells (ae p1 ml.length c1) (ae p2 ss.length c2) (ae p3 ms.length c3)),aR #[ah ag lk,ae pb br.length cb],ae pq pl.length cq] w fun e w'=>∃v,e=aF (cO #[v,ah ag 0])/\Reads w' v b.minutes.toNat ((b.jL (b.cD+(kj lk br).used) (bD pl) b.minutes.toNat).map (aB ag))/\az w.heap.size w w':=by
 have cY:=hB.ok;have xW:=cY.minutes;have nW:∀s∈pl,1<=s/\s<=8:=fun s h=>by have:=hp.mem s h;omega
 have Jp:bD pl<512:=mA pl nW;have N2:=hB.gZ.len;have hao:=MF h0 (by omega) hbr;have tO:∀w9,az w.heap.size w w9->_:=fun w9 h9=>eV b _ _ _ ml ss ms w9 (hL.below h9) (hB.below h9);have HHd:∀w9,az w.heap.size w w9->_:=fun w9 h9=>Oe b (ae p1 ml.length c1) (ae p2 ss.length c2) (ae p3 ms.length c3) (ae pb br.length cb) ml N2 lk h0 br hbr hl w9 (hB.below h9).rm (hv.below h9);have HPd:∀w9,az w.heap.size w w9->_:=fun w9 h9=>qB b cY (ae p1 ml.length c1) (ae p2 ss.length c2) (ae p3 ms.length c3) (ae pq pl.length cq) pl hp w9 (hq.below h9);have HPo:∀w9,az w.heap.size w w9->_:=fun w9 h9=>kx pl nW (ae pq pl.length cq) w9 (hq.below h9);clear hp nW hbr hv hq hL hB;generalize kj lk br=A at *;generalize bD pl=pn at *;have HPy:∀w9,_:=fun w9=>zg b cY (ae p1 ml.length c1) (ae p2 ss.length c2) (ae p3 ms.length c3) A hao pn Jp w9;generalize ml.length=n1 at *;generalize ss.length=n2 at *;generalize ms.length=n3 at *;generalize br.length=n4 at *;generalize pl.length=n5 at *;refine qK Tryz.func32 rfl rfl [(2,ae pq n5 cq),(1,aR #[ah ag lk,ae pb n4 cb]),(0,aR (b.cells (ae p1 n1 c1) (ae p2 n2 c2) (ae p3 n3 c3)))] ⟨kF rfl,kF rfl,kF rfl,trivial⟩ fun a W hF hw=>?_;refine qM (N:=4) rfl ?_;refine sU ⟨[],[],[],[]⟩ (some 3) (fun B=>pv B 0) (b.cells (ae p1 n1 c1) (ae p2 n2 c2) (ae p3 n3 c3)) 28 hF hF ?_;intro B3 W a G3 ho K3 hF;have anY:=aO hw.size G3;replace hw:=hw.tr ho;clear ho;rename ar=>W3;have h3:=au W3.heap.size W3;refine sU ⟨[],[],[],[]⟩ (some 4) (fun B=>pv B 0) (#[ah ag lk,ae pb n4 cb]) 42 hF hF ?_;intro B4 W a G4 ho K4 hF;have UL:=aO (hw.tr h3).size G4;have anX:=aO h3.size G4;replace h3:=h3.tr ho;clear ho;replace hw:=hw.tr h3;rename ar=>W4;have h4:=au W4.heap.size W4;refine ig 2 2 0 ⟨[],[],[],[]⟩ [(6,ae none 0 0),(7,ah ag 0)] hF hF trivial trivial ?_;intro a W ho hF;replace h4:=h4.tr ho;clear ho;refine rG ?_;refine eC ?_;refine jz ⟨[],[(1,ah ag 0)],[(B3,(b.cells (ae p1 n1 c1) (ae p2 n2 c2) (ae p3 n3 c3)))],[]⟩ [(8,ah ag 0)] hF hF ⟨fun w1 hS=>⟨_,_,aG K3 (h3.tr (h4.tr hS))⟩,trivial⟩ ⟨fun w1 hS _=>gc (tO w1 (hw.tr (h4.tr hS))),trivial⟩ ?_;intro a W ho hF;replace h4:=h4.tr ho;clear ho;refine jz ⟨[],[],[],[]⟩ [(16,aH false)] hF hF trivial trivial ?_;intro a W ho hF;replace h4:=h4.tr ho;clear ho;refine wp_cond (t:=false) (hF.g 0 rfl) ?_;show bZ aq _ _ _ _;replace hF:=hF.tl;refine eI ?_;show bZ aq _ _ _ _;refine qM (N:=4) rfl ?_;refine ig 0 2 2 ⟨[],[],[(B3,(b.cells (ae p1 n1 c1) (ae p2 n2 c2) (ae p3 n3 c3)))],[]⟩ [(19,aR (b.cells (ae p1 n1 c1) (ae p2 n2 c2) (ae p3 n3 c3)))] hF hF ⟨fun w1 hS=>⟨_,_,aG K3 (h3.tr (h4.tr hS))⟩,trivial⟩ trivial ?_;intro a W ho hF;replace h4:=h4.tr ho;clear ho;refine sU ⟨[],[],[],[]⟩ (some 9) (fun B=>pv B 0) (#[ah ag 0,ah ag 0,ah ag 0,ah ag 0,ah ag 0,ah ag 0,ah ag 0,ah ag 0,ah ag 0,ah ag 0,ah ag 0,ah ag 0,ae none 0 0,ae none 0 0,ae none 0 0]) 119 hF hF ?_;intro B9 W a G9 ho K9 hF;have aik:=aO (hw.tr h4).size G9;have aim:=aO (h3.tr h4).size G9;have ail:=aO h4.size G9;replace h4:=h4.tr ho;clear ho;replace hw:=hw.tr h4;replace h3:=h3.tr h4;rename ar=>W9;have h9:=au W9.heap.size W9;refine sS ⟨[],[],[],[]⟩ (#[ah ag 0,ah ag 0,ah ag 0,ah ag 0,ah ag 0,ah ag 0,ah ag 0,ah ag 0,ah ag 0,ah ag 0,ah ag 0,ah ag 0,ae none 0 0,ae none 0 0,ae none 0 0]) (b.cells (ae p1 n1 c1) (ae p2 n2 c2) (ae p3 n3 c3)) (aU 15) hF hF (aG K9 h9) ?_;intro W a up K9 hF;replace hw:=up.below (hw.tr h9) aik;replace h3:=up.below (h3.tr h9) aim;replace h4:=up.below (h4.tr h9) ail;clear up;rename ar=>Ao;have dU:=au Ao.heap.size Ao;refine rG ?_;refine qM (N:=9) rfl ?_;refine ig 0 6 3 ⟨[],[(2,cO #[aR A.cells,ah ag 0])],[(B9,(b.cells (ae p1 n1 c1) (ae p2 n2 c2) (ae p3 n3 c3))),(B4,#[ah ag lk,ae pb n4 cb])],[(1,1)]⟩ [(24,aR A.cells),(25,ah ag 0)] hF hF ⟨fun w1 hS=>⟨_,_,aG K9 (dU.tr hS)⟩,fun w1 hS=>⟨_,_,aG K4 (h4.tr (dU.tr hS))⟩,trivial⟩ ⟨fun w1 hS _=>gc (HHd w1 (hw.tr (dU.tr hS))),trivial⟩ ?_;intro a W ho hF;replace dU:=dU.tr ho;clear ho;refine sU ⟨[],[],[],[]⟩ (some 10) (fun B=>pv B 0) (#[ah ag 0,ah ag 0,ah ag 0,ah ag 0]) 134 hF hF ?_;intro B10 W a V3 ho FE hF;have aeF:=aO (hw.tr dU).size V3;have aeI:=aO (h3.tr dU).size V3;have aeH:=aO (h4.tr dU).size V3;have EU:=aO dU.size V3;replace dU:=dU.tr ho;clear ho;replace hw:=hw.tr dU;replace h3:=h3.tr dU;replace h4:=h4.tr dU;rename ar=>W10;have h10:=au W10.heap.size W10;refine sS ⟨[],[],[],[]⟩ (#[ah ag 0,ah ag 0,ah ag 0,ah ag 0]) A.cells (aU 4) hF hF (aG FE h10) ?_;intro W a up FE hF;replace hw:=up.below (hw.tr h10) aeF;replace h3:=up.below (h3.tr h10) aeI;replace h4:=up.below (h4.tr h10) aeH;replace dU:=up.below (dU.tr h10) EU;clear up;rename ar=>xu;have dL:=au xu.heap.size xu;refine ig 8 1 0 ⟨[],[],[],[]⟩ [(11,ah ag 0)] hF hF trivial trivial ?_;intro a W ho hF;replace dL:=dL.tr ho;clear ho;refine rG ?_;refine eC ?_;refine jz ⟨[],[],[],[]⟩ [(27,aH false)] hF hF trivial trivial ?_;intro a W ho hF;replace dL:=dL.tr ho;clear ho;refine wp_cond (t:=false) (hF.g 0 rfl) ?_;show bZ aq _ _ _ _;replace hF:=hF.tl;refine eI ?_;show bZ aq _ _ _ _;refine eC ?_;refine jz ⟨[],[(2,ah ag 0)],[(B9,(b.cells (ae p1 n1 c1) (ae p2 n2 c2) (ae p3 n3 c3)))],[]⟩ [(12,ah ag 0)] hF hF ⟨fun w1 hS=>⟨_,_,aG K9 (dU.tr (dL.tr hS))⟩,trivial⟩ ⟨fun w1 hS _=>gc (HPd w1 (hw.tr (dL.tr hS))),trivial⟩ ?_;intro a W ho hF;replace dL:=dL.tr ho;clear ho;refine jz ⟨[],[],[],[]⟩ [(33,aH false)] hF hF trivial trivial ?_;intro a W ho hF;replace dL:=dL.tr ho;clear ho;refine wp_cond (t:=false) (hF.g 0 rfl) ?_;show bZ aq _ _ _ _;replace hF:=hF.tl;refine eI ?_;show bZ aq _ _ _ _;replace hF:=(hF.del 7).del 6;simp only[lS,iD,bU,reduceIte] at hF;refine Md (by kernel_rfl) [pV (aR (b.cells (ae p1 n1 c1) (ae p2 n2 c2) (ae p3 n3 c3))),pV (aR A.cells),pV (ae pq n5 cq),pV (ah ag (pn:Int)),fun v _ w9=>Reads w9 v b.minutes.toNat ((b.jL (b.cD+A.used) pn b.minutes.toNat).map (aB ag)),fun v _ w9=>Reads w9 v b.minutes.toNat ((b.jL (b.cD+A.used) pn b.minutes.toNat).map (aB ag)),pV (ah ag 0)] _ (by kernel_rfl) hF.size hF.base ?_ ?_ ?_
 .refine⟨sV,sV,sV,sV,?_,?_,sV,trivial⟩<;>(rintro v ds w1 w2 hS h1 hb;exact h1.below hb)
 .refine⟨?_,?_,?_,?_,?_,?_,?_,trivial⟩<;>rintro ev w1 hS hc hg hf ⟨-,-,Ss,-,-,b9,-,-,-,-,b2,-,-,-⟩ hd
  .clear hd;have l9:=aG K9 (dU.tr (dL.tr hS));exact CZ 119 rfl b9 l9 Tryz.underlying119 rfl (by kernel_rfl) rfl
  .clear hd;have l9:=aG FE (dL.tr hS);exact CZ 134 rfl Ss l9 Tryz.underlying134 rfl (by kernel_rfl) rfl
  .clear hd;exact tV
  .have d2:ev (aM 37)=_:=hd.1 rfl;clear hd;refine yq (HPo w1 (hw.tr (dL.tr hS))) ?_ (fun _=>rfl);go_simp
  .have d0:ev (aM 35)=_:=hd.1 rfl;have d1:ev (aM 36)=_:=hd.2.1 rfl;have d3:ev (aM 38)=_:=hd.2.2.1 rfl;clear hd;refine Lag.Yields.call (f:=114) (args:=#[aR (b.cells (ae p1 n1 c1) (ae p2 n2 c2) (ae p3 n3 c3)),aR A.cells,ah ag (pn:Int)]) ?_ (HPy w1) ?_
   .go_simp
   rintro e w2 ⟨v,rfl,h1,hb⟩;exact⟨_,rfl,Reads.iT h1 (by omega) (by rw[fR,b.qA,Nat.mul_one]),.inl hb⟩
  .have d4:Reads w1 (ev (aM 39)) _ _:=hd.1 rfl;clear hd;exact Lag.Yields.value (v:=ev (aM 39)) (w':=w1) rfl ⟨d4,.inl (au _ _)⟩
  clear hd;exact tV
 intro a W hR;have ho:=hR.s;have h6:Reads W (a.eval (aM 6)) _ _:=hR.val 5 (by decide);have h7:a.eval (aM 7)=_:=hR.val 6 (by decide);replace hF:=hR.fr hF (by kernel_rfl);clear hR;replace dL:=dL.tr ho;clear ho;refine fW ?_;show dE aq Tryz.f32 (fun e w'=>∃v,e=aF (cO #[v,ah ag 0])/\Reads w' v b.minutes.toNat ((b.jL (b.cD+A.used) (pn) b.minutes.toNat).map (aB ag))/\az w.heap.size w w') dP a W;refine bm (results_tmp2 rfl _ _ _) hF.defers ⟨_,congrArg (fun x=>aP (cO #[a.eval (aM 6),x])) h7,h6,(hw.tr dL)⟩
def zX(x y:Int):Int:=if x<y then -1 else if y<x then 1 else 0
theorem I7(x:Int)(w:ar):bu aq 179 #[ah ag x] w fun e w'=>e=aF (aH false)/\w=w':=by
 go_enter Tryz.func179,Tryz.ntmps179
 go_wp2
 go_ret
 exact⟨rfl,rfl⟩
theorem wG(x y:Int)(w:ar):bu aq 161 #[ah ag x,ah ag y] w fun e w'=>e=aF (ah ag (zX x y))/\w=w':=by
 rcases Int.lt_trichotomy x y with h|h|h
 .have e:zX x y = -1:=by unfold zX;rw[if_pos h]
  rw[e];clear e
  go_enter Tryz.func161,Tryz.ntmps161
  go_wp2_with (go_at_call 179;refine(I7 _ _).mono ?_;rintro e w' ⟨rfl,rfl⟩)
  go_ret
  exact⟨rfl,rfl⟩
 .subst h;have e:zX x x=0:=by unfold zX;simp
  rw[e];clear e
  go_enter Tryz.func161,Tryz.ntmps161
  go_wp2_with (go_at_call 179;refine(I7 _ _).mono ?_;rintro e w' ⟨rfl,rfl⟩)
  go_ret
  exact⟨rfl,rfl⟩
 have e:zX x y=1:=by unfold zX;rw[if_neg (by omega),if_pos h]
 have h2:¬x<y:=by omega
 rw[e];clear e
 go_enter Tryz.func161,Tryz.ntmps161
 go_wp2_with (go_at_call 179;refine(I7 _ _).mono ?_;rintro e w' ⟨rfl,rfl⟩)
 go_ret
 exact⟨rfl,rfl⟩
def jZ:List Int->List Int->Int
 |[],[]=>0
 |[],_::_=>-1
 |_::_,[]=>1
 |x::xs,y::ys=>if zX x y≠0 then zX x y else jZ xs ys
theorem DC:∀(xs ys:List Int),-1<=jZ xs ys/\jZ xs ys<=1
 |[],[]=>by simp[jZ]
 |[],_::_=>by simp[jZ]
 |_::_,[]=>by simp[jZ]
 |x::xs,y::ys=>by
  have:=DC xs ys;unfold jZ
  by_cases h:zX x y≠0
  .rw[if_pos h];unfold zX
   by_cases h1:x<y
   .rw[if_pos h1];omega
   rw[if_neg h1]
   by_cases h2:y<x
   .rw[if_pos h2];omega
   rw[if_neg h2];omega
  rw[if_neg h];exact this
theorem RZ(xs ys:List Int)(k:Nat)(hx:k<xs.length)(hy:k<ys.length):jZ (xs.drop k) (ys.drop k)=if zX xs[k] ys[k]≠0 then zX xs[k] ys[k] else jZ (xs.drop (k+1)) (ys.drop (k+1)):=by
 rw[dS hx,dS hy];rfl
theorem RY(xs ys:List Int)(k:Nat)(hx:k<xs.length)(hy:ys.length<=k):jZ (xs.drop k) (ys.drop k)=1:=by
 rw[dS hx,List.drop_eq_nil_of_le hy];rfl
theorem Fe(xs ys:List Int)(k:Nat)(hx:xs.length<=k)(hk:k<=ys.length):jZ (xs.drop k) (ys.drop k)=if k<ys.length then -1 else 0:=by
 rw[List.drop_eq_nil_of_le hx]
 by_cases h:k<ys.length
 .rw[dS h,if_pos h];rfl
 rw[List.drop_eq_nil_of_le (by omega),if_neg h];rfl
theorem OA(w:ar):bu aq 98 #[(ae none 0 0),(ae none 0 0)] w fun e w'=>e=aF (ah ag (jZ [] []))/\w=w':=by
 go_enter Tryz.func98,Tryz.ntmps98
 go_wp2
 go_loop [11] (fun i=>i=ah ag 0) (fun _=>0)
 case atStart=>exact rfl
 case round=>
  obtain rfl:=hrel;go_wp2
  go_ret
  exact⟨rfl,rfl⟩
theorem Oz(w:ar)(ys:List Int)(g2 o2 L2 c2:Nat)(hL2:ys.length=L2)(yK:L2<=4294967296)(hc2:∀j u,(ys.map (aB ag))[j]?=some u->w.cell? ⟨g2,o2+j,none⟩=some u):bu aq 98 #[(ae none 0 0),(ae (some ⟨g2,o2,none⟩) L2 c2)] w fun e w'=>e=aF (ah ag (jZ [] ys))/\w=w':=by
 have Kb:=aj hL2;have HC2:=aj hc2;clear hL2 hc2
 go_enter Tryz.func98,Tryz.ntmps98
 go_wp2
 go_loop [11] (fun i=>i=ah ag 0) (fun _=>0)
 case atStart=>exact rfl
 case round=>
  obtain rfl:=hrel
  by_cases h0:0<L2
  .have HE:mS (jZ [] ys = -1):=by have:=Fe [] ys 0 (by simp) (by omega);rw[Kb.out,if_pos h0] at this;exact aj (by simpa using this)
   go_wp2
   go_ret
   exact⟨ic HE.out.symm,rfl⟩
  have HE:mS (jZ [] ys=0):=by have:=Fe [] ys 0 (by simp) (by omega);rw[Kb.out,if_neg h0] at this;exact aj (by simpa using this)
  go_wp2
  go_ret
  exact⟨ic HE.out.symm,rfl⟩
theorem Oy(w:ar)(xs:List Int)(g1 o1 L1 c1:Nat)(hL1:xs.length=L1)(uE:L1<=4294967296)(hc1:∀j u,(xs.map (aB ag))[j]?=some u->w.cell? ⟨g1,o1+j,none⟩=some u):bu aq 98 #[(ae (some ⟨g1,o1,none⟩) L1 c1),(ae none 0 0)] w fun e w'=>e=aF (ah ag (jZ xs []))/\w=w':=by
 have HL1:=aj hL1;have Ql:=aj hc1;clear hL1 hc1
 go_enter Tryz.func98,Tryz.ntmps98
 go_wp2
 go_loop [5,6,7,8,11] (fun _ _ _ _ i=>∃k:Nat,k<=L1/\i=ah ag k/\jZ xs []=jZ (xs.drop k) []) (fun _ _ _ _ i=>L1-(intOf i).toNat)
 case atStart=>exact⟨0,by omega,rfl,by simp⟩
 case round=>
  obtain⟨k,qG,rfl,Oa⟩:=hrel;have Qk:=aj Oa;clear Oa
  by_cases hlt:k<L1
  .have kD:k<xs.length:=by rw[HL1.out];exact hlt
   have aay:w.cell? ⟨g1,o1+k,none⟩=some (ah ag xs[k]):=Ql.out k _ (by simp[kD]);have HE:mS (jZ xs []=1):=by have h1:=Qk.out;rw[dS kD] at h1;rw[h1];rfl
   generalize xs[k]=x at *
   go_wp2_with (go_at_call 161;refine(wG _ _ _).mono ?_;rintro e w' ⟨rfl,rfl⟩)
   go_ret
   exact⟨ic HE.out.symm,rfl⟩
  obtain rfl:k=L1:=by omega
  have HE:mS (jZ xs []=0):=by rw[Qk.out,List.drop_eq_nil_of_le (by rw[HL1.out];exact ax _)];rfl
  go_wp2_with (go_at_call 161;refine(wG _ _ _).mono ?_;rintro e w' ⟨rfl,rfl⟩)
  go_ret
  exact⟨ic HE.out.symm,rfl⟩
theorem Ox(w:ar)(xs:List Int)(g1 o1 L1 c1:Nat)(hL1:xs.length=L1)(uE:L1<=4294967296)(hc1:∀j u,(xs.map (aB ag))[j]?=some u->w.cell? ⟨g1,o1+j,none⟩=some u)(ys:List Int)(g2 o2 L2 c2:Nat)(hL2:ys.length=L2)(yK:L2<=4294967296)(hc2:∀j u,(ys.map (aB ag))[j]?=some u->w.cell? ⟨g2,o2+j,none⟩=some u):bu aq 98 #[(ae (some ⟨g1,o1,none⟩) L1 c1),(ae (some ⟨g2,o2,none⟩) L2 c2)] w fun e w'=>e=aF (ah ag (jZ xs ys))/\w=w':=by
 have HL1:=aj hL1;have Ql:=aj hc1;clear hL1 hc1;have Kb:=aj hL2;have HC2:=aj hc2;clear hL2 hc2
 go_enter Tryz.func98,Tryz.ntmps98
 go_wp2
 go_loop [5,6,7,8,11] (fun _ _ _ _ i=>∃k:Nat,k<=L1/\k<=L2/\i=ah ag k/\jZ xs ys=jZ (xs.drop k) (ys.drop k)) (fun _ _ _ _ i=>L1-(intOf i).toNat)
 case atStart=>exact⟨0,by omega,by omega,rfl,by simp⟩
 case round=>
  obtain⟨k,qG,hk2,rfl,Oa⟩:=hrel;have Qk:=aj Oa;clear Oa
  by_cases hlt:k<L1
  .have kD:k<xs.length:=by rw[HL1.out];exact hlt
   have aay:w.cell? ⟨g1,o1+k,none⟩=some (ah ag xs[k]):=Ql.out k _ (by simp[kD])
   by_cases hlt2:k<L2
   .have hky:k<ys.length:=by rw[Kb.out];exact hlt2
    have ahO:w.cell? ⟨g2,o2+k,none⟩=some (ah ag ys[k]):=HC2.out k _ (by simp[hky]);have hst:=RZ xs ys k kD hky;generalize xs[k]=x at *;generalize ys[k]=y at *;have hC:=wG x y;obtain⟨c,hc⟩:∃c,zX x y=c:=⟨_,rfl⟩
    rw[hc] at hst hC;have HCC:=aj hc;clear hc
    by_cases hz:c=0
    .subst hz;rw[if_neg (by simp)] at hst;have HST:=aj hst;clear hst
     go_wp2_with (go_at_call 161;refine(hC _).mono ?_;rintro e w' ⟨rfl,rfl⟩)
     go_round
     case rel=>exact⟨k+1,by omega,by omega,by go_num,Qk.out.trans HST.out⟩
     case measure=>simp[intOf];omega
    have hb:(c==0)=false:=by simpa using hz
    have hb2:(c !=0)=true:=by simpa using hz
    rw[if_pos hz] at hst;have HST:=aj hst;have HZ:=aj hz;clear hst hz
    go_wp2_with (go_at_call 161;refine(hC _).mono ?_;rintro e w' ⟨rfl,rfl⟩)
    go_ret
    exact⟨ic (Qk.out.trans HST.out).symm,rfl⟩
   have HE:mS (jZ xs ys=1):=Qk.out.trans (RY xs ys k kD (by rw[Kb.out];omega));generalize xs[k]=x at *
   go_wp2_with (go_at_call 161;refine(wG _ _ _).mono ?_;rintro e w' ⟨rfl,rfl⟩)
   go_ret
   exact⟨ic HE.out.symm,rfl⟩
  obtain rfl:k=L1:=by omega
  have hend:=Fe xs ys k (by rw[HL1.out];exact ax _) (by rw[Kb.out];exact hk2);rw[Kb.out] at hend
  by_cases h0:k<L2
  .rw[if_pos h0] at hend;have HE:mS (jZ xs ys = -1):=Qk.out.trans hend;clear hend
   go_wp2_with (go_at_call 161;refine(wG _ _ _).mono ?_;rintro e w' ⟨rfl,rfl⟩)
   go_ret
   exact⟨ic HE.out.symm,rfl⟩
  rw[if_neg h0] at hend;have HE:mS (jZ xs ys=0):=Qk.out.trans hend;clear hend
  go_wp2_with (go_at_call 161;refine(wG _ _ _).mono ?_;rintro e w' ⟨rfl,rfl⟩)
  go_ret
  exact⟨ic HE.out.symm,rfl⟩
theorem rK(xs ys:List Int)(v1 v2:ak)(w:ar)(h1:Reads w v1 xs.length (xs.map (aB ag)))(h2:Reads w v2 ys.length (ys.map (aB ag))) :
  bu aq 98 #[v1,v2] w fun e w'=>e=aF (ah ag (jZ xs ys))/\w=w':=by
 rcases h1 with⟨rfl,hn,_⟩|⟨g1,o1,c1,rfl,uE,_,hc1⟩
 .obtain rfl:=bf hn;rcases h2 with⟨rfl,hn,_⟩|⟨g2,o2,c2,rfl,yK,_,hc2⟩
  .obtain rfl:=bf hn;exact OA w
  exact Oz w ys g2 o2 _ c2 rfl yK.1 hc2
 rcases h2 with⟨rfl,hn,_⟩|⟨g2,o2,c2,rfl,yK,_,hc2⟩
 .obtain rfl:=bf hn;exact Oy w xs g1 o1 _ c1 rfl uE.1 hc1
 exact Ox w xs g1 o1 _ c1 rfl uE.1 hc1 ys g2 o2 _ c2 rfl yK.1 hc2
def gV(p:Nat):List Int:=(upTo p 8).map fun(m:Nat)=>(m:Int)
theorem Rf(p:Nat):(gV p).length=(upTo p 8).length:=by simp[gV]
theorem sX(p:Nat)(hp:p<512)(w:ar):bu aq 99 #[ah ag p] w fun e w'=>∃v,e=aF v/\Reads w' v (gV p).length ((gV p).map (aB ag))/\az w.heap.size w w':=by
 refine(Le p hp w).mono ?_;rintro e w' ⟨v,rfl,hown,hb⟩;have hle:=wa p 8;refine⟨v,rfl,?_,hb⟩;have:=Reads.iT hown (by omega) (by simp);rw[Rf];simpa [gV,Function.comp_def] using this
def sZ(a b:Nat):Bool:=decide ((upTo a 8).length<(upTo b 8).length)||(decide ((upTo a 8).length=(upTo b 8).length)&&decide (jZ (gV a) (gV b)<0))
def sY(a b:Nat):Bool:=decide ((upTo a 8).length<(upTo b 8).length)||(decide ((upTo a 8).length=(upTo b 8).length)&&decide (0<jZ (gV a) (gV b)))
theorem Ri(a b:Nat)(ha:a<512)(hb:b<512)(w:ar):bu aq 96 #[ah ag a,ah ag b] w fun e w'=>e=aF (aH (sZ a b))/\az w.heap.size w w':=by
 have hA:=tE a ha;have hB:=tE b hb;have lA:=sX a ha;have lB:=sX b hb;have ahl:=wa a 8;have ahk:=wa b 8;have hL:sZ a b=(decide ((upTo a 8).length<(upTo b 8).length)||(decide ((upTo a 8).length=(upTo b 8).length)&&decide (jZ (gV a) (gV b)<0))):=rfl;have zI:=DC (gV a) (gV b);generalize (upTo a 8).length=na at *;generalize (upTo b 8).length=nb at *;obtain⟨c,hc⟩:∃c,jZ (gV a) (gV b)=c:=⟨_,rfl⟩
 rw[hc] at hL zI;have hC:=rK (gV a) (gV b);rw[hc] at hC;generalize sZ a b=r at *;have HL:=aj hL;clear hL hc
 have K:∀w,bu aq 96 #[ah ag a,ah ag b] w fun e w'=>e=aF (aH (decide (na<nb)||(decide (na=nb)&&decide (c<0))))/\az w.heap.size w w':=by
  clear HL;intro w
  by_cases h1:na<nb
  .have e1:decide (na<nb)=true:=by simp;omega
   have er:(decide (na<nb)||(decide (na=nb)&&decide (c<0)))=true:=by rw[decide_eq_true h1];rfl
   rw[er];have H1:=aj h1;clear h1 er
   go_enter Tryz.func96,Tryz.ntmps96
   go_wp2_with fail
   refine(hA _).mono ?_;rintro e w1 ⟨rfl,hb1⟩
   go_wp2_with fail
   refine(hB _).mono ?_;rintro e w2 ⟨rfl,hb2⟩;go_wp2
   go_ret
   exact⟨rfl,hb1.trans (hb2.mono hb1.size)⟩
  have e1:decide (na<nb)=false:=by simp;omega
  by_cases h2:na=nb
  .subst h2;have er:(decide (na<na)||(decide (na=na)&&decide (c<0)))=decide (c<0):=by simp
   rw[er];clear h1 er e1;have e1:decide (na<na)=false:=by simp
   have e9:(na==na)=true:=by simp
   go_enter Tryz.func96,Tryz.ntmps96
   go_wp2_with fail
   refine(hA _).mono ?_;rintro e w1 ⟨rfl,hb1⟩
   go_wp2_with fail
   refine(hB _).mono ?_;rintro e w2 ⟨rfl,hb2⟩
   go_wp2_with fail
   refine(hA _).mono ?_;rintro e w3 ⟨rfl,hb3⟩
   go_wp2_with fail
   refine(hB _).mono ?_;rintro e w4 ⟨rfl,hb4⟩
   go_wp2_with fail
   refine(lA _).mono ?_;rintro e w5 ⟨v5,rfl,hr5,hb5⟩
   go_wp2_with fail
   refine(lB _).mono ?_;rintro e w6 ⟨v6,rfl,hr6,hb6⟩;have Ua:=hr5.below hb6
   go_wp2_with fail
   refine(hC v5 v6 _ Ua hr6).mono ?_;rintro e w7 ⟨rfl,rfl⟩;clear hr5 Ua hr6;go_wp2
   go_ret
   exact⟨rfl,hb1.trans ((hb2.trans ((hb3.trans ((hb4.trans ((hb5.trans (hb6.mono hb5.size)).mono hb4.size)).mono hb3.size)).mono hb2.size)).mono hb1.size)⟩
  have e2:decide ((na:Int)=(nb:Int))=false:=by simp;omega
  have e3:((na:Int)==(nb:Int))=false:=by simp;omega
  have e4:(na==nb)=false:=by simp;omega
  have er:(decide (na<nb)||(decide (na=nb)&&decide (c<0)))=false:=by rw[decide_eq_false h1,decide_eq_false h2];rfl
  rw[er];have H1:=aj h1;have H2:=aj h2;clear h1 h2 er
  go_enter Tryz.func96,Tryz.ntmps96
  go_wp2_with fail
  refine(hA _).mono ?_;rintro e w1 ⟨rfl,hb1⟩
  go_wp2_with fail
  refine(hB _).mono ?_;rintro e w2 ⟨rfl,hb2⟩
  go_wp2_with fail
  refine(hA _).mono ?_;rintro e w3 ⟨rfl,hb3⟩
  go_wp2_with fail
  refine(hB _).mono ?_;rintro e w4 ⟨rfl,hb4⟩;go_wp2
  go_ret
  exact⟨rfl,hb1.trans ((hb2.trans ((hb3.trans (hb4.mono hb3.size)).mono hb2.size)).mono hb1.size)⟩
 rw[HL.out];exact K w
theorem Rh(a b:Nat)(ha:a<512)(hb:b<512)(w:ar):bu aq 102 #[ah ag a,ah ag b] w fun e w'=>e=aF (aH (sY a b))/\az w.heap.size w w':=by
 have hA:=tE a ha;have hB:=tE b hb;have lA:=sX a ha;have lB:=sX b hb;have ahl:=wa a 8;have ahk:=wa b 8;have hL:sY a b=(decide ((upTo a 8).length<(upTo b 8).length)||(decide ((upTo a 8).length=(upTo b 8).length)&&decide (0<jZ (gV a) (gV b)))):=rfl;have zI:=DC (gV a) (gV b);generalize (upTo a 8).length=na at *;generalize (upTo b 8).length=nb at *;obtain⟨c,hc⟩:∃c,jZ (gV a) (gV b)=c:=⟨_,rfl⟩
 rw[hc] at hL zI;have hC:=rK (gV a) (gV b);rw[hc] at hC;generalize sY a b=r at *;have HL:=aj hL;clear hL hc
 have K:∀w,bu aq 102 #[ah ag a,ah ag b] w fun e w'=>e=aF (aH (decide (na<nb)||(decide (na=nb)&&decide (0<c))))/\az w.heap.size w w':=by
  clear HL;intro w
  by_cases h1:na<nb
  .have e1:decide (na<nb)=true:=by simp;omega
   have er:(decide (na<nb)||(decide (na=nb)&&decide (0<c)))=true:=by rw[decide_eq_true h1];rfl
   rw[er];have H1:=aj h1;clear h1 er
   go_enter Tryz.func102,Tryz.ntmps102
   go_wp2_with fail
   refine(hA _).mono ?_;rintro e w1 ⟨rfl,hb1⟩
   go_wp2_with fail
   refine(hB _).mono ?_;rintro e w2 ⟨rfl,hb2⟩;go_wp2
   go_ret
   exact⟨rfl,hb1.trans (hb2.mono hb1.size)⟩
  have e1:decide (na<nb)=false:=by simp;omega
  by_cases h2:na=nb
  .subst h2;have er:(decide (na<na)||(decide (na=na)&&decide (0<c)))=decide (0<c):=by simp
   rw[er];clear h1 er e1;have e1:decide (na<na)=false:=by simp
   have e9:(na==na)=true:=by simp
   go_enter Tryz.func102,Tryz.ntmps102
   go_wp2_with fail
   refine(hA _).mono ?_;rintro e w1 ⟨rfl,hb1⟩
   go_wp2_with fail
   refine(hB _).mono ?_;rintro e w2 ⟨rfl,hb2⟩
   go_wp2_with fail
   refine(hA _).mono ?_;rintro e w3 ⟨rfl,hb3⟩
   go_wp2_with fail
   refine(hB _).mono ?_;rintro e w4 ⟨rfl,hb4⟩
   go_wp2_with fail
   refine(lA _).mono ?_;rintro e w5 ⟨v5,rfl,hr5,hb5⟩
   go_wp2_with fail
   refine(lB _).mono ?_;rintro e w6 ⟨v6,rfl,hr6,hb6⟩;have Ua:=hr5.below hb6
   go_wp2_with fail
   refine(hC v5 v6 _ Ua hr6).mono ?_;rintro e w7 ⟨rfl,rfl⟩;clear hr5 Ua hr6;go_wp2
   go_ret
   exact⟨rfl,hb1.trans ((hb2.trans ((hb3.trans ((hb4.trans ((hb5.trans (hb6.mono hb5.size)).mono hb4.size)).mono hb3.size)).mono hb2.size)).mono hb1.size)⟩
  have e2:decide ((na:Int)=(nb:Int))=false:=by simp;omega
  have e3:((na:Int)==(nb:Int))=false:=by simp;omega
  have e4:(na==nb)=false:=by simp;omega
  have er:(decide (na<nb)||(decide (na=nb)&&decide (0<c)))=false:=by rw[decide_eq_false h1,decide_eq_false h2];rfl
  rw[er];have H1:=aj h1;have H2:=aj h2;clear h1 h2 er
  go_enter Tryz.func102,Tryz.ntmps102
  go_wp2_with fail
  refine(hA _).mono ?_;rintro e w1 ⟨rfl,hb1⟩
  go_wp2_with fail
  refine(hB _).mono ?_;rintro e w2 ⟨rfl,hb2⟩
  go_wp2_with fail
  refine(hA _).mono ?_;rintro e w3 ⟨rfl,hb3⟩
  go_wp2_with fail
  refine(hB _).mono ?_;rintro e w4 ⟨rfl,hb4⟩;go_wp2
  go_ret
  exact⟨rfl,hb1.trans ((hb2.trans ((hb3.trans (hb4.mono hb3.size)).mono hb2.size)).mono hb1.size)⟩
 rw[HL.out];exact K w
def jK(lt:Nat->Nat->Bool)(first:Nat)(more:List Nat):Nat:=more.foldl (fun b x=>if lt x b then x else b) first
theorem Fw(lt:Nat->Nat->Bool)(first:Nat)(more:List Nat)(k:Nat)(hk:k<more.length):jK lt first (more.take (k+1))=if lt more[k] (jK lt first (more.take k)) then more[k] else jK lt first (more.take k):=by
 unfold jK;rw[bN hk,List.foldl_append];rfl
theorem Aj(lt:Nat->Nat->Bool):∀(more:List Nat) (first:Nat),first<512->(∀x∈more,x<512)->jK lt first more<512
 |[],first,h,_=>h
 |x::more,first,h,hx=>by
  refine Aj lt more _ ?_ (fun y hy=>hx y (by simp[hy]));show(if lt x first=true then x else first)<512
  by_cases hl:lt x first=true
  .rw[if_pos hl];exact hx x (by simp)
  rw[if_neg hl];exact h
theorem Sd(first:Nat)(hf:first<512)(more:List Nat)(hm:∀x∈more,x<512)(v:ak)(w:ar)(hv:Reads w v more.length (more.map fun(p:Nat)=>aB ag (p:Int))) :
  bu aq 160 #[.func (.func 96) #[] #[],ah ag first,v] w fun e w'=>e=aF (ah ag (jK sZ first more:Nat))/\az w.heap.size w w':=by
 rcases hv with⟨rfl,hn,_⟩|⟨g,off,cap,rfl,hn,hg,hc⟩
 .obtain rfl:=bf hn;clear hn
  go_enter Tryz.func160,Tryz.ntmps160
  go_wp2
  go_loopw [1,11] (fun b i wr=>i=ah ag 0/\b=ah ag first/\az w.heap.size w wr) (fun _ _ _=>0)
  case atStart=>exact⟨rfl,rfl,au _ _⟩
  case round=>
   obtain⟨rfl,rfl,en⟩:=hrel;go_wp2
   go_ret
   exact⟨rfl,en⟩
 have HC:=aj hc;have HM:=aj hm;clear hc hm;generalize hL:more.length=L at *;have HL:=aj hL;clear hL
 go_enter Tryz.func160,Tryz.ntmps160
 go_wp2
 go_loopw [1,8,11] (fun b _ i wr=>∃k:Nat,k<=L/\i=ah ag k/\b=ah ag (jK sZ first (more.take k):Nat)/\az w.heap.size w wr) (fun _ _ i _=>L-(intOf i).toNat)
 case atStart=>exact⟨0,by omega,rfl,rfl,au _ _⟩
 case round=>
  obtain⟨k,hk,rfl,rfl,en⟩:=hrel;have hbl:=Aj sZ (more.take k) first hf (fun x hx=>HM.out x (eQ hx))
  by_cases hlt:k<L
  .have kD:k<more.length:=by rw[HL.out];exact hlt
   have hcell:wr.cell? ⟨g,off+k,none⟩=some (ah ag (more[k]:Nat)):=(en.cell (p:=⟨g,off+k,none⟩) hg).trans (HC.out k _ (by simp[kD]));have hx:=HM.out more[k] (bV kD);have hst:=Fw sZ first more k kD
   generalize more[k]=x at *;generalize jK sZ first (more.take k)=bst at *
   have hB:=Ri x bst hx hbl;have hsz:=en.size;cases hr:sZ x bst
   all_goals
    rw[hr] at hst hB;have HR:=aj hr;have HST:=aj hst;clear hr hst
    go_wp2_with (go_at_call 96;refine(hB _).mono ?_;rintro e w2 ⟨rfl,hb2⟩)
    go_roundw
    case rel=>exact⟨k+1,by omega,by go_num,by rw[HST.out];rfl,en.trans (hb2.mono hsz)⟩
    case measure=>simp[intOf];omega
  obtain rfl:k=L:=by omega
  have tZ:more.take k=more:=dp (by rw[HL.out];exact ax _);rw[tZ];clear tZ;go_wp2
  go_ret
  exact⟨rfl,en⟩
theorem Sc(first:Nat)(hf:first<512)(more:List Nat)(hm:∀x∈more,x<512)(v:ak)(w:ar)(hv:Reads w v more.length (more.map fun(p:Nat)=>aB ag (p:Int))) :
  bu aq 160 #[.func (.func 102) #[] #[],ah ag first,v] w fun e w'=>e=aF (ah ag (jK sY first more:Nat))/\az w.heap.size w w':=by
 rcases hv with⟨rfl,hn,_⟩|⟨g,off,cap,rfl,hn,hg,hc⟩
 .obtain rfl:=bf hn;clear hn
  go_enter Tryz.func160,Tryz.ntmps160
  go_wp2
  go_loopw [1,11] (fun b i wr=>i=ah ag 0/\b=ah ag first/\az w.heap.size w wr) (fun _ _ _=>0)
  case atStart=>exact⟨rfl,rfl,au _ _⟩
  case round=>
   obtain⟨rfl,rfl,en⟩:=hrel;go_wp2
   go_ret
   exact⟨rfl,en⟩
 have HC:=aj hc;have HM:=aj hm;clear hc hm;generalize hL:more.length=L at *;have HL:=aj hL;clear hL
 go_enter Tryz.func160,Tryz.ntmps160
 go_wp2
 go_loopw [1,8,11] (fun b _ i wr=>∃k:Nat,k<=L/\i=ah ag k/\b=ah ag (jK sY first (more.take k):Nat)/\az w.heap.size w wr) (fun _ _ i _=>L-(intOf i).toNat)
 case atStart=>exact⟨0,by omega,rfl,rfl,au _ _⟩
 case round=>
  obtain⟨k,hk,rfl,rfl,en⟩:=hrel;have hbl:=Aj sY (more.take k) first hf (fun x hx=>HM.out x (eQ hx))
  by_cases hlt:k<L
  .have kD:k<more.length:=by rw[HL.out];exact hlt
   have hcell:wr.cell? ⟨g,off+k,none⟩=some (ah ag (more[k]:Nat)):=(en.cell (p:=⟨g,off+k,none⟩) hg).trans (HC.out k _ (by simp[kD]));have hx:=HM.out more[k] (bV kD);have hst:=Fw sY first more k kD
   generalize more[k]=x at *;generalize jK sY first (more.take k)=bst at *
   have hB:=Rh x bst hx hbl;have hsz:=en.size;cases hr:sY x bst
   all_goals
    rw[hr] at hst hB;have HR:=aj hr;have HST:=aj hst;clear hr hst
    go_wp2_with (go_at_call 102;refine(hB _).mono ?_;rintro e w2 ⟨rfl,hb2⟩)
    go_roundw
    case rel=>exact⟨k+1,by omega,by go_num,by rw[HST.out];rfl,en.trans (hb2.mono hsz)⟩
    case measure=>simp[intOf];omega
  obtain rfl:k=L:=by omega
  have tZ:more.take k=more:=dp (by rw[HL.out];exact ax _);rw[tZ];clear tZ;go_wp2
  go_ret
  exact⟨rfl,en⟩
theorem WJ(b:BB)(bq aK aA:ak)(ml:List Mn)(ss:List Int)(ms:List Mk)(w:ar)(hL:Laid w)(hB:cU b bq aK aA ml ss ms w)(hne:bw b ml ss ms≠[])(cp:Nat)
  (hown:∀W,az w.heap.size w W->bu aq 126 #[aR (b.cells bq aK aA),pv cp 0] W fun e W'=>e=aF (ah ag 0)/\az W.heap.size W W') :
  bu aq 103 #[aR (b.cells bq aK aA),.func (.func 126) #[] #[pv cp 0]] w fun e w'=>∃v,e=aF (cO #[aR (b.open bq aK aA v),ah ag 0])/\gY w' w.heap.size v (bw b ml ss ms)/\az w.heap.size w w':=by
 have tO:mS (∀W,az w.heap.size w W->bu aq 71 #[aR (b.cells bq aK aA)] W fun e w'=>e=aF (ah ag 0)/\az W.heap.size W w'):=aj fun W hb=>eV b bq aK aA ml ss ms W (hL.below hb) (hB.below hb);have Vz:mS (∀W,az w.heap.size w W->bu aq 116 #[.func (.func 117) #[aR (b.cells bq aK aA)] #[]] W fun e w'=>∃v,e=aF v/\gY w' W.heap.size v (bw b ml ss ms)/\az W.heap.size W w'):=aj fun W hb=>oO b bq aK aA ml ss ms W (hB.below hb);have MQ:=aj hown;obtain⟨pm,cm,rfl,_⟩:=aW hB.rm;obtain⟨pn,cn,rfl,_⟩:=aW hB.rs;obtain⟨pk,ck,rfl,_⟩:=aW hB.rk;have kC:0<(bw b ml ss ms).length:=dm.2 hne;clear hL hB hne hown;generalize bw b ml ss ms=all at *;generalize ml.length=lm at *;generalize ss.length=ln at *;generalize ms.length=lk at *;have b0:az w.heap.size w ((w.alloc (aw (b.cells (ae pm lm cm) (ae pn ln cn) (ae pk lk ck)) 28)).alloc (aw iu 122)):=((au _ _).alloc (ax _) _).alloc (by simp) _;have HT:mS (Two w (b.cells (ae pm lm cm) (ae pn ln cn) (ae pk lk ck)) 28 iu 122 ((w.alloc (aw (b.cells (ae pm lm cm) (ae pn ln cn) (ae pk lk ck)) 28)).alloc (aw iu 122))):=aj ⟨(Two.mk' w _ _ _ _).one,(Two.mk' w _ _ _ _).two,b0,by simp⟩;have Kc:=aj b0;clear b0
 go_enter Tryz.func103,Tryz.ntmps103
 go_wp2_with (first
  |(refine mg rfl 122 _ rfl _ rfl 122 _ (0,0) _ HL7.out jd rfl (by kernel_rfl) ?_)
  |(refine fO rfl 122 _ _ rfl _ _ rfl rfl 122 _ O4.out (by kernel_rfl) rfl (by simp[cj]) ?_)
  |(go_at_call 71;refine(tO.out _ Kc.out).mono ?_;clear tO;rintro e w1 ⟨rfl,hb1⟩
    have sw:=HT.out.next hb1;have oX:=aj sw
    obtain⟨x0,x1,x2,x3,x4,x5,x6,x7,x8,x9,oh,og,o6,oA,oW⟩:=bT sw.one
    clear sw hb1)
  |(go_at_call 126;refine(MQ.out _ (oX.out.below.alloc (by have:=oX.out.size;omega) _)).mono ?_;clear MQ;rintro e w2 ⟨rfl,hb2⟩
    have C2:=(oX.out.next ((au _ _).alloc (ax _) (aw (b.open (ae pm lm cm) (ae pn ln cn) (ae pk lk ck) (ae none 0 0)) 122))).next hb2;have GD:=aj C2
    have hk2:=(hb2.block w1.heap.size (by simp)).trans (ay w1 _);have GG:=aj hk2;have hs1:=oX.out.size;have hs2:=hb2.size;obtain⟨y0,y1,y2,y3,y4,y5,y6,y7,y8,y9,M6,O9,O8,O7,Kf,Il⟩:=jC hk2
    clear C2 hk2 hb2)
  |(go_at_call 116;refine(Vz.out _ GD.out.below).mono ?_;clear Vz;rintro e w3 ⟨v,rfl,jn,hb3⟩
    have FN:=GD.out.next hb3;have Qj:=aj FN;have MR:=aj jn
    simp only[ej] at hs2;have hk3:=(hb3.block w1.heap.size (by omega)).trans GG.out;have HK3:=aj hk3;have hs3:=hb3.size;clear y0 y1 y2 y3 y4 y5 y6 y7 y8 y9 M6 O9 O8 O7 Kf Il;have Il:=aJ hk3 15 _ rfl;have f7:=dg hk3 15;have pJ:=aj hb3
    obtain⟨gv,oP,rfl,EJ⟩:∃gv oP,v=ae (some ⟨gv,0,none⟩) all.length oP/\w2.heap.size<=gv:=by
     rcases jn.1.2 with⟨_,h0⟩|⟨g,cap,cur,rfl,hg,_⟩
     .omega
     exact⟨g,cap,rfl,hg⟩
    have HL7:mS ((w3.setCell ⟨w1.heap.size,15,none⟩ (ae (some ⟨gv,0,none⟩) all.length oP)).heap[w1.heap.size]?=some (aw (b.open (ae pm lm cm) (ae pn ln cn) (ae pk lk ck) (ae (some ⟨gv,0,none⟩) all.length oP)) 122 (0,0))):=aj (dh _ hk3);have O4:mS ((w3.setCell ⟨w1.heap.size,15,none⟩ (ae (some ⟨gv,0,none⟩) all.length oP)).heap[w.heap.size+1]?=some (aw iu 122 (0,0))):=aj ((bt _ _ _ _ (by show w.heap.size+1≠w1.heap.size;omega)).trans FN.two)
    clear FN hk3 hb3 jn))
 refine bm (results_cell_tmp (g:=w.heap.size+1) rfl rfl (jo _ _ 122 122 _ (0,0) _ (cV O4.out) jd rfl (by kernel_rfl))) rfl ⟨_,rfl,?_,?_⟩
 .have hs1:=oX.out.size;refine(MR.out.at_ fun g hg=>?_).base (by omega);have EM:g=gv:=by simpa [jq] using hg.symm
  subst EM;exact(setRow_other (by omega)).trans (bt _ _ _ _ (by show g≠w1.heap.size;omega))
 have hs1:=oX.out.size;exact dv (Qj.out.below.setCell (p:=⟨w1.heap.size,15,none⟩) (by show _<=w1.heap.size;omega) _) (by omega)
theorem Ji:(Tryz.prog.info? 81).map (fun i=>(i.zero,i.size,i.bytes))=some (some (aR #[ah ag 0,ah ag 0,ah ag 0]),3,24):=by kernel_rfl
theorem ZT:(Tryz.prog.info? 79).map (fun i=>(i.zero,i.size,i.bytes))=some (some (aR #[.string ⟨#[]⟩,ah ag 0,ah ag 0]),3,32):=by kernel_rfl
theorem OC(v:ak)(n:Nat)(xs:List ak)(hl:xs.length=n*3)(h1:∀u∈xs,u.oneCell'=true)(hn:n<=1000)(w:ar)(hv:Reads w v n xs) :
  bu aq 149 #[v] w fun e w'=>∃v',e=aF v'/\w'.ownsRow w.heap.size 81 3 v' n xs/\az w.heap.size w w':=by
 obtain⟨i0,hi,hz0,hz1,hz2⟩:=j3 Ji;rcases hv with⟨rfl,rfl,rfl⟩|⟨g,off,cap,rfl,Gi,hg,hc⟩
 .have hq:∀w,(binOp BinOp.eql 26 (lz none 0 0) (lz none 0 0)).run aq w=.ok (aH true) w:=fun w=>by kernel_rfl
  go_enter Tryz.func149,Tryz.ntmps149
  go_wp2
  go_ret
  exact⟨_,rfl,dR _ _ _ _,au _ _⟩
 have Ql:mS (∀j u,xs[j]?=some u->(w.alloc (aw #[] 81)).cell? ((⟨g,off,none⟩:dc).add j)=some u):=aj fun j u hj=>by
  have e:(⟨g,off,none⟩:dc).add j=⟨g,off+j,none⟩:=by cases j<;>simp[k8]
  rw[e];exact(ey _ _ _ hg).trans (hc j u hj)
 have HO:=aj h1;have HL:=aj hl;clear hc h1 hl;have hq:∀w,(binOp BinOp.eql 26 (lz (some ⟨g,off,none⟩) n cap) (lz none 0 0)).run aq w=.ok (aH false) w:=fun w=>by kernel_rfl
 go_enter Tryz.func149,Tryz.ntmps149
 go_wp2_with (at_builtin;refine iM _ rfl _ _ 26 rfl w.heap.size 81 i0 (aR #[ah ag 0,ah ag 0,ah ag 0]) 3 24 Tryz.underlying26 hi hz0 hz1 hz2 rfl (by decide) _ _ _ rfl (World.ownsRow_made w #[] 0 (ax _) (by unfold jM;omega) rfl) ⟨g,off,none⟩ n cap xs rfl HL.out Ql.out HO.out (by unfold jM;omega) (by omega) (by simp) ?_;intro v' w1 hown hgrow hnil)
 go_ret
 refine⟨_,rfl,by simpa using hown,?_⟩;exact((au _ _).alloc (ax _) (aw #[] 81)).grown hgrow (by simp) fun j hj=>by have h2:w.heap.size=j:=bj hj;omega
theorem Va(v:ak)(n:Nat)(xs:List ak)(hl:xs.length=n*3)(h1:∀u∈xs,u.oneCell'=true)(hn:n<=1000)(w:ar)(hv:Reads w v n xs) :
  bu aq 154 #[v] w fun e w'=>∃v',e=aF v'/\w'.ownsRow w.heap.size 79 3 v' n xs/\az w.heap.size w w':=by
 obtain⟨i0,hi,hz0,hz1,hz2⟩:=j3 ZT;rcases hv with⟨rfl,rfl,rfl⟩|⟨g,off,cap,rfl,Gi,hg,hc⟩
 .have hq:∀w,(binOp BinOp.eql 24 (lz none 0 0) (lz none 0 0)).run aq w=.ok (aH true) w:=fun w=>by kernel_rfl
  go_enter Tryz.func154,Tryz.ntmps154
  go_wp2
  go_ret
  exact⟨_,rfl,dR _ _ _ _,au _ _⟩
 have Ql:mS (∀j u,xs[j]?=some u->(w.alloc (aw #[] 79)).cell? ((⟨g,off,none⟩:dc).add j)=some u):=aj fun j u hj=>by
  have e:(⟨g,off,none⟩:dc).add j=⟨g,off+j,none⟩:=by cases j<;>simp[k8]
  rw[e];exact(ey _ _ _ hg).trans (hc j u hj)
 have HO:=aj h1;have HL:=aj hl;clear hc h1 hl;have hq:∀w,(binOp BinOp.eql 24 (lz (some ⟨g,off,none⟩) n cap) (lz none 0 0)).run aq w=.ok (aH false) w:=fun w=>by kernel_rfl
 go_enter Tryz.func154,Tryz.ntmps154
 go_wp2_with (at_builtin;refine iM _ rfl _ _ 24 rfl w.heap.size 79 i0 (aR #[.string ⟨#[]⟩,ah ag 0,ah ag 0]) 3 32 Tryz.underlying24 hi hz0 hz1 hz2 rfl (by decide) _ _ _ rfl (World.ownsRow_made w #[] 0 (ax _) (by unfold jM;omega) rfl) ⟨g,off,none⟩ n cap xs rfl HL.out Ql.out HO.out (by unfold jM;omega) (by omega) (by simp) ?_;intro v' w1 hown hgrow hnil)
 go_ret
 refine⟨_,rfl,by simpa using hown,?_⟩;exact((au _ _).alloc (ax _) (aw #[] 79)).grown hgrow (by simp) fun j hj=>by have h2:w.heap.size=j:=bj hj;omega
theorem R1(v:ak)(n:Nat)(xs:List ak)(hl:xs.length=n*1)(h1:∀u∈xs,u.oneCell'=true)(hn:n<=1000)(w:ar)(hv:Reads w v n xs) :
  bu aq 156 #[v] w fun e w'=>∃v',e=aF v'/\w'.ownsRow w.heap.size 3 1 v' n xs/\az w.heap.size w w':=by
 obtain⟨i0,hi,hz0,hz1,hz2⟩:=j3 info3;rcases hv with⟨rfl,rfl,rfl⟩|⟨g,off,cap,rfl,Gi,hg,hc⟩
 .have hq:∀w,(binOp BinOp.eql 25 (lz none 0 0) (lz none 0 0)).run aq w=.ok (aH true) w:=fun w=>by kernel_rfl
  go_enter Tryz.func156,Tryz.ntmps156
  go_wp2
  go_ret
  exact⟨_,rfl,dR _ _ _ _,au _ _⟩
 have Ql:mS (∀j u,xs[j]?=some u->(w.alloc (aw #[] 3)).cell? ((⟨g,off,none⟩:dc).add j)=some u):=aj fun j u hj=>by
  have e:(⟨g,off,none⟩:dc).add j=⟨g,off+j,none⟩:=by cases j<;>simp[k8]
  rw[e];exact(ey _ _ _ hg).trans (hc j u hj)
 have HO:=aj h1;have HL:=aj hl;clear hc h1 hl;have hq:∀w,(binOp BinOp.eql 25 (lz (some ⟨g,off,none⟩) n cap) (lz none 0 0)).run aq w=.ok (aH false) w:=fun w=>by kernel_rfl
 go_enter Tryz.func156,Tryz.ntmps156
 go_wp2_with (at_builtin;refine iM _ rfl _ _ 25 rfl w.heap.size 3 i0 (ah ag 0) 1 8 eJ hi hz0 hz1 hz2 rfl (by decide) _ _ _ rfl (World.ownsRow_made w #[] 0 (ax _) (by unfold jM;omega) rfl) ⟨g,off,none⟩ n cap xs rfl HL.out Ql.out HO.out (by unfold jM;omega) (by omega) (by simp) ?_;intro v' w1 hown hgrow hnil)
 go_ret
 refine⟨_,rfl,by simpa using hown,?_⟩;exact((au _ _).alloc (ax _) (aw #[] 3)).grown hgrow (by simp) fun j hj=>by have h2:w.heap.size=j:=bj hj;omega
end Go.Proofs.YtffladgmkiimjaaGreatDoor
